import PyProof.Rows.All
import Wide.All
import OpenK.AllK
import Wide.FinOn
import KE.KStateDown
import HandS.ForMost
import HandS.WordsExc
import HandS.More
import HandS.Defaults
import HandS.TupAny
import HandS.TupMul
import HandS.Conv
import HandS.Style
import HandS.NoneIn
import HandS.Set
import HandS.SetFor
import HandS.Strs
import HandS.DictComp
import HandS.TupSets
import HandS.Wide
import HandS.Flow
import HandS.Steps
import HandS.Zip
import HandS.Iter
import PyProof.ListMulRoad
import PyProof.FactsAll.tuple_2
import HandS.Words
import HandS.Head0
import HandS.Head1
import HandS.Head2
import HandS.HeadEnd
import HandS.HeadHook1
import HandS.HeadHook2
import PySem.Challenge.RW_drawloom_k52_whole_lanes_alone
set_option Elab.async false
set_option linter.all false
set_option maxRecDepth 100000
set_option maxHeartbeats 0
namespace LK
open PySem PySem.Spec PyProof.Rows L2

/-! ### values that never change -/
inductive Dt where
  | non | bl (b : Bool) | int (i : Int) | str (x : Str) | tup (l : List Dt)
mutual
/-- v stands for d -/
def IsD (H : Hp) : Dt → V → Prop
  | .non, v => v = .non
  | .bl b, v => v = .bl b
  | .int i, v => v = .int i
  | .str x, v => v = .str x
  | .tup l, v => ∃ a vs, v = .ref a ∧ H a = some (.tup vs) ∧ IsDs H l vs
def IsDs (H : Hp) : List Dt → List V → Prop
  | [], vs => vs = []
  | d :: l, vs => ∃ v r, vs = v :: r ∧ IsD H d v ∧ IsDs H l r
end
/-- the tuples stay -/
def Tk (H H' : Hp) : Prop := ∀ a xs, H a = some (.tup xs) → H' a = some (.tup xs)
/-- all that is tracked stays -/
def Ext (H H' : Hp) : Prop := ∀ a o, H a = some o → H' a = some o
theorem Tk.refl (H : Hp) : Tk H H := fun _ _ h => h
theorem Tk.trans {H H1 H2 : Hp} (a : Tk H H1) (b : Tk H1 H2) : Tk H H2 := fun x o h => b x o (a x o h)
theorem Ext.refl (H : Hp) : Ext H H := fun _ _ h => h
theorem Ext.trans {H H1 H2 : Hp} (a : Ext H H1) (b : Ext H1 H2) : Ext H H2 := fun x o h => b x o (a x o h)
theorem Ext.tk {H H' : Hp} (e : Ext H H') : Tk H H' := fun a _ h => e a _ h
theorem Ext.new {H : Hp} {p : Addr} {o : HO} (h : H p = none) : Ext H (upd H p o) := fun a u e => by
  rw [upd_ne (ne_of_none e h)]
  exact e
mutual
theorem IsD.tk {H H' : Hp} (k : Tk H H') : ∀ (d : Dt) (v : V), IsD H d v → IsD H' d v
  | .non, _, h => h
  | .bl _, _, h => h
  | .int _, _, h => h
  | .str _, _, h => h
  | .tup l, _, h => by
    obtain ⟨a, vs, e, ha, hs⟩ := h
    exact ⟨a, vs, e, k _ _ ha, IsDs.tk k l vs hs⟩
theorem IsDs.tk {H H' : Hp} (k : Tk H H') : ∀ (l : List Dt) (vs : List V), IsDs H l vs → IsDs H' l vs
  | [], _, h => h
  | d :: l, _, h => by
    obtain ⟨v, r, e, h1, h2⟩ := h
    exact ⟨v, r, e, IsD.tk k d v h1, IsDs.tk k l r h2⟩
end
theorem IsDs.length {H : Hp} : ∀ {l : List Dt} {vs : List V}, IsDs H l vs → vs.length = l.length
  | [], vs, h => by
    have e : vs = [] := h
    rw [e]; rfl
  | d :: l, vs, h => by
    obtain ⟨v, r, rfl, _, h2⟩ := h
    rw [List.length_cons, List.length_cons, IsDs.length h2]
theorem IsDs.get {H : Hp} : ∀ {l : List Dt} {vs : List V} {i : Nat} {d : Dt}, IsDs H l vs → l[i]? = some d → ∃ v, vs[i]? = some v ∧ IsD H d v
  | [], _, _, _, _, e => by simp at e
  | d :: l, vs, 0, d', h, e => by
    obtain ⟨v, r, rfl, h1, h2⟩ := h
    have e1 : d = d' := Option.some.inj e
    exact ⟨v, rfl, e1 ▸ h1⟩
  | d :: l, vs, i + 1, d', h, e => by
    obtain ⟨v, r, rfl, h1, h2⟩ := h
    exact IsDs.get (i := i) h2 e
theorem IsDs.append {H : Hp} : ∀ {l m : List Dt} {vs ws : List V}, IsDs H l vs → IsDs H m ws → IsDs H (l ++ m) (vs ++ ws)
  | [], m, vs, ws, h, h' => by
    have e : vs = [] := h
    rw [e]; exact h'
  | d :: l, m, vs, ws, h, h' => by
    obtain ⟨v, r, rfl, h1, h2⟩ := h
    exact ⟨v, r ++ ws, rfl, h1, IsDs.append h2 h'⟩
theorem IsDs.take {H : Hp} : ∀ {l : List Dt} {vs : List V} (n : Nat), IsDs H l vs → IsDs H (l.take n) (vs.take n)
  | [], vs, n, h => by
    have e : vs = [] := h
    rw [e]; simp [IsDs]
  | d :: l, vs, 0, h => by simp [IsDs]
  | d :: l, vs, n + 1, h => by
    obtain ⟨v, r, rfl, h1, h2⟩ := h
    exact ⟨v, r.take n, rfl, h1, IsDs.take n h2⟩
theorem IsDs.drop {H : Hp} : ∀ {l : List Dt} {vs : List V} (n : Nat), IsDs H l vs → IsDs H (l.drop n) (vs.drop n)
  | [], vs, n, h => by
    have e : vs = [] := h
    rw [e]; simp [IsDs]
  | d :: l, vs, 0, h => h
  | d :: l, vs, n + 1, h => by
    obtain ⟨v, r, rfl, h1, h2⟩ := h
    exact IsDs.drop n h2
theorem IsDs.reverse {H : Hp} : ∀ {l : List Dt} {vs : List V}, IsDs H l vs → IsDs H l.reverse vs.reverse
  | [], vs, h => by
    have e : vs = [] := h
    rw [e]; simp [IsDs]
  | d :: l, vs, h => by
    obtain ⟨v, r, rfl, h1, h2⟩ := h
    rw [List.reverse_cons, List.reverse_cons]
    exact IsDs.append (IsDs.reverse h2) ⟨v, [], rfl, h1, rfl⟩
/-- plain data: no tuple -/
def Dt.flat : Dt → Bool
  | .tup _ => false
  | _ => true
def Dt.val : Dt → V
  | .non => .non
  | .bl b => .bl b
  | .int i => .int i
  | .str x => .str x
  | .tup _ => .non
theorem IsD.val {H : Hp} {d : Dt} {v : V} (h : IsD H d v) (f : d.flat = true) : v = d.val := by
  cases d with
  | tup l => cases f
  | _ => exact h
theorem IsDs.ints {H : Hp} : ∀ {ns : List Int} {vs : List V}, IsDs H (ns.map Dt.int) vs → vs = ns.map V.int
  | [], vs, h => h
  | n :: ns, vs, h => by
    obtain ⟨v, r, rfl, h1, h2⟩ := h
    have e1 : v = V.int n := h1
    rw [e1, IsDs.ints h2]; rfl
theorem IsDs.of_ints {H : Hp} : ∀ (ns : List Int), IsDs H (ns.map Dt.int) (ns.map V.int)
  | [] => rfl
  | n :: ns => ⟨_, _, rfl, rfl, IsDs.of_ints ns⟩

/-! ### owned memory -/
abbrev AS := Addr → Prop
structure Atom where
  I : AS → Hp → Prop
  out : ∀ F H H1, I F H → (∀ a, F a → H1 a = H a) → Tk H H1 → I F H1
  dom : ∀ F H a, I F H → F a → H a ≠ none ∧ ∀ xs, H a ≠ some (.tup xs)
def Own : List Atom → AS → Hp → Prop
  | [], F, _ => ∀ a, ¬ F a
  | A :: J, F, H => ∃ F1 F2 : AS, (∀ a, F a ↔ F1 a ∨ F2 a) ∧ (∀ a, F1 a → ¬ F2 a) ∧ A.I F1 H ∧ Own J F2 H
theorem Own.out : ∀ {J : List Atom} {F : AS} {H H1 : Hp}, Own J F H → (∀ a, F a → H1 a = H a) → Tk H H1 → Own J F H1
  | [], _, _, _, h, _, _ => h
  | A :: J, F, H, H1, h, k, t => by
    obtain ⟨F1, F2, e, d, h1, h2⟩ := h
    exact ⟨F1, F2, e, d, A.out _ _ _ h1 (fun a ha => k a ((e a).mpr (.inl ha))) t, Own.out h2 (fun a ha => k a ((e a).mpr (.inr ha))) t⟩
theorem Own.dom : ∀ {J : List Atom} {F : AS} {H : Hp} {a : Addr}, Own J F H → F a → H a ≠ none ∧ ∀ xs, H a ≠ some (.tup xs)
  | [], _, _, a, h, ha => absurd ha (h a)
  | A :: J, F, H, a, h, ha => by
    obtain ⟨F1, F2, e, d, h1, h2⟩ := h
    rcases (e a).mp ha with q | q
    · exact A.dom _ _ _ h1 q
    · exact Own.dom h2 q
theorem Own.set : ∀ {J : List Atom} {F F' : AS} {H : Hp}, Own J F H → (∀ a, F a ↔ F' a) → Own J F' H
  | [], F, F', H, h, e => fun a ha => h a ((e a).mpr ha)
  | A :: J, F, F', H, h, e => by
    obtain ⟨F1, F2, e1, d, h1, h2⟩ := h
    exact ⟨F1, F2, fun a => (e a).symm.trans (e1 a), d, h1, h2⟩
theorem Own.perm {J J' : List Atom} (p : J.Perm J') : ∀ {F : AS} {H : Hp}, Own J F H → Own J' F H := by
  induction p with
  | nil => intro F H h; exact h
  | cons x _ ih =>
    intro F H h
    obtain ⟨F1, F2, e, d, h1, h2⟩ := h
    exact ⟨F1, F2, e, d, h1, ih h2⟩
  | swap x y l =>
    intro F H h
    obtain ⟨F1, F2, e, d, h1, F3, F4, e', d', h3, h4⟩ := h
    refine ⟨F3, fun a => F1 a ∨ F4 a, fun a => ?_, fun a h3a h => ?_, h3, F1, F4, fun a => Iff.rfl, fun a h1a h4a => d a h1a ((e' a).mpr (.inr h4a)), h1, h4⟩
    · rw [e a, e' a]
      exact ⟨fun h => h.elim (fun h => .inr (.inl h)) fun h => h.elim .inl fun h => .inr (.inr h), fun h => h.elim (fun h => .inr (.inl h)) fun h => h.elim .inl fun h => .inr (.inr h)⟩
    · rcases h with h | h
      · exact d a h ((e' a).mpr (.inl h3a))
      · exact d' a h3a h
  | trans _ _ ih1 ih2 => intro F H h; exact ih2 (ih1 h)
/-- an atom of the list, ahead -/
theorem mem_perm {A : Atom} {J : List Atom} (h : A ∈ J) : ∃ J0, J.Perm (A :: J0) := by
  obtain ⟨s, t, rfl⟩ := List.append_of_mem h
  exact ⟨s ++ t, List.perm_middle⟩
theorem Own.atom {A : Atom} {J : List Atom} {F : AS} {H : Hp} (h : Own J F H) (m : A ∈ J) : ∃ F1, (∀ a, F1 a → F a) ∧ A.I F1 H := by
  obtain ⟨J0, p⟩ := mem_perm m
  obtain ⟨F1, F2, e, d, h1, h2⟩ := h.perm p
  exact ⟨F1, fun a ha => (e a).mpr (.inl ha), h1⟩

/-! ### frames -/
structure Fr (F : AS) (H : Hp) (F' : AS) (H' : Hp) : Prop where
  keep : ∀ a o, H a = some o → ¬ F a → H' a = some o
  out : ∀ a, H a ≠ none → ¬ F a → ¬ F' a
  tup : Tk H H'
theorem Fr.refl (F : AS) (H : Hp) : Fr F H F H := ⟨fun _ _ h _ => h, fun _ _ h => h, Tk.refl H⟩
theorem Fr.trans {F F1 F2 : AS} {H H1 H2 : Hp} (x : Fr F H F1 H1) (y : Fr F1 H1 F2 H2) : Fr F H F2 H2 where
  keep := fun a o h n => y.keep a o (x.keep a o h n) (x.out a (by rw [h]; exact fun z => by cases z) n)
  out := fun a h n => by
    cases e : H a with
    | none => exact absurd e h
    | some o => exact y.out a (by rw [x.keep a o e n]; exact fun z => by cases z) (x.out a h n)
  tup := x.tup.trans y.tup
theorem Fr.sub {F F1 F2 : AS} {H H1 : Hp} (x : Fr F H F1 H1) (s : ∀ a, F2 a → F1 a) : Fr F H F2 H1 := ⟨x.keep, fun a h n q => x.out a h n (s a q), x.tup⟩
theorem Fr.ext {F : AS} {H H1 : Hp} (e : Ext H H1) : Fr F H F H1 := ⟨fun a o h _ => e a o h, fun _ _ h => h, e.tk⟩
theorem Fr.to_ext {F' : AS} {H H1 : Hp} {F : AS} (x : Fr F H F' H1) (n : ∀ a, ¬ F a) : Ext H H1 := fun a o h => x.keep a o h (n a)
theorem Own.ext {J : List Atom} {F : AS} {H H1 : Hp} (h : Own J F H) (e : Ext H H1) : Own J F H1 := h.out (fun a ha => by
  cases q : H a with
  | none => exact absurd q (h.dom ha).1
  | some o => exact e a o q) e.tk

/-! ### what a slot holds -/
inductive Sl where
  | any | val (v : V) | dat (d : Dt) | lst (ds : List Dt) | lsx (a : Addr) (vs : List V) (ds : List Dt)
def SlOk (F : AS) (H : Hp) : Sl → V → Prop
  | .any, _ => True
  | .val w, v => v = w
  | .dat d, v => IsD H d v
  | .lst ds, v => ∃ l vs, v = .ref l ∧ ¬ F l ∧ H l = some (.lst vs) ∧ IsDs H ds vs
  | .lsx l vs ds, v => v = .ref l ∧ ¬ F l ∧ H l = some (.lst vs) ∧ IsDs H ds vs
theorem SlOk.fr {F F' : AS} {H H' : Hp} (x : Fr F H F' H') : ∀ {s : Sl} {v : V}, SlOk F H s v → SlOk F' H' s v
  | .any, _, _ => trivial
  | .val _, _, h => h
  | .dat _, _, h => IsD.tk x.tup _ _ h
  | .lst ds, v, h => by
    obtain ⟨l, vs, e, n, hl, hs⟩ := h
    exact ⟨l, vs, e, x.out l (by rw [hl]; exact fun z => by cases z) n, x.keep l _ hl n, IsDs.tk x.tup _ _ hs⟩
  | .lsx l vs ds, v, h => by
    obtain ⟨e, n, hl, hs⟩ := h
    exact ⟨e, x.out l (by rw [hl]; exact fun z => by cases z) n, x.keep l _ hl n, IsDs.tk x.tup _ _ hs⟩
abbrev SE := List (Option Sl)
def SlO (F : AS) (H : Hp) : Option Sl → Option V → Prop
  | none, _ => True
  | some s, w => ∃ v, w = some v ∧ SlOk F H s v
def EnvD (F : AS) (H : Hp) : SE → L2.St → Prop
  | [], σ => σ = []
  | o :: δ, σ => ∃ w r, σ = w :: r ∧ SlO F H o w ∧ EnvD F H δ r
def TmpD (F : AS) (H : Hp) : List Sl → List V → Prop
  | [], τ => τ = []
  | s :: ss, τ => ∃ v r, τ = v :: r ∧ SlOk F H s v ∧ TmpD F H ss r
theorem SlO.fr {F F' : AS} {H H' : Hp} (x : Fr F H F' H') : ∀ {o : Option Sl} {w : Option V}, SlO F H o w → SlO F' H' o w
  | none, _, _ => trivial
  | some s, w, h => by
    obtain ⟨v, e, h⟩ := h
    exact ⟨v, e, h.fr x⟩
theorem EnvD.fr {F F' : AS} {H H' : Hp} (x : Fr F H F' H') : ∀ {δ : SE} {σ : L2.St}, EnvD F H δ σ → EnvD F' H' δ σ
  | [], _, h => h
  | o :: δ, σ, h => by
    obtain ⟨w, r, e, h1, h2⟩ := h
    exact ⟨w, r, e, h1.fr x, EnvD.fr x h2⟩
theorem TmpD.fr {F F' : AS} {H H' : Hp} (x : Fr F H F' H') : ∀ {δ : List Sl} {σ : List V}, TmpD F H δ σ → TmpD F' H' δ σ
  | [], _, h => h
  | s :: δ, σ, h => by
    obtain ⟨w, r, e, h1, h2⟩ := h
    exact ⟨w, r, e, h1.fr x, TmpD.fr x h2⟩
theorem EnvD.get {F : AS} {H : Hp} : ∀ {δ : SE} {σ : L2.St} {i : Nat} {s : Sl}, EnvD F H δ σ → δ[i]? = some (some s) → ∃ v, σ[i]? = some (some v) ∧ SlOk F H s v
  | [], _, _, _, _, e => by simp at e
  | o :: δ, σ, 0, s, h, e => by
    obtain ⟨w, r, rfl, h1, h2⟩ := h
    have e1 : o = some s := Option.some.inj e
    subst e1
    obtain ⟨v, rfl, h3⟩ := h1
    exact ⟨v, rfl, h3⟩
  | o :: δ, σ, i + 1, s, h, e => by
    obtain ⟨w, r, rfl, h1, h2⟩ := h
    exact EnvD.get (i := i) h2 e
theorem EnvD.put {F : AS} {H : Hp} {o : Option Sl} {w : Option V} (hw : SlO F H o w) : ∀ {δ : SE} {σ : L2.St} (i : Nat), EnvD F H δ σ → EnvD F H (δ.set i o) (σ.set i w)
  | [], σ, i, h => by
    have e : σ = [] := h
    rw [e]; exact rfl
  | p :: δ, σ, 0, h => by
    obtain ⟨u, r, rfl, h1, h2⟩ := h
    exact ⟨w, r, rfl, hw, h2⟩
  | p :: δ, σ, i + 1, h => by
    obtain ⟨u, r, rfl, h1, h2⟩ := h
    exact ⟨u, r.set i w, rfl, h1, EnvD.put hw i h2⟩
theorem EnvD.set {F : AS} {H : Hp} {s : Sl} {v : V} (hv : SlOk F H s v) {δ : SE} {σ : L2.St} (i : Nat) (h : EnvD F H δ σ) : EnvD F H (δ.set i (some s)) (σ.set i (some v)) := EnvD.put (o := some s) (w := some v) ⟨v, rfl, hv⟩ i h
theorem EnvD.of_tmp {F : AS} {H : Hp} : ∀ {ss : List Sl} {vs : List V} (n : Nat), TmpD F H ss vs → EnvD F H (ss.map some ++ List.replicate n none) (vs.map some ++ List.replicate n none)
  | [], vs, n, h => by
    have e : vs = [] := h
    subst e
    induction n with
    | zero => exact rfl
    | succ n ih => exact ⟨none, List.replicate n none, rfl, trivial, ih⟩
  | s :: ss, vs, n, h => by
    obtain ⟨v, r, rfl, h1, h2⟩ := h
    exact ⟨some v, _, rfl, ⟨v, rfl, h1⟩, EnvD.of_tmp n h2⟩
theorem TmpD.length {F : AS} {H : Hp} : ∀ {ss : List Sl} {vs : List V}, TmpD F H ss vs → vs.length = ss.length
  | [], vs, h => by
    have e : vs = [] := h
    rw [e]; rfl
  | s :: ss, vs, h => by
    obtain ⟨v, r, rfl, _, h2⟩ := h
    rw [List.length_cons, List.length_cons, TmpD.length h2]
theorem TmpD.append {F : AS} {H : Hp} : ∀ {l m : List Sl} {vs ws : List V}, TmpD F H l vs → TmpD F H m ws → TmpD F H (l ++ m) (vs ++ ws)
  | [], m, vs, ws, h, h' => by
    have e : vs = [] := h
    rw [e]; exact h'
  | d :: l, m, vs, ws, h, h' => by
    obtain ⟨v, r, rfl, h1, h2⟩ := h
    exact ⟨v, r ++ ws, rfl, h1, TmpD.append h2 h'⟩
theorem TmpD.split {F : AS} {H : Hp} : ∀ {l m : List Sl} {τ : List V}, TmpD F H (l ++ m) τ → ∃ vs ws, τ = vs ++ ws ∧ TmpD F H l vs ∧ TmpD F H m ws
  | [], m, τ, h => ⟨[], τ, rfl, rfl, h⟩
  | d :: l, m, τ, h => by
    obtain ⟨v, r, rfl, h1, h2⟩ := h
    obtain ⟨vs, ws, rfl, h3, h4⟩ := TmpD.split h2
    exact ⟨v :: vs, ws, rfl, ⟨v, vs, rfl, h1, h3⟩, h4⟩
theorem TmpD.dats {F : AS} {H : Hp} : ∀ {ds : List Dt} {vs : List V}, TmpD F H (ds.map Sl.dat) vs → IsDs H ds vs
  | [], vs, h => h
  | d :: ds, vs, h => by
    obtain ⟨v, r, rfl, h1, h2⟩ := h
    exact ⟨v, r, rfl, h1, TmpD.dats h2⟩

/-! ### the state -/
structure Sta (J : List Atom) (F0 : AS) (H0 : Hp) (δ : SE) (τd : List Sl) (σ : L2.St) (τ : List V) (H : Hp) : Prop where
  ex : ∃ F, Fr F0 H0 F H ∧ Own J F H ∧ EnvD F H δ σ ∧ TmpD F H τd τ
section
variable {J J' : List Atom} {F0 : AS} {H0 H H1 : Hp} {δ : SE} {τd : List Sl} {σ : L2.St} {τ : List V}
theorem Sta.ext (S : Sta J F0 H0 δ τd σ τ H) (e : Ext H H1) : Sta J F0 H0 δ τd σ τ H1 := by
  obtain ⟨F, x, o, d, t⟩ := S.ex
  have f : Fr F H F H1 := Fr.ext e
  exact ⟨F, x.trans f, o.ext e, d.fr f, t.fr f⟩
theorem Sta.perm (S : Sta J F0 H0 δ τd σ τ H) (p : J.Perm J') : Sta J' F0 H0 δ τd σ τ H := by
  obtain ⟨F, x, o, d, t⟩ := S.ex
  exact ⟨F, x, o.perm p, d, t⟩
theorem Sta.push (S : Sta J F0 H0 δ τd σ τ H) {s : Sl} {v : V} (h : ∀ F, Fr F0 H0 F H → Own J F H → EnvD F H δ σ → TmpD F H τd τ → SlOk F H s v) : Sta J F0 H0 δ (s :: τd) σ (v :: τ) H := by
  obtain ⟨F, x, o, d, t⟩ := S.ex
  exact ⟨F, x, o, d, v, τ, rfl, h F x o d t, t⟩
theorem Sta.pop {s : Sl} {v : V} (S : Sta J F0 H0 δ (s :: τd) σ (v :: τ) H) : Sta J F0 H0 δ τd σ τ H := by
  obtain ⟨F, x, o, d, t⟩ := S.ex
  obtain ⟨w, r, e, h1, h2⟩ := t
  cases e
  exact ⟨F, x, o, d, h2⟩
theorem Sta.top {s : Sl} {v : V} (S : Sta J F0 H0 δ (s :: τd) σ (v :: τ) H) : ∃ F, Fr F0 H0 F H ∧ Own J F H ∧ SlOk F H s v := by
  obtain ⟨F, x, o, d, t⟩ := S.ex
  obtain ⟨w, r, e, h1, h2⟩ := t
  cases e
  exact ⟨F, x, o, h1⟩
theorem Sta.dat {d : Dt} {v : V} (S : Sta J F0 H0 δ (.dat d :: τd) σ (v :: τ) H) : IsD H d v := by
  obtain ⟨F, _, _, h⟩ := S.top
  exact h
theorem Sta.lst {ds : List Dt} {v : V} (S : Sta J F0 H0 δ (.lst ds :: τd) σ (v :: τ) H) : ∃ l vs, v = .ref l ∧ H l = some (.lst vs) ∧ IsDs H ds vs := by
  obtain ⟨F, _, _, l, vs, e, _, h1, h2⟩ := S.top
  exact ⟨l, vs, e, h1, h2⟩
/-- a new thing, pushed -/
theorem Sta.new {s : Sl} {p : Addr} {o : HO} (S : Sta J F0 H0 δ τd σ τ H) (hp : H p = none) (h : ∀ F, Own J F H → ¬ F p → SlOk F (upd H p o) s (.ref p)) : Sta J F0 H0 δ (s :: τd) σ (.ref p :: τ) (upd H p o) := by
  obtain ⟨F, x, ow, d, t⟩ := S.ex
  have e : Ext H (upd H p o) := Ext.new hp
  have f : Fr F H F (upd H p o) := Fr.ext e
  refine ⟨F, x.trans f, ow.ext e, d.fr f, .ref p, τ, rfl, h F ow fun q => (ow.dom q).1 hp, t.fr f⟩
theorem Sta.newTup {ds : List Dt} {vs : List V} {p : Addr} (S : Sta J F0 H0 δ τd σ τ H) (hp : H p = none) (h : IsDs H ds vs) : Sta J F0 H0 δ (.dat (.tup ds) :: τd) σ (.ref p :: τ) (upd H p (.tup vs)) :=
  S.new hp fun F _ _ => ⟨p, vs, rfl, upd_same, IsDs.tk (Ext.new hp).tk _ _ h⟩
theorem Sta.newLst {ds : List Dt} {vs : List V} {p : Addr} (S : Sta J F0 H0 δ τd σ τ H) (hp : H p = none) (h : IsDs H ds vs) : Sta J F0 H0 δ (.lst ds :: τd) σ (.ref p :: τ) (upd H p (.lst vs)) :=
  S.new hp fun F _ n => ⟨p, vs, rfl, n, upd_same, IsDs.tk (Ext.new hp).tk _ _ h⟩
theorem Sta.setSl {s : Sl} {v : V} (S : Sta J F0 H0 δ (s :: τd) σ (v :: τ) H) (i : Nat) : Sta J F0 H0 (δ.set i (some s)) τd (σ.set i (some v)) τ H := by
  obtain ⟨F, x, o, d, t⟩ := S.ex
  obtain ⟨w, r, e, h1, h2⟩ := t
  cases e
  exact ⟨F, x, o, d.set h1 i, h2⟩
theorem Sta.wipe (S : Sta J F0 H0 δ τd σ τ H) (i : Nat) (w : Option V) : Sta J F0 H0 (δ.set i none) τd (σ.set i w) τ H := by
  obtain ⟨F, x, o, d, t⟩ := S.ex
  exact ⟨F, x, o, d.put (o := none) trivial i, t⟩
end

theorem TmpD.splitL {F : AS} {H : Hp} : ∀ {l m : List Sl} {vs ws : List V}, vs.length = l.length → TmpD F H (l ++ m) (vs ++ ws) → TmpD F H l vs ∧ TmpD F H m ws
  | [], m, vs, ws, e, h => by
    have e1 : vs = [] := List.eq_nil_of_length_eq_zero e
    subst e1
    exact ⟨rfl, h⟩
  | d :: l, m, [], ws, e, h => by cases e
  | d :: l, m, v :: vs, ws, e, h => by
    obtain ⟨v', r, e1, h1, h2⟩ := h
    cases e1
    have q := TmpD.splitL (l := l) (vs := vs) (Nat.succ.inj e) h2
    exact ⟨⟨v, vs, rfl, h1, q.1⟩, q.2⟩
theorem Sta.open {J : List Atom} {F0 : AS} {H0 H : Hp} {δ : SE} {τd : List Sl} {σ : L2.St} {τ : List V} (S : Sta J F0 H0 δ τd σ τ H) :
    ∃ F, Fr F0 H0 F H ∧ Own J F H ∧ EnvD F H δ σ ∧ TmpD F H τd τ ∧ Sta J F H δ τd σ τ H := by
  obtain ⟨F, x, o, d, t⟩ := S.ex
  exact ⟨F, x, o, d, t, F, Fr.refl F H, o, d, t⟩
end LK

namespace LK
open PySem PySem.Spec PyProof.Rows L2
/-! ### a tuple times 0, times 1 -/
theorem mulT_one (a : Addr) (items : Array Value) (n : Nat) (dd : Option Addr) (sl : Array (Option Value)) (u : Tok) :
    Meets (Builtin.«tuple.__mul__» ⟨[.ref a, .int 1 u], []⟩) (fun _ R s => s.heap.get? a = some { cls := .type "tuple", dict := dd, data := .seq items n, slots := sl } ∧ R (.ok (.ret (.ref a))) s) :=
  .of_wp fun prog w A R s h => by
    obtain ⟨hp, g, d, tk, os⟩ := s
    obtain ⟨hl, h⟩ := h
    have f1 := AutoSeq1.idx_int
    have hT : Shared.TypeIs ⟨hp, g, d, tk, os⟩ (.ref a) "tuple" := ⟨_, hl, rfl⟩
    wp_walk using wpAny_loadPart' hl
    exact ⟨_, rfl, h⟩
theorem mulT_zero (a : Addr) (items : Array Value) (n : Nat) (dd : Option Addr) (sl : Array (Option Value)) (u : Tok) :
    Meets (Builtin.«tuple.__mul__» ⟨[.ref a, .int 0 u], []⟩) (fun _ R s => s.heap.get? a = some { cls := .type "tuple", dict := dd, data := .seq items n, slots := sl } ∧ items.isEmpty = false ∧
      R (.ok (.ret (.ref s.heap.objs.size))) { s with heap := s.heap.push { cls := .type "tuple", data := .seq #[] }, toks := s.toks }) :=
  .of_wp fun prog w A R s h => by
    obtain ⟨hp, g, d, tk, os⟩ := s
    obtain ⟨hl, he, h⟩ := h
    have f1 := AutoSeq1.idx_int
    have hT : Shared.TypeIs ⟨hp, g, d, tk, os⟩ (.ref a) "tuple" := ⟨_, hl, rfl⟩
    wp_walk using wpAny_loadPart' hl
    exact ⟨_, rfl, h⟩
def rRep01 (K : PySem.W.Frag) : R2 := fun x y H Q => ∃ l xs, x = .ref l ∧ SqT K H l xs ∧ xs ≠ [] ∧ ((y = .int 1 ∧ Q (.ref l) H) ∨ (y = .int 0 ∧ ∀ p, H p = none → Q (.ref p) (upd H p (.tup []))))
theorem op_rep01 {X : Cx} : OpR X (binaryOp .Mult) (rRep01 X.K) := by
  intro pins s σ H x y v u Q I rx ry h
  obtain ⟨l, xs, rfl, hT, hne, h⟩ := h
  cases rx
  obtain ⟨its, r, ⟨⟨cls, dd, data, sl⟩, ho, hc, n, hd⟩, hs⟩ := I.tuple hT
  simp only at hc hd
  subst hc hd
  have hi : its.toArray.isEmpty = false := by
    cases r with
    | nil => exact absurd rfl hne
    | cons _ _ => rfl
  rcases h with ⟨rfl, q⟩ | ⟨rfl, q⟩
  · obtain ⟨t, rfl⟩ := ry
    exact wpAny_binaryOp_repeat_ref (T := "tuple") (U := "int") (by decide) ⟨_, ho, rfl⟩ (fun s' => typeIs_int s' 1 t) noFill_tuple_mul F.fills_int_mul F.slot_int_rmul repeat_tuple F.slot_int_index.lookup
      (call_meets F.slot_int_rmul (typeIs_int s 1 t) F.entry_int_rmul (F.args_int_rmul_2 _ _) (int_rmul_tuple 1 t l its.toArray n dd sl)
        ⟨ho, rfl, ⟨_, ho, rfl⟩, call_meets F.slot_tuple_mul ⟨_, ho, rfl⟩ F.entry_tuple_mul (F.args_tuple_mul_2 _ _) (mulT_one l its.toArray n dd sl t) ⟨ho, .ref l, H, I, rfl, q⟩⟩)
  · obtain ⟨t, rfl⟩ := ry
    refine wpAny_binaryOp_repeat_ref (T := "tuple") (U := "int") (by decide) ⟨_, ho, rfl⟩ (fun s' => typeIs_int s' 0 t) noFill_tuple_mul F.fills_int_mul F.slot_int_rmul repeat_tuple F.slot_int_index.lookup
      (call_meets F.slot_int_rmul (typeIs_int s 0 t) F.entry_int_rmul (F.args_int_rmul_2 _ _) (int_rmul_tuple 0 t l its.toArray n dd sl)
        ⟨ho, rfl, ⟨_, ho, rfl⟩, call_meets F.slot_tuple_mul ⟨_, ho, rfl⟩ F.entry_tuple_mul (F.args_tuple_mul_2 _ _) (mulT_zero l its.toArray n dd sl t) ⟨ho, hi, ?_⟩⟩)
    refine ⟨.ref s.heap.objs.size, _, I.laid (t' := s.toks) (o := .tup []) (fun b ob q => Heap.get?_push_of_some _ q) (Nat.le_refl _) ?_, rfl, q _ (I.hok.fresh (Nat.le_refl _))⟩
    exact ⟨Nat.zero_le _, [], .nil, IsTup.new _ _⟩
/-- t * k, k from 0 to 1000 -/
def rRepN (K : PySem.W.Frag) : R2 := fun x y H Q => rRep01 K x y H Q ∨ rRepT K x y H Q
theorem op_repN {X : Cx} : OpR X (binaryOp .Mult) (rRepN X.K) := op_rep01.or op_repT

/-! ### set(a list of ints) -/
abbrev eSet (w : World) : Obj := { cls := .type "set", dict := none, data := .set #[] 0 (.fresh 0 0 (!w.params.followText "set-order")) }
section
variable {P : Program} {w : World} {A : Around} {E : Value → Shared → Prop} {s : Shared}
set_option maxHeartbeats 3200000 in
theorem set_of_ints {l : Addr} {items : Array Value} (ns : List Int) {Q : Value → Shared → Prop} (hh : A.handled = none) (hl : s.heap.IsList l items) (hit : IntsAre items.toList ns) (hb : ns.length + 1 < scanBound)
    (h : ∀ (h' : Heap) (tk c : Nat), SetR w h' s.heap.objs.size (fun j => decide (j ∈ ns)) c → c ≤ ns.length → (∀ b o, s.heap.get? b = some o → h'.get? b = some o) → Q (.ref s.heap.objs.size) { s with heap := h', toks := tk }) :
    wpAny (model P w) A (call (.type "set") [.ref l]) Q E s := by
  have hisz : items.size = ns.length := (Array.length_toList (xs := items)).symm.trans (IntsAre.length hit)
  obtain ⟨c, tl, hmro⟩ := F.called_set.mro
  have m1 := F.called_set.made
  have m2 := F.called_set.sub
  refine wpAny_call (codeAny_of_tree (show wpAny _ _ (callAny (.type "set") _) _ _ _ from ?_))
  refine wpAny_pure ⟨Code.quiet_builtin _ (by decide +kernel), codeAny_builtin F.entry_type_call ?_⟩
  rw [Around.under_plain (weight_type_call_type "set" [.ref l] []) rfl]
  have m3 := F.called_set.notType
  have m4 := F.called_set.canCreate
  have m5 := F.typeCall_set_1 (.ref l)
  repeat (any_goals (first | assumption | wp_step))
  refine codeAny_mono (code_set_led1 (.ref l) (E := E) (Q₁ := fun ob s1 => ob = .ref s.heap.objs.size ∧ s1 = { s with heap := s.heap.push (eSet w) }) ⟨rfl, rfl⟩) fun r s1 hr => ?_
  match r, hr with
  | .error e, hr => exact hr
  | .ok (.next), hr => exact hr.elim
  | .ok (.brk), hr => exact hr.elim
  | .ok (.cont), hr => exact hr.elim
  | .ok (.ret ob), hr =>
    obtain ⟨rfl, rfl⟩ := hr
    have hS : (s.heap.push (eSet w)).get? s.heap.objs.size = some (eSet w) := Heap.get?_push_size _ rfl
    have hT : Shared.TypeIs { s with heap := s.heap.push (eSet w) } (.ref s.heap.objs.size) "set" := ⟨_, hS, rfl⟩
    have n1 := F.called_set.init.lookup
    have n2 := F.called_set.init.bind (.ref s.heap.objs.size)
    repeat (any_goals (first | assumption | wp_step))
    refine codeAny_mono (codeAny_call_builtin (R := wants (fun r s2 => r = .none ∧ ∃ h' tk c, s2 = { s with heap := h', toks := tk } ∧ SetR w h' s.heap.objs.size (fun j => decide (j ∈ ns)) c ∧ c ≤ ns.length ∧ ∀ b o, s.heap.get? b = some o → h'.get? b = some o) E)
      F.called_set.init.plain F.entry_set_init (check_set_init_1 hT ?_)) fun r2 s2 hr2 => ?_
    · obtain ⟨⟨oc, od, odt, osl⟩, hol, hcl, nl, hdl⟩ := hl
      simp only at hcl hdl
      subst hcl
      subst hdl
      have hol' : (s.heap.push (eSet w)).get? l = some { cls := .type "list", dict := od, data := .seq items nl, slots := osl } := Heap.get?_push_of_some _ hol
      have x1 := F.sub_list_set
      have x2 := F.sub_list_frozenset
      have x3 : (Value.type "list" == Value.type "dict") = false := by decide
      have hl1 : (s.heap.push (eSet w)).IsList l items := ⟨_, hol', rfl, nl, rfl⟩
      unfold Builtin.«set.__init__» noKeywords Builtin.Frozenset.updateFrom
      generalize hPI : pyIter = PI
      wp_walk
      subst hPI
      refine wpAny_pyIter_list hl1 (wpAny_bind (wpAny_runValue ?_))
      have lS : l < s.heap.objs.size := Heap.lt_size hol
      have h3 : A.in1.in1.in1.handled = none := by simp [hh]
      have z1 : (s.heap.push (eSet w)).objs.size = s.heap.objs.size + 1 := Heap.size_push ..
      have lI : l ≠ (s.heap.push (eSet w)).objs.size := by
        rw [z1]
        exact Nat.ne_of_lt (Nat.lt_succ_of_lt lS)
      have sF : s.heap.objs.size ∉ [(s.heap.push (eSet w)).objs.size, l] := by
        rw [z1]
        simp only [List.mem_cons, List.not_mem_nil, or_false, not_or]
        exact ⟨Nat.ne_of_lt (Nat.lt_succ_self _), Nat.ne_of_gt lS⟩
      have hval : ∀ (i : Nat) (v : Value), items[i]? = some v → ∃ k t, ns[i]? = some k ∧ v = .int k t := fun i v hv => by
        have hi : i < ns.length := hisz ▸ (Array.getElem?_eq_some_iff.mp hv).1
        obtain ⟨t, e⟩ := PyProof.Rows.IntsAre.int_at hit i v (by rw [Array.getElem?_toList]; exact hv)
        exact ⟨ns[i], t, List.getElem?_eq_getElem hi, by rw [e, List.getD_eq_getElem?_getD, List.getElem?_eq_getElem hi] <;> rfl⟩
      refine set_update_ints ((Walks.list h3 _ l lI items).toS) s.heap.objs.size sF ns hisz hb hval (items.size - 0) 0 _ (by omega) (Nat.zero_le _) ⟨⟨_, Heap.get?_push_size _ rfl, rfl, rfl⟩, (hl1.push _)⟩ ?c0 ?c1
      case c0 =>
        have hget : ((s.heap.push (eSet w)).push { cls := .type "list_iterator", data := .fields #[.ref l, .int 0 0] }).get? s.heap.objs.size = some (eSet w) := Heap.get?_push_of_some _ hS
        exact ⟨0, Nat.le_refl 0, setR_new_at hget⟩
      case c1 =>
        intro s3 c3 hm hc3 hS3
        obtain ⟨h', g2, d2, tk2, os2⟩ := s3
        obtain rfl : g2 = s.gens := hm.gens
        obtain rfl : d2 = s.drawn := hm.drawn
        obtain rfl : os2 = s.os := hm.os
        refine wpAny_pure (show wpAny _ _ (ret Value.none) _ _ _ from ?_)
        rw [hisz] at hc3
        refine wpAny_pure ⟨rfl, h', tk2, c3, rfl, hS3, hc3, fun b o e => ?_⟩
        have b0 : b < s.heap.objs.size := Heap.lt_size e
        refine hm.heap b o ?_ (Heap.get?_push_of_some _ (Heap.get?_push_of_some _ e))
        simp only [List.mem_cons, List.not_mem_nil, or_false, not_or]
        exact ⟨Nat.ne_of_lt b0, by rw [z1]; exact Nat.ne_of_lt (Nat.lt_succ_of_lt b0)⟩
    · match r2, hr2 with
      | .error e, hr2 => exact hr2
      | .ok (.next), hr2 => exact hr2.elim
      | .ok (.brk), hr2 => exact hr2.elim
      | .ok (.cont), hr2 => exact hr2.elim
      | .ok (.ret r), hr2 =>
        obtain ⟨rfl, h', tk, c', rfl, hS', hc', hk'⟩ := hr2
        repeat (any_goals (first | assumption | wp_step))
        exact h _ _ _ hS' hc' hk'
end
def rSetIts (K : PySem.W.Frag) (w : World) : List V → Hp → VK → Prop := fun xs H Q => ∃ (l : Addr) (ns : List Int), xs = [V.ref l] ∧ SqL K H l (ns.map V.int) ∧ ns.length < 1000 ∧ ∀ p n, H p = none → n ≤ ns.length → Q (.ref p) (upd H p (SetO w p (fun j => decide (j ∈ ns)) n))
theorem cr_setIts {X : Cx} (hc : X.calm = true) : CallR X (.type "set") (rSetIts X.K X.w) := by
  intro pins s σ H xs us Q I r h
  obtain ⟨l, ns, rfl, hq, hz, q⟩ := h
  rw [Vals.ref1 r]
  obtain ⟨its, rv, pl, _⟩ := I.list hq
  refine set_of_ints ns (I.ok.hd hc) pl.isList (by simpa using rv.ints) (by unfold scanBound; omega) fun h' tk c R hc' k => ?_
  have hn : H s.heap.objs.size = none := I.hok.fresh (Nat.le_refl _)
  exact ⟨.ref _, upd H s.heap.objs.size (SetO X.w s.heap.objs.size (fun j => decide (j ∈ ns)) c), I.laid (t' := tk) (fun b o e => k b o e) (Nat.le_refl _) (setO_new R), rfl, q _ c hn hc'⟩
end LK

namespace LK
open PySem PySem.Spec PyProof.Rows L2
/-! ### where each def stands -/
def top (i : Nat) : Stmt := PySem.Challenge.pw_drawloom_k52_whole_lanes_alone.main.body.getD i (.Pass ⟨0, 0, 0, 0⟩)
abbrev sFwrapped : Stmt := top 6
abbrev sFdivided : Stmt := top 7
abbrev sFarithmetic : Stmt := top 8
abbrev sFbits : Stmt := top 9
abbrev sFcompared : Stmt := top 10
abbrev sFbinary : Stmt := top 11
abbrev sFunary : Stmt := top 12
abbrev sFspecial : Stmt := top 14
abbrev sFfirstlane : Stmt := top 17
abbrev sFrequest : Stmt := top 18
abbrev sFchanged : Stmt := top 19
abbrev sFresult : Stmt := top 20
abbrev sFbehind : Stmt := top 21
abbrev sFWinit : Stmt := inClass (top 23) 0
abbrev sFWrunning : Stmt := inClass (top 23) 1
abbrev sFWplaces : Stmt := inClass (top 23) 2
abbrev sFWgroups : Stmt := inClass (top 23) 3
abbrev sFWactive : Stmt := inClass (top 23) 4
abbrev sFWasks : Stmt := inClass (top 23) 5
abbrev sFWstep : Stmt := inClass (top 23) 6
abbrev sFWadvance : Stmt := inClass (top 23) 7
abbrev sFWgoon : Stmt := inClass (top 23) 8
abbrev sFWwaits : Stmt := inClass (top 23) 9
abbrev sFWended : Stmt := inClass (top 23) 10
abbrev sFWlanes : Stmt := inClass (top 23) 11
abbrev sFWrelease : Stmt := inClass (top 23) 12
abbrev sWPinit : Stmt := inClass (top 24) 0
abbrev sWPgroups : Stmt := inClass (top 24) 1
abbrev sWPactive : Stmt := inClass (top 24) 2
abbrev sWPasks : Stmt := inClass (top 24) 3
abbrev sWPstep : Stmt := inClass (top 24) 4
abbrev sWPpart : Stmt := inClass (top 24) 5
abbrev sWPclear : Stmt := inClass (top 24) 6
abbrev sWPwaits : Stmt := inClass (top 24) 7
abbrev sWPended : Stmt := inClass (top 24) 8
abbrev sWPlanes : Stmt := inClass (top 24) 9
abbrev sWPentries : Stmt := inClass (top 24) 10
abbrev sWPrelease : Stmt := inClass (top 24) 11
abbrev sFstream : Stmt := top 26
abbrev sFdraw : Stmt := top 27
abbrev sFlaunch : Stmt := top 28
abbrev sFparams : Stmt := top 29
abbrev sFshared : Stmt := top 30
abbrev sFinstruction : Stmt := top 31
abbrev sFcode : Stmt := top 32
abbrev sFlooping : Stmt := top 33
abbrev sFtold : Stmt := top 34
abbrev sFwalk : Stmt := top 35
abbrev sFalone : Stmt := top 36
abbrev sFlaw : Stmt := top 37
end LK

namespace LK
open PySem PySem.Spec PyProof.Rows L2

/-! ### what an expression, a test, an argument list comes to -/
abbrev JO := List Atom → Sl → Prop
def EvG (J : List Atom) (te : TE) (δ : SE) (P : JO) : Prop := ∀ (F0 : AS) (H0 : Hp) (τd : List Sl) (σ : L2.St) (τ : List V) (H : Hp) (Q : VK), Sta J F0 H0 δ τd σ τ H →
  (∀ J1 s v H1, P J1 s → Sta J1 F0 H0 δ (s :: τd) σ (v :: τ) H1 → Q v H1) → te σ H Q
abbrev EvP (J : List Atom) (te : TE) (δ : SE) (P : Sl → Prop) : Prop := EvG J te δ fun J1 s => J1 = J ∧ P s
abbrev EvQ (J : List Atom) (te : TE) (δ : SE) (P : Dt → Prop) : Prop := EvP J te δ fun s => ∃ d, s = .dat d ∧ P d
abbrev EvD (J : List Atom) (te : TE) (δ : SE) (d : Dt) : Prop := EvQ J te δ fun z => z = d
abbrev EvI (J : List Atom) (te : TE) (δ : SE) (P : Int → Prop) : Prop := EvQ J te δ fun z => ∃ n, z = .int n ∧ P n
abbrev EvL (J : List Atom) (te : TE) (δ : SE) (ds : List Dt) : Prop := EvP J te δ fun s => s = .lst ds
abbrev EvV (J : List Atom) (te : TE) (δ : SE) (v : V) : Prop := EvP J te δ fun s => s = .val v
def EvA (J : List Atom) (ta : TA) (δ : SE) (P : List Sl → Prop) : Prop := ∀ (F0 : AS) (H0 : Hp) (τd : List Sl) (σ : L2.St) (τ : List V) (H : Hp) (Q : List V → Hp → Prop), Sta J F0 H0 δ τd σ τ H →
  (∀ ss vs H1, P ss → vs.length = ss.length → Sta J F0 H0 δ (ss ++ τd) σ (vs ++ τ) H1 → Q vs H1) → ta σ H Q
def EvT (J : List Atom) (tt : TT) (δ : SE) (P : Bool → Prop) : Prop := ∀ (F0 : AS) (H0 : Hp) (τd : List Sl) (σ : L2.St) (τ : List V) (H : Hp) (Q : Bool → Hp → Prop), Sta J F0 H0 δ τd σ τ H →
  (∀ b H1, P b → Sta J F0 H0 δ τd σ τ H1 → Q b H1) → tt σ H Q
abbrev EvB (J : List Atom) (tt : TT) (δ : SE) (b : Bool) : Prop := EvT J tt δ fun c => c = b
def EvO (J : List Atom) (to : TO) (δ : SE) (P : Option Int → Prop) : Prop := ∀ (F0 : AS) (H0 : Hp) (τd : List Sl) (σ : L2.St) (τ : List V) (H : Hp) (Q : Option Int → Hp → Prop), Sta J F0 H0 δ τd σ τ H →
  (∀ o H1, P o → Sta J F0 H0 δ τd σ τ H1 → Q o H1) → to σ H Q
section
variable {J : List Atom} {δ : SE} {ta tb te : TE} {K : PySem.W.Frag}
theorem EvG.imp {P P' : JO} (h : EvG J te δ P) (k : ∀ J1 s, P J1 s → P' J1 s) : EvG J te δ P' := fun F0 H0 τd σ τ H Q S q => h _ _ _ _ _ _ _ S fun J1 s v H1 p => q J1 s v H1 (k _ _ p)
theorem EvQ.imp {P P' : Dt → Prop} (h : EvQ J te δ P) (k : ∀ d, P d → P' d) : EvQ J te δ P' := EvG.imp h fun _ _ ⟨e, d, e2, p⟩ => ⟨e, d, e2, k d p⟩
theorem ev_is {d d' : Dt} (h : EvD J te δ d) (e : d = d') : EvD J te δ d' := by rw [← e]; exact h
theorem EvD.toP {d : Dt} (h : EvD J te δ d) : EvP J te δ fun s => s = .dat d := EvG.imp h fun J1 s ⟨e, d1, e2, e3⟩ => ⟨e, by rw [e2, e3]⟩
theorem EvD.toI {n : Int} {P : Int → Prop} (h : EvD J te δ (.int n)) (p : P n) : EvI J te δ P := EvQ.imp h fun d e => ⟨n, e, p⟩
theorem EvI.toD {n : Int} (h : EvI J te δ fun m => m = n) : EvD J te δ (.int n) := EvQ.imp h fun d ⟨m, e, e2⟩ => by rw [e, e2]
theorem EvT.imp {tt : TT} {P P' : Bool → Prop} (h : EvT J tt δ P) (k : ∀ b, P b → P' b) : EvT J tt δ P' := fun F0 H0 τd σ τ H Q S q => h _ _ _ _ _ _ _ S fun b H1 p => q b H1 (k _ p)
theorem EvA.imp {ta : TA} {P P' : List Sl → Prop} (h : EvA J ta δ P) (k : ∀ ss, P ss → P' ss) : EvA J ta δ P' := fun F0 H0 τd σ τ H Q S q => h _ _ _ _ _ _ _ S fun ss vs H1 p => q ss vs H1 (k _ p)
theorem isD_flat {H : Hp} {d : Dt} (f : d.flat = true) : IsD H d d.val := by
  cases d with
  | tup l => cases f
  | _ => rfl
theorem Sta.flat {F0 : AS} {H0 H : Hp} {τd : List Sl} {σ : L2.St} {τ : List V} (S : Sta J F0 H0 δ τd σ τ H) {d : Dt} (f : d.flat = true) : Sta J F0 H0 δ (.dat d :: τd) σ (d.val :: τ) H := S.push fun F _ _ _ _ => isD_flat f
theorem ev_flat {d : Dt} {v : V} (f : d.flat = true) (e : d.val = v) : EvD J (tC v) δ d := fun F0 H0 τd σ τ H Q S k => by
  subst e
  exact k J _ _ H ⟨rfl, d, rfl, rfl⟩ (S.flat f)
theorem ev_int {n : Int} : EvD J (tC (.int n)) δ (.int n) := ev_flat rfl rfl
theorem ev_str {x : Str} : EvD J (tC (.str x)) δ (.str x) := ev_flat rfl rfl
theorem ev_bl {b : Bool} : EvD J (tC (.bl b)) δ (.bl b) := ev_flat rfl rfl
theorem ev_non : EvD J (tC .non) δ .non := ev_flat rfl rfl
theorem ev_var {i : Nat} {s : Sl} (h : δ[i]? = some (some s)) : EvP J (tVar i) δ fun z => z = s := fun F0 H0 τd σ τ H Q S k => by
  obtain ⟨F, x, o, d, t⟩ := S.ex
  obtain ⟨v, e, hv⟩ := d.get h
  exact ⟨v, e, k J s v H ⟨rfl, rfl⟩ ⟨F, x, o, d, v, τ, rfl, hv, t⟩⟩
theorem ev_dat {i : Nat} {d : Dt} (h : δ[i]? = some (some (.dat d))) : EvD J (tVar i) δ d := (ev_var h).imp fun _ s ⟨e, es⟩ => ⟨e, d, es, rfl⟩
theorem ev_lst {i : Nat} {ds : List Dt} (h : δ[i]? = some (some (.lst ds))) : EvL J (tVar i) δ ds := ev_var h
theorem ev_val {i : Nat} {v : V} (h : δ[i]? = some (some (.val v))) : EvV J (tVar i) δ v := ev_var h

/-! ### two-place operations on values -/
def RR (r : R2) (da db dc : Dt) : Prop := ∀ (J : List Atom) (F0 : AS) (H0 : Hp) (δ : SE) (τd : List Sl) (σ : L2.St) (τ : List V) (x y : V) (H : Hp) (Q : VK), IsD H da x → IsD H db y → Sta J F0 H0 δ τd σ τ H →
  (∀ v H1, Sta J F0 H0 δ (.dat dc :: τd) σ (v :: τ) H1 → Q v H1) → r x y H Q
theorem ev_opQ {r : R2} {Pa Pb Pc : Dt → Prop} (ha : EvQ J ta δ Pa) (hb : EvQ J tb δ Pb) (hr : ∀ da db, Pa da → Pb db → ∃ dc, Pc dc ∧ RR r da db dc) : EvQ J (tOp r ta tb) δ Pc := by
  intro F0 H0 τd σ τ H Q S k
  refine ha _ _ _ _ _ _ _ S fun J1 s v H1 ⟨e, d, es, hd⟩ S1 => ?_
  subst e es
  refine hb _ _ _ _ _ _ _ S1 fun J2 s2 v2 H2 ⟨e2, d2, es2, hd2⟩ S2 => ?_
  subst e2 es2
  obtain ⟨dc, hc, R⟩ := hr d d2 hd hd2
  exact R J2 F0 H0 δ τd σ τ v v2 H2 Q S2.pop.dat S2.dat S2.pop.pop fun w H3 S3 => k J2 _ w H3 ⟨rfl, dc, rfl, hc⟩ S3
theorem ev_op {r : R2} {da db dc : Dt} (ha : EvD J ta δ da) (hb : EvD J tb δ db) (hr : RR r da db dc) : EvD J (tOp r ta tb) δ dc :=
  ev_opQ ha hb fun _ _ e1 e2 => ⟨dc, rfl, by rw [e1, e2]; exact hr⟩
/-- ints, told by what holds of them -/
theorem ev_opI {r : R2} {Pa Pb Pc : Int → Prop} {f : Int → Int → Int} (ha : EvI J ta δ Pa) (hb : EvI J tb δ Pb) (hr : ∀ a b, Pa a → Pb b → Pc (f a b) ∧ RR r (.int a) (.int b) (.int (f a b))) : EvI J (tOp r ta tb) δ Pc :=
  ev_opQ ha hb fun _ _ ⟨a, ea, pa⟩ ⟨b, eb, pb⟩ => ⟨.int (f a b), ⟨f a b, rfl, (hr a b pa pb).1⟩, by rw [ea, eb]; exact (hr a b pa pb).2⟩
theorem rr_flat {r : R2} {da db dc : Dt} (fa : da.flat = true) (fb : db.flat = true) (fc : dc.flat = true) (h : ∀ (H : Hp) (Q : VK), Q dc.val H → r da.val db.val H Q) : RR r da db dc := fun J F0 H0 δ τd σ τ x y H Q hx hy S k => by
  rw [hx.val fa, hy.val fb]
  exact h H Q (k _ H (S.flat fc))
theorem rr_I0 {g : Int → Int → V} {i j : Int} {d : Dt} (f : d.flat = true) (e : g i j = d.val) : RR (rI0 g) (.int i) (.int j) d := rr_flat rfl rfl f fun H Q q => ⟨i, j, rfl, rfl, by rw [e]; exact q⟩
theorem rr_I {C : Int → Int → Prop} {g : Int → Int → V} {i j : Int} {d : Dt} (f : d.flat = true) (hc : C i j) (e : g i j = d.val) : RR (rI C g) (.int i) (.int j) d := rr_flat rfl rfl f fun H Q q => ⟨i, j, rfl, rfl, hc, by rw [e]; exact q⟩
theorem rr_eq {da db : Dt} {b : Bool} (fa : da.flat = true) (fb : db.flat = true) (h : scal da.val db.val = true) (e : decide (da.val = db.val) = b) : RR rEq da db (.bl b) := rr_flat fa fb rfl fun H Q q => ⟨h, by rw [e]; exact q⟩
theorem rr_ne {da db : Dt} {b : Bool} (fa : da.flat = true) (fb : db.flat = true) (h : scal da.val db.val = true) (e : (!decide (da.val = db.val)) = b) : RR rNe da db (.bl b) := rr_flat fa fb rfl fun H Q q => ⟨h, by rw [e]; exact q⟩
theorem rr_eqI {i j : Int} : RR rEq (.int i) (.int j) (.bl (decide (i = j))) := rr_eq rfl rfl rfl (by rw [Bool.eq_iff_iff]; simp [Dt.val])
theorem rr_neI {i j : Int} : RR rNe (.int i) (.int j) (.bl (!decide (i = j))) := rr_ne rfl rfl rfl (by rw [Bool.eq_iff_iff]; simp [Dt.val])
theorem rr_eqS {x y : Str} : RR rEq (.str x) (.str y) (.bl (decide (x = y))) := rr_eq rfl rfl rfl (by rw [Bool.eq_iff_iff]; simp [Dt.val])
/-- x is None, x is not None: no tuple is None -/
theorem rr_isN {d : Dt} : RR rIsN d .non (.bl (match d with | .non => true | _ => false)) := fun J F0 H0 δ τd σ τ x y H Q hx hy S k => by
  have ey : y = .non := hy
  subst ey
  refine ⟨rfl, ?_⟩
  cases d with
  | tup l =>
    obtain ⟨a, vs, rfl, _⟩ := hx
    exact k _ H (S.flat (d := .bl false) rfl)
  | non => obtain rfl : x = .non := hx; exact k _ H (S.flat (d := .bl true) rfl)
  | bl b => obtain rfl : x = .bl b := hx; exact k _ H (S.flat (d := .bl false) rfl)
  | int i => obtain rfl : x = .int i := hx; exact k _ H (S.flat (d := .bl false) rfl)
  | str i => obtain rfl : x = .str i := hx; exact k _ H (S.flat (d := .bl false) rfl)
theorem rr_notN {d : Dt} : RR rNotN d .non (.bl (match d with | .non => false | _ => true)) := fun J F0 H0 δ τd σ τ x y H Q hx hy S k => by
  have ey : y = .non := hy
  subst ey
  refine ⟨rfl, ?_⟩
  cases d with
  | tup l =>
    obtain ⟨a, vs, rfl, _⟩ := hx
    exact k _ H (S.flat (d := .bl true) rfl)
  | non => obtain rfl : x = .non := hx; exact k _ H (S.flat (d := .bl false) rfl)
  | bl b => obtain rfl : x = .bl b := hx; exact k _ H (S.flat (d := .bl true) rfl)
  | int i => obtain rfl : x = .int i := hx; exact k _ H (S.flat (d := .bl true) rfl)
  | str i => obtain rfl : x = .str i := hx; exact k _ H (S.flat (d := .bl true) rfl)
theorem isDs_ixN {H : Hp} {ds : List Dt} {vs : List V} {i : Int} {d : Dt} (h : IsDs H ds vs) (e : atI ds i = some d) : ∃ v, atI vs i = some v ∧ IsD H d v := by
  unfold atI at e ⊢
  rw [h.length]
  cases q : ixN ds.length i with
  | none => rw [q] at e; cases e
  | some j =>
    rw [q] at e
    exact h.get e
theorem rr_ixT {ds : List Dt} {i : Int} {d : Dt} (e : atI ds i = some d) : RR (rIxT K) (.tup ds) (.int i) d := fun J F0 H0 δ τd σ τ x y H Q hx hy S k => by
  obtain ⟨a, vs, rfl, ha, hs⟩ := hx
  have ey : y = .int i := hy
  subst ey
  obtain ⟨v, hv, hd⟩ := isDs_ixN hs e
  exact ⟨a, vs, i, v, rfl, rfl, SqT.of ha, hv, k v H (S.push fun F _ _ _ _ => hd)⟩
theorem rr_head {d : Dt} {ds : List Dt} : RR (rIxT K) (.tup (d :: ds)) (.int 0) d := rr_ixT (atI_nat (j := 0) rfl)
theorem rr_catA {as bs : List Dt} (hz : as.length + bs.length ≤ 100000) : RR (rCatA K) (.tup as) (.tup bs) (.tup (as ++ bs)) := fun J F0 H0 δ τd σ τ x y H Q hx hy S k => by
  obtain ⟨a, vs, rfl, ha, hs⟩ := hx
  obtain ⟨b, ws, rfl, hb, hw⟩ := hy
  refine ⟨a, b, vs, ws, rfl, rfl, SqT.of ha, SqT.of hb, ?_, fun e => ?_, fun e1 e2 => ?_, fun e1 e2 p hp => ?_⟩
  · rw [hs.length, hw.length]
    exact Nat.le_trans hz (by decide)
  · refine k _ H (S.push fun F _ _ _ _ => ?_)
    subst e
    have e2 : as = [] := List.eq_nil_of_length_eq_zero (by rw [← hs.length]; rfl)
    subst e2
    exact ⟨b, ws, rfl, hb, hw⟩
  · refine k _ H (S.push fun F _ _ _ _ => ?_)
    subst e2
    have e2 : bs = [] := List.eq_nil_of_length_eq_zero (by rw [← hw.length]; rfl)
    subst e2
    rw [List.append_nil]
    exact ⟨a, vs, rfl, ha, hs⟩
  · exact k _ _ (S.newTup hp (hs.append hw))
def inD (d : Dt) (ds : List Dt) : Bool := inV d.val (ds.map Dt.val)
theorem isDs_flat {H : Hp} : ∀ {ds : List Dt} {vs : List V}, ds.all Dt.flat = true → IsDs H ds vs → vs = ds.map Dt.val ∧ vs.all flatV = true
  | [], vs, _, h => by
    have e : vs = [] := h
    rw [e]; exact ⟨rfl, rfl⟩
  | d :: ds, vs, f, h => by
    obtain ⟨v, r, rfl, h1, h2⟩ := h
    rw [List.all_cons, Bool.and_eq_true] at f
    obtain ⟨e2, f2⟩ := isDs_flat f.2 h2
    have e1 := h1.val f.1
    refine ⟨by rw [e1, e2]; rfl, ?_⟩
    rw [List.all_cons, f2, Bool.and_true, e1]
    cases d <;> first | rfl | cases f.1
theorem rr_in {neg : Bool} {d : Dt} {ds : List Dt} {b : Bool} (f : d.flat = true) (fs : ds.all Dt.flat = true) (e : (if neg then !inD d ds else inD d ds) = b) : RR (rIn K neg) d (.tup ds) (.bl b) := fun J F0 H0 δ τd σ τ x y H Q hx hy S k => by
  obtain ⟨a, vs, rfl, ha, hs⟩ := hy
  obtain ⟨e1, f1⟩ := isDs_flat fs hs
  rw [hx.val f]
  refine ⟨a, vs, rfl, .inr (SqT.of ha), ?_, f1, ?_⟩
  · cases d <;> first | rfl | cases f
  · have e2 : (if neg then !inV d.val vs else inV d.val vs) = b := by rw [e1]; exact e
    rw [e2]
    exact k _ H (S.flat (d := .bl b) rfl)

/-! ### lists -/
theorem ev_ixL {ds : List Dt} {P : Int → Prop} {Pd : Dt → Prop} (ha : EvL J ta δ ds) (hb : EvI J tb δ P) (h : ∀ i, P i → ∃ d, atI ds i = some d ∧ Pd d) : EvQ J (tOp (rIxL K) ta tb) δ Pd := by
  intro F0 H0 τd σ τ H Q S k
  refine ha _ _ _ _ _ _ _ S fun J1 s v H1 ⟨e, es⟩ S1 => ?_
  subst e es
  refine hb _ _ _ _ _ _ _ S1 fun J2 s2 v2 H2 ⟨e2, d2, es2, i, ei, hi⟩ S2 => ?_
  subst e2 es2 ei
  have ev : v2 = .int i := S2.dat
  obtain ⟨l, vs, rfl, hl, hs⟩ := S2.pop.lst
  obtain ⟨d, hd, pd⟩ := h i hi
  obtain ⟨w, hw, iw⟩ := isDs_ixN hs hd
  exact ⟨l, vs, i, w, rfl, ev, SqL.of hl, hw, k J2 _ w H2 ⟨rfl, d, rfl, pd⟩ (S2.pop.pop.push fun F _ _ _ _ => iw)⟩
theorem ev_inL {neg : Bool} {ds : List Dt} {d : Dt} {b : Bool} (ha : EvD J ta δ d) (hb : EvL J tb δ ds) (f : d.flat = true) (fs : ds.all Dt.flat = true) (e : (if neg then !inD d ds else inD d ds) = b) : EvD J (tOp (rIn K neg) ta tb) δ (.bl b) := by
  intro F0 H0 τd σ τ H Q S k
  refine ha _ _ _ _ _ _ _ S fun J1 s v H1 ⟨e1, d1, es, ed⟩ S1 => ?_
  subst e1 es ed
  refine hb _ _ _ _ _ _ _ S1 fun J2 s2 v2 H2 ⟨e2, es2⟩ S2 => ?_
  subst e2 es2
  obtain ⟨l, vs, rfl, hl, hs⟩ := S2.lst
  obtain ⟨q1, f1⟩ := isDs_flat fs hs
  have hx := S2.pop.dat
  rw [hx.val f]
  refine ⟨l, vs, rfl, .inl (SqL.of hl), ?_, f1, ?_⟩
  · cases d1 <;> first | rfl | cases f
  · have q2 : (if neg then !inV d1.val vs else inV d1.val vs) = b := by rw [q1]; exact e
    rw [q2]
    exact k J2 _ _ H2 ⟨rfl, _, rfl, rfl⟩ (S2.pop.pop.flat (d := .bl b) rfl)

/-! ### arguments, displays -/
theorem ea_nil : EvA J tNil δ fun ss => ss = [] := fun F0 H0 τd σ τ H Q S k => k [] [] H rfl rfl S
theorem Sta.turn {F0 : AS} {H0 H : Hp} {τd ss : List Sl} {σ : L2.St} {τ vs : List V} {s : Sl} {v : V} (l : vs.length = ss.length) (S : Sta J F0 H0 δ (ss ++ s :: τd) σ (vs ++ v :: τ) H) : Sta J F0 H0 δ (s :: ss ++ τd) σ (v :: vs ++ τ) H := by
  obtain ⟨F, x, o, d, t⟩ := S.ex
  obtain ⟨t1, w, r, e, h1, h2⟩ := TmpD.splitL l t
  cases e
  exact ⟨F, x, o, d, v, vs ++ τ, rfl, h1, t1.append h2⟩
theorem ea_consP {tr : TA} {P : Sl → Prop} {Ps Pc : List Sl → Prop} (h : EvP J te δ P) (hr : EvA J tr δ Ps) (k0 : ∀ s ss, P s → Ps ss → Pc (s :: ss)) : EvA J (tCons te tr) δ Pc := fun F0 H0 τd σ τ H Q S k =>
  h _ _ _ _ _ _ _ S fun J1 s v H1 ⟨e, p⟩ S1 => by
    subst e
    refine hr _ _ _ _ _ _ _ S1 fun ss vs H2 ps l S2 => ?_
    exact k (s :: ss) (v :: vs) H2 (k0 s ss p ps) (by rw [List.length_cons, List.length_cons, l]) (Sta.turn l S2)
theorem ea_cons {tr : TA} {P : Sl → Prop} {Ps : List Sl → Prop} (h : EvP J te δ P) (hr : EvA J tr δ Ps) : EvA J (tCons te tr) δ fun l => ∃ s ss, l = s :: ss ∧ P s ∧ Ps ss := ea_consP h hr fun s ss p q => ⟨s, ss, rfl, p, q⟩
/-- all arguments are data -/
theorem ea_d {tr : TA} {d : Dt} {ds : List Dt} (h : EvD J te δ d) (hr : EvA J tr δ fun ss => ss = ds.map Sl.dat) : EvA J (tCons te tr) δ fun ss => ss = (d :: ds).map Sl.dat :=
  ea_consP h hr fun s ss ⟨d1, e1, e2⟩ e => by rw [e1, e2, e]; rfl
theorem ea_d0 : EvA J tNil δ fun ss => ss = ([] : List Dt).map Sl.dat := ea_nil
theorem Sta.drop {F0 : AS} {H0 H : Hp} {τd ss : List Sl} {σ : L2.St} {τ vs : List V} (l : vs.length = ss.length) (S : Sta J F0 H0 δ (ss ++ τd) σ (vs ++ τ) H) : Sta J F0 H0 δ τd σ τ H := by
  obtain ⟨F, x, o, d, t⟩ := S.ex
  exact ⟨F, x, o, d, (TmpD.splitL l t).2⟩
theorem Sta.args {F0 : AS} {H0 H : Hp} {τd ss : List Sl} {σ : L2.St} {τ vs : List V} (l : vs.length = ss.length) (S : Sta J F0 H0 δ (ss ++ τd) σ (vs ++ τ) H) : ∃ F, TmpD F H ss vs := by
  obtain ⟨F, x, o, d, t⟩ := S.ex
  exact ⟨F, (TmpD.splitL l t).1⟩
theorem ev_tupQ {t : TA} {P : List Sl → Prop} {Pd : Dt → Prop} (h : EvA J t δ P) (k0 : ∀ ss, P ss → ∃ ds : List Dt, ss = ds.map Sl.dat ∧ ds.length ≤ 100000 ∧ Pd (.tup ds)) : EvQ J (tTup t) δ Pd := fun F0 H0 τd σ τ H Q S k =>
  h _ _ _ _ _ _ _ S fun ss vs H1 p l S1 => by
    obtain ⟨ds, rfl, hz, pd⟩ := k0 ss p
    obtain ⟨F, t⟩ := S1.args l
    refine ⟨by rw [l, List.length_map]; exact Nat.le_trans hz (by decide), fun q hq => k J _ _ _ ⟨rfl, _, rfl, pd⟩ ?_⟩
    exact (S1.drop l).newTup hq t.dats
theorem ev_tup {t : TA} {ds : List Dt} (h : EvA J t δ fun ss => ss = ds.map Sl.dat) (hz : ds.length ≤ 100000 := by exact Nat.le_of_ble_eq_true rfl) : EvD J (tTup t) δ (.tup ds) := ev_tupQ h fun ss e => ⟨ds, e, hz, rfl⟩
theorem ev_lstP {t : TA} {P : List Sl → Prop} {Pd : List Dt → Prop} (h : EvA J t δ P) (k0 : ∀ ss, P ss → ∃ ds : List Dt, ss = ds.map Sl.dat ∧ ds.length ≤ 100000 ∧ Pd ds) : EvP J (tLst t) δ fun s => ∃ ds, s = .lst ds ∧ Pd ds := fun F0 H0 τd σ τ H Q S k =>
  h _ _ _ _ _ _ _ S fun ss vs H1 p l S1 => by
    obtain ⟨ds, rfl, hz, pd⟩ := k0 ss p
    obtain ⟨F, t⟩ := S1.args l
    refine ⟨by rw [l, List.length_map]; exact Nat.le_trans hz (by decide), fun q hq => k J _ _ _ ⟨rfl, _, rfl, pd⟩ ?_⟩
    exact (S1.drop l).newLst hq t.dats
theorem ev_lstD {t : TA} {ds : List Dt} (h : EvA J t δ fun ss => ss = ds.map Sl.dat) (hz : ds.length ≤ 100000 := by exact Nat.le_of_ble_eq_true rfl) : EvL J (tLst t) δ ds := (ev_lstP (Pd := fun l => l = ds) h fun ss e => ⟨ds, e, hz, rfl⟩).imp fun _ s ⟨e, l, es, el⟩ => ⟨e, by rw [es, el]⟩

/-! ### tests -/
theorem et_test {P : Bool → Prop} (h : EvQ J te δ fun d => ∃ b, d = .bl b ∧ P b) : EvT J (tTest te) δ P := fun F0 H0 τd σ τ H Q S k =>
  h _ _ _ _ _ _ _ S fun J1 s v H1 ⟨e, d, es, b, ed, p⟩ S1 => by
    subst e es ed
    have ev : v = .bl b := S1.dat
    exact ⟨b, ev, k b H1 p S1.pop⟩
theorem et_b {b : Bool} (h : EvD J te δ (.bl b)) : EvB J (tTest te) δ b := et_test (EvQ.imp h fun d e => ⟨b, e, rfl⟩)
theorem et_B {b : Bool} (h : EvD J te δ (.bl b)) : EvB J (tB te) δ b := et_b h
theorem et_not {t : TT} {P P' : Bool → Prop} (h : EvT J t δ P) (k0 : ∀ b, P b → P' (!b)) : EvT J (tNot t) δ P' := fun F0 H0 τd σ τ H Q S k => h _ _ _ _ _ _ _ S fun b H1 p S1 => k _ H1 (k0 b p) S1
theorem et_notB {t : TT} {b : Bool} (h : EvB J t δ b) : EvB J (tNot t) δ (!b) := et_not h fun c e => by rw [e]
theorem et_and {t u : TT} {Pa Pb Pc : Bool → Prop} (h1 : EvT J t δ Pa) (h2 : Pa true → EvT J u δ Pb) (kf : Pa false → Pc false) (kt : ∀ b, Pa true → Pb b → Pc b) : EvT J (tAnd t u) δ Pc := fun F0 H0 τd σ τ H Q S k =>
  h1 _ _ _ _ _ _ _ S fun a H1 pa S1 => by
    cases a with
    | true =>
      show u σ H1 Q
      exact h2 pa _ _ _ _ _ _ _ S1 fun b H2 pb S2 => k b H2 (kt b pa pb) S2
    | false =>
      show Q false H1
      exact k false H1 (kf pa) S1
theorem et_andB {t u : TT} {a b : Bool} (h1 : EvB J t δ a) (h2 : a = true → EvB J u δ b) : EvB J (tAnd t u) δ (a && b) := by
  cases a with
  | true => exact et_and h1 (fun _ => h2 rfl) (fun e => by cases e) fun c _ e => by rw [e]; rfl
  | false => exact et_and (Pb := fun _ => True) h1 (fun e => by cases e) (fun _ => rfl) fun c e _ => by cases e
theorem et_or {t u : TT} {Pa Pb Pc : Bool → Prop} (h1 : EvT J t δ Pa) (h2 : Pa false → EvT J u δ Pb) (kt : Pa true → Pc true) (kf : ∀ b, Pa false → Pb b → Pc b) : EvT J (tOr t u) δ Pc := fun F0 H0 τd σ τ H Q S k =>
  h1 _ _ _ _ _ _ _ S fun a H1 pa S1 => by
    cases a with
    | true =>
      show Q true H1
      exact k true H1 (kt pa) S1
    | false =>
      show u σ H1 Q
      exact h2 pa _ _ _ _ _ _ _ S1 fun b H2 pb S2 => k b H2 (kf b pa pb) S2
theorem et_orB {t u : TT} {a b : Bool} (h1 : EvB J t δ a) (h2 : a = false → EvB J u δ b) : EvB J (tOr t u) δ (a || b) := by
  cases a with
  | true => exact et_or (Pb := fun _ => True) h1 (fun e => by cases e) (fun _ => rfl) fun c e _ => by cases e
  | false => exact et_or h1 (fun _ => h2 rfl) (fun e => by cases e) fun c _ e => by rw [e]; rfl
/-- if xs:, if t: -/
theorem et_truL {ds : List Dt} (h : EvL J te δ ds) : EvB J (fun σ H Q => te σ H fun x H' => ∃ k, TruV K x H' k ∧ Q k H') δ (!ds.isEmpty) := fun F0 H0 τd σ τ H Q S k =>
  h _ _ _ _ _ _ _ S fun J1 s v H1 ⟨e, es⟩ S1 => by
    subst e es
    obtain ⟨l, vs, rfl, hl, hs⟩ := S1.lst
    refine ⟨!ds.isEmpty, .inl ⟨vs, SqL.of hl, ?_⟩, k _ H1 rfl S1.pop⟩
    have el := hs.length
    cases ds <;> cases vs <;> first | rfl | (simp at el)
theorem et_truT {ds : List Dt} (h : EvD J te δ (.tup ds)) : EvB J (fun σ H Q => te σ H fun x H' => ∃ k, TruV K x H' k ∧ Q k H') δ (!ds.isEmpty) := fun F0 H0 τd σ τ H Q S k =>
  h _ _ _ _ _ _ _ S fun J1 s v H1 ⟨e, d, es, ed⟩ S1 => by
    subst e es ed
    obtain ⟨l, vs, rfl, hl, hs⟩ := S1.dat
    refine ⟨!ds.isEmpty, .inr (.inl ⟨vs, SqT.of hl, ?_⟩), k _ H1 rfl S1.pop⟩
    have el := hs.length
    cases ds <;> cases vs <;> first | rfl | (simp at el)
theorem ev_un {r : V → Hp → VK → Prop} {i : Int} {d : Dt} (f : d.flat = true) (h : EvD J te δ (.int i)) (hr : ∀ (H : Hp) (Q : VK), Q d.val H → r (.int i) H Q) : EvD J (tUn r te) δ d := fun F0 H0 τd σ τ H Q S k =>
  h _ _ _ _ _ _ _ S fun J1 s v H1 ⟨e, d1, es, ed⟩ S1 => by
    subst e es ed
    have ev : v = .int i := S1.dat
    subst ev
    exact hr H1 Q (k _ _ _ H1 ⟨rfl, d, rfl, rfl⟩ (S1.pop.flat f))
theorem ev_neg {i : Int} (h : EvD J te δ (.int i)) : EvD J (tUn (rU fun i => .int (-i)) te) δ (.int (-i)) := ev_un rfl h fun H Q q => ⟨i, rfl, q⟩

/-! ### calls of built-ins on values -/
def RCB (r : List V → Hp → VK → Prop) (ss : List Sl) (P : Sl → Prop) : Prop := ∀ (J : List Atom) (F0 : AS) (H0 : Hp) (δ : SE) (τd : List Sl) (σ : L2.St) (τ : List V) (F : AS) (vs : List V) (H : Hp) (Q : VK), TmpD F H ss vs → Sta J F0 H0 δ τd σ τ H →
  (∀ s v H1, P s → Sta J F0 H0 δ (s :: τd) σ (v :: τ) H1 → Q v H1) → r vs H Q
theorem ev_cb {r : List V → Hp → VK → Prop} {t : TA} {Ps : List Sl → Prop} {P : Sl → Prop} (h : EvA J t δ Ps) (hr : ∀ ss, Ps ss → RCB r ss P) : EvP J (tCB r t) δ P := fun F0 H0 τd σ τ H Q S k =>
  h _ _ _ _ _ _ _ S fun ss vs H1 p l S1 => by
    obtain ⟨F, t⟩ := S1.args l
    exact hr ss p J F0 H0 δ τd σ τ F vs H1 Q t (S1.drop l) fun s v H2 ps S2 => k J s v H2 ⟨rfl, ps⟩ S2

/-! ### calls of defs -/
/-- a promise over owned memory: what is handed back and owned then -/
def spG (Pre : List Atom → List Sl → JO → Prop) : Sp := fun vs H Q _ => ∃ (J : List Atom) (F : AS) (ss : List Sl) (R : JO), Own J F H ∧ TmpD F H ss vs ∧ Pre J ss R ∧
  ∀ J1 s v F1 H1, R J1 s → Fr F H F1 H1 → Own J1 F1 H1 → SlOk F1 H1 s v → Q v H1
theorem ev_call {Pre : List Atom → List Sl → JO → Prop} {E : XK} {t : TA} {Ps : List Sl → Prop} {P : JO} (h : EvA J t δ Ps) (hp : ∀ ss, Ps ss → ∃ R, Pre J ss R ∧ ∀ J1 s, R J1 s → P J1 s) : EvG J (tCall (spG Pre) [] E t) δ P := fun F0 H0 τd σ τ H Q S k =>
  h _ _ _ _ _ _ _ S fun ss vs H1 p l S1 => by
    obtain ⟨F, x, o, d, t⟩ := S1.ex
    obtain ⟨t1, t2⟩ := TmpD.splitL l t
    obtain ⟨R, pre, hR⟩ := hp ss p
    refine ⟨J, F, ss, R, o, by rw [List.append_nil]; exact t1, pre, fun J1 s v F1 H2 r f o1 hv => k J1 s v H2 (hR _ _ r) ⟨F1, x.trans f, o1, d.fr f, v, τ, rfl, hv, t2.fr f⟩⟩
theorem ev_meth {C : Addr} {m : Str} {x : Addr} {Pre : List Atom → List Sl → JO → Prop} {E : XK} {t : TA} {Ps : List Sl → Prop} {P : JO} (ho : EvV J te δ (.ref x)) (hi : ∀ F H, Own J F H → ∃ dx fs, H x = some (.ins C dx fs) ∧ fs.lookup m = none) (h : EvA J t δ Ps)
    (hp : ∀ ss, Ps ss → ∃ R, Pre J (.val (.ref x) :: ss) R ∧ ∀ J1 s, R J1 s → P J1 s) : EvG J (tMeth C m (spG Pre) [] E te t) δ P := fun F0 H0 τd σ τ H Q S k =>
  ho _ _ _ _ _ _ _ S fun J1 s v H1 ⟨e, es⟩ S1 => by
    subst e es
    obtain ⟨F1, _, o1, ev⟩ := S1.top
    have ev : v = .ref x := ev
    subst ev
    obtain ⟨dx, fs, hx, hm⟩ := hi _ _ o1
    refine ⟨x, dx, fs, rfl, hx, hm, h _ _ _ _ _ _ _ S1.pop fun ss vs H2 p l S2 => ?_⟩
    obtain ⟨F, y, o, d, t⟩ := S2.ex
    obtain ⟨t1, t2⟩ := TmpD.splitL l t
    obtain ⟨R, pre, hR⟩ := hp ss p
    refine ⟨J1, F, .val (.ref x) :: ss, R, o, ⟨_, vs ++ [], rfl, rfl, by rw [List.append_nil]; exact t1⟩, pre, fun J2 s v F1 H3 r f o1 hv => k J2 s v H3 (hR _ _ r) ⟨F1, y.trans f, o1, d.fr f, v, τ, rfl, hv, t2.fr f⟩⟩
end

/-! ### statements -/
structure Outs where
  nx : List Atom → SE → Prop
  rt : JO
  bk : List Atom → SE → Prop := fun _ _ => False
def SG (J : List Atom) (ts : TS) (δ : SE) (O : Outs) : Prop := ∀ (F0 : AS) (H0 : Hp) (τd : List Sl) (σ : L2.St) (τ : List V) (H : Hp) (D : Ends), Sta J F0 H0 δ τd σ τ H →
  (∀ J1 δ1 σ1 H1, O.nx J1 δ1 → Sta J1 F0 H0 δ1 τd σ1 τ H1 → D.nx σ1 H1) → (∀ J1 s v δ1 σ1 H1, O.rt J1 s → Sta J1 F0 H0 δ1 (s :: τd) σ1 (v :: τ) H1 → D.rt v H1) →
  (∀ J1 δ1 σ1 H1, O.bk J1 δ1 → Sta J1 F0 H0 δ1 τd σ1 τ H1 → D.bk σ1 H1) → ts D σ H
section
variable {J : List Atom} {δ : SE} {te : TE} {t u : TS} {O : Outs} {K : PySem.W.Frag}
theorem SG.perm {J' : List Atom} (p : J.Perm J') (h : SG J' t δ O) : SG J t δ O := fun F0 H0 τd σ τ H D S => h F0 H0 τd σ τ H D (S.perm p)
theorem sg_next (h : O.nx J δ) : SG J tNext δ O := fun F0 H0 τd σ τ H D S a b c => a J δ σ H h S
theorem sg_seq {N : List Atom → SE → Prop} (h1 : SG J t δ { O with nx := N }) (h2 : ∀ J1 δ1, N J1 δ1 → SG J1 u δ1 O) : SG J (tSeq t u) δ O := fun F0 H0 τd σ τ H D S a b c =>
  h1 F0 H0 τd σ τ H { D with nx := u D } S (fun J1 δ1 σ1 H1 n S1 => h2 J1 δ1 n F0 H0 τd σ1 τ H1 D S1 a b c) b c
theorem sg_asgG {i : Nat} {P : JO} (h : EvG J te δ P) (k : ∀ J1 s, P J1 s → O.nx J1 (δ.set i (some s))) : SG J (tAsg te (gName i)) δ O := fun F0 H0 τd σ τ H D S a b c =>
  h _ _ _ _ _ _ _ S fun J1 s v H1 p S1 => a J1 _ _ H1 (k _ _ p) (S1.setSl i)
/-- x = e, then the rest -/
theorem sg_letG {i : Nat} {P : JO} (h : EvG J te δ P) (k : ∀ J1 s, P J1 s → SG J1 u (δ.set i (some s)) O) : SG J (tSeq (tAsg te (gName i)) u) δ O :=
  sg_seq (N := fun J1 δ1 => ∃ s, P J1 s ∧ δ1 = δ.set i (some s)) (sg_asgG h fun J1 s p => ⟨s, p, rfl⟩) fun J1 δ1 ⟨s, p, e⟩ => by rw [e]; exact k J1 s p
theorem sg_letD {i : Nat} {d : Dt} (h : EvD J te δ d) (k : SG J u (δ.set i (some (.dat d))) O) : SG J (tSeq (tAsg te (gName i)) u) δ O :=
  sg_letG h fun J1 s ⟨e, d1, es, ed⟩ => by rw [e, es, ed]; exact k
theorem sg_letQ {i : Nat} {P : Dt → Prop} (h : EvQ J te δ P) (k : ∀ d, P d → SG J u (δ.set i (some (.dat d))) O) : SG J (tSeq (tAsg te (gName i)) u) δ O :=
  sg_letG h fun J1 s ⟨e, d1, es, ed⟩ => by rw [e, es]; exact k d1 ed
theorem sg_letI {i : Nat} {P : Int → Prop} (h : EvI J te δ P) (k : ∀ n, P n → SG J u (δ.set i (some (.dat (.int n)))) O) : SG J (tSeq (tAsg te (gName i)) u) δ O :=
  sg_letQ h fun d ⟨n, e, p⟩ => by rw [e]; exact k n p
theorem sg_letL {i : Nat} {ds : List Dt} (h : EvL J te δ ds) (k : SG J u (δ.set i (some (.lst ds))) O) : SG J (tSeq (tAsg te (gName i)) u) δ O :=
  sg_letG h fun J1 s ⟨e, es⟩ => by rw [e, es]; exact k
theorem sg_retG {P : JO} (h : EvG J te δ P) (k : ∀ J1 s, P J1 s → O.rt J1 s) : SG J (tRet te) δ O := fun F0 H0 τd σ τ H D S a b c => h _ _ _ _ _ _ _ S fun J1 s v H1 p S1 => b J1 s v δ σ H1 (k _ _ p) S1
theorem sg_retD {d : Dt} (h : EvD J te δ d) (k : O.rt J (.dat d)) : SG J (tRet te) δ O := sg_retG h fun J1 s ⟨e, d1, es, ed⟩ => by rw [e, es, ed]; exact k
theorem sg_if {c : TT} {P : Bool → Prop} (h : EvT J c δ P) (h1 : P true → SG J t δ O) (h2 : P false → SG J u δ O) : SG J (tIfS c t u) δ O := fun F0 H0 τd σ τ H D S a b k =>
  h _ _ _ _ _ _ _ S fun z H1 p S1 => by
    cases z with
    | true =>
      show t D σ H1
      exact h1 p F0 H0 τd σ τ H1 D S1 a b k
    | false =>
      show u D σ H1
      exact h2 p F0 H0 τd σ τ H1 D S1 a b k
theorem sg_ifB {c : TT} {z : Bool} (h : EvB J c δ z) (h1 : z = true → SG J t δ O) (h2 : z = false → SG J u δ O) : SG J (tIfS c t u) δ O := sg_if h (fun e => h1 e.symm) fun e => h2 e.symm
/-- if c: return .., then the rest -/
theorem sg_whenG {c : TT} {tu : TS} {P : Bool → Prop} (h : EvT J c δ P) (h1 : P true → SG J tu δ { O with nx := fun _ _ => False }) (h2 : P false → SG J u δ O) : SG J (tSeq (tIfS c tu tNext) u) δ O :=
  sg_seq (N := fun J1 δ1 => J1 = J ∧ δ1 = δ ∧ P false) (sg_if h (fun p F0 H0 τd σ τ H D S a b k => h1 p F0 H0 τd σ τ H D S (fun _ _ _ _ n => n.elim) b k) fun p => sg_next ⟨rfl, rfl, p⟩) fun J1 δ1 ⟨e1, e2, p⟩ => by
    rw [e1, e2]
    exact h2 p
theorem sg_when {c : TT} {tu : TS} {z : Bool} (h : EvB J c δ z) (h1 : z = true → SG J tu δ { O with nx := fun _ _ => False }) (h2 : z = false → SG J u δ O) : SG J (tSeq (tIfS c tu tNext) u) δ O := sg_whenG h (fun e => h1 e.symm) fun e => h2 e.symm
theorem sg_never (h : False) : SG J tNever δ O := h.elim
theorem sg_dropG {P : JO} (h : EvG J te δ P) (k : ∀ J1 s, P J1 s → O.nx J1 δ) : SG J (tDrop te) δ O := fun F0 H0 τd σ τ H D S a b c => h _ _ _ _ _ _ _ S fun J1 s v H1 p S1 => a J1 δ σ H1 (k _ _ p) S1.pop
theorem sg_retN (h : O.rt J (.dat .non)) : SG J tRetN δ O := fun F0 H0 τd σ τ H D S a b c => b J _ _ δ σ H h (S.flat (d := .non) rfl)
theorem sg_break (h : O.bk J δ) : SG J tBreak δ O := fun F0 H0 τd σ τ H D S a b c => c J δ σ H h S
end

/-! ### a def by its walk -/
theorem fn_sg {P : Program} {w : World} {K : PySem.W.Frag} {mg : Str → Option Value} {base : Heap} {x qual : Str} {params : Arguments} {body : List Stmt} {scope : Scope} {f : Addr} {fd : FuncData} {N ps : List Str} {k : Nat} {Pre : List Atom → List Sl → JO → Prop}
    (F : FunD K x qual params body scope [] [] f fd) (S : FnScope N ps scope) (len : ∀ J ss R, Pre J ss R → ss.length = ps.length)
    (hb : ∀ (cdv : Value) (A : Around) (outer : List Env) (s : Shared) (H : Hp) (E : XK), Room k (A.deeper (envOfC qual scope s.heap.objs.size f cdv)) → ∃ t, PSs (cxOf CX0 P w K mg base N qual scope f cdv A outer s H E).nox body t ∧
      ∀ J ss R, Pre J ss R → SG J t (ss.map some ++ List.replicate (N.length - ps.length) none) { nx := fun J1 _ => R J1 (.dat .non), rt := R }) : FnOk P w K mg base CX0 (k + 1) f fd ps (spG Pre) := by
  refine F.ok S (fun vs H Q E h => ?_) (fun cdv A outer s H vs Q E hr h => ?_)
  · obtain ⟨J, F, ss, R, _, ht, hp, _⟩ := h
    rw [ht.length]
    exact len J ss R hp
  · obtain ⟨t, hpss, hs⟩ := hb cdv A outer s H E hr
    refine ⟨t, hpss.nox, ?_⟩
    obtain ⟨J, F, ss, R, ho, ht, hp, q⟩ := h
    have el : vs.length = ps.length := by rw [ht.length]; exact len J ss R hp
    have S0 : Sta J F H (ss.map some ++ List.replicate (N.length - ps.length) none) [] (L2.start N vs) [] H := by
      refine ⟨F, Fr.refl F H, ho, ?_, rfl⟩
      unfold L2.start
      rw [el]
      exact EnvD.of_tmp _ ht
    refine hs J ss R hp F H [] (L2.start N vs) [] H _ S0 (fun J1 δ1 σ1 H1 n S1 => ?_) (fun J1 s v δ1 σ1 H1 r S1 => ?_) fun _ _ _ _ z => z.elim
    · obtain ⟨F1, x1, o1, _, _⟩ := S1.ex
      exact q J1 _ .non F1 H1 n x1 o1 rfl
    · obtain ⟨F1, x1, o1, hv⟩ := S1.top
      exact q J1 s v F1 H1 r x1 o1 hv
end LK

namespace LK
open PySem PySem.Spec PyProof.Rows L2
/-! ### words -/
def absN (n : Int) : Int := if n < 0 then -n else n
def wrapN (n : Int) : Int := if 2147483647 < n.fmod 4294967296 then n.fmod 4294967296 - 4294967296 else n.fmod 4294967296
def Wd (n : Int) : Prop := -2147483648 ≤ n ∧ n ≤ 2147483647
theorem wrapN_wd (n : Int) : Wd (wrapN n) := by
  have h0 : 0 ≤ n.fmod 4294967296 := Int.fmod_nonneg_of_pos n (by decide)
  have h1 : n.fmod 4294967296 < 4294967296 := Int.fmod_lt_of_pos n (by decide)
  unfold wrapN Wd
  split <;> omega
def divN (a b : Int) : Int := if b = 0 then 0 else if decide (a < 0) = decide (b < 0) then absN a / absN b else -(absN a / absN b)
def arithN (op : Str) (a b : Int) : Option Int :=
  if op = "add" then some (a + b) else if op = "sub" then some (a - b) else if op = "mul" then some (a * b) else if op = "div" then some (divN a b)
  else if op = "rem" then some (if b = 0 then 0 else a - divN a b * b) else none
def bitsN (op : Str) (a b : Int) : Option Int :=
  if op = "and" then some (Builtin.bitAnd a b) else if op = "or" then some (Builtin.bitOr a b) else if op = "xor" then some (Builtin.bitXor a b)
  else if op = "shl" then some (a * 2 ^ (b.fmod 32).toNat) else if op = "shr" then some (a / 2 ^ (b.fmod 32).toNat) else none
def b2N (b : Bool) : Int := if b then 1 else 0
def cmpN (op : Str) (a b : Int) : Int :=
  if op = "lt" then b2N (decide (a < b)) else if op = "le" then b2N (decide (a ≤ b)) else if op = "eq" then b2N (decide (a = b)) else if op = "ne" then b2N (!decide (a = b))
  else if op = "min" then (if b < a then b else a) else (if b > a then b else a)
def binN (op : Str) (a b : Int) : Int := wrapN (match arithN op a b with
  | some x => x
  | none => match bitsN op a b with
    | some x => x
    | none => cmpN op a b)
def unN (op : Str) (a : Int) : Int := if op = "neg" then wrapN (-a) else if op = "not" then wrapN (-a - 1) else b2N (decide (a = 0))
theorem b2N_wd (b : Bool) : Wd (b2N b) := by cases b <;> exact ⟨by decide, by decide⟩
theorem binN_wd (op : Str) (a b : Int) : Wd (binN op a b) := wrapN_wd _
theorem unN_wd (op : Str) (a : Int) : Wd (unN op a) := by
  unfold unN
  split
  · exact wrapN_wd _
  · split
    · exact wrapN_wd _
    · exact b2N_wd _
def optD : Option Int → Dt
  | some n => .int n
  | none => .non
/-! ### lanes -/
def spcN (s : Str) (thread grid block : Int) : Int := if s = "tid" then thread.fmod block else if s = "bid" then thread.fdiv block else if s = "dim" then block else grid
structure Lane where
  at_ : Nat
  regs : List Int
  cells : List Int
def Lane.toD (l : Lane) : Dt := .tup [.int l.at_, .tup (l.regs.map Dt.int), .tup (l.cells.map Dt.int)]
inductive Ins where
  | word (d : Nat) (n : Int) | param (d k : Nat) | special (d : Nat) (s : Str) | copy (d r : Nat) | unary (op : Str) (d r : Nat) | binary (op : Str) (d r s : Nat)
  | load (d : Nat) (a : Int) (r : Nat) | store (a : Int) (r s : Nat) | atomic (op : Str) (a : Int) (r s : Nat) | barrier (n : Int) | collect (op : Str) (d r : Nat) (n : Int)
  | get (d n : Nat) | keep (n r : Nat) | jump (k : Nat) | branch (r k : Nat) (j : Int) | exit
def Ins.parts : Ins → List Dt
  | .word d n => [.int d, .int n]
  | .param d k => [.int d, .int k]
  | .special d s => [.int d, .str s]
  | .copy d r => [.int d, .int r]
  | .unary op d r => [.str op, .int d, .int r]
  | .binary op d r s => [.str op, .int d, .int r, .int s]
  | .load d a r => [.int d, .int a, .int r]
  | .store a r s => [.int a, .int r, .int s]
  | .atomic op a r s => [.str op, .int a, .int r, .int s]
  | .barrier n => [.int n]
  | .collect op d r n => [.str op, .int d, .int r, .int n]
  | .get d n => [.int d, .int n]
  | .keep n r => [.int n, .int r]
  | .jump k => [.int k]
  | .branch r k j => [.int r, .int k, .int j]
  | .exit => []
def Ins.kind : Ins → Str
  | .word .. => "word" | .param .. => "param" | .special .. => "special" | .copy .. => "copy" | .unary .. => "unary" | .binary .. => "binary" | .load .. => "load" | .store .. => "store"
  | .atomic .. => "atomic" | .barrier .. => "barrier" | .collect .. => "collect" | .get .. => "get" | .keep .. => "keep" | .jump .. => "jump" | .branch .. => "branch" | .exit => "exit"
def Ins.toD (i : Ins) : Dt := .tup (.str i.kind :: i.parts)
/-- an instruction of code with N instructions, nl local cells, na arguments -/
def Ins.Ok (N nl na : Nat) : Ins → Prop
  | .word d n => d < 8 ∧ Wd n
  | .param d k => d < 8 ∧ k < na
  | .special d _ => d < 8
  | .copy d r => d < 8 ∧ r < 8
  | .unary _ d r => d < 8 ∧ r < 8
  | .binary _ d r s => d < 8 ∧ r < 8 ∧ s < 8
  | .load d _ r => d < 8 ∧ r < 8
  | .store _ r s => r < 8 ∧ s < 8
  | .atomic _ _ r s => r < 8 ∧ s < 8
  | .barrier _ => True
  | .collect _ d r _ => d < 8 ∧ r < 8
  | .get d n => d < 8 ∧ n < nl
  | .keep n r => n < nl ∧ r < 8
  | .jump k => k < N
  | .branch r k _ => r < 8 ∧ k < N
  | .exit => True
/-- what the code and the launch are -/
structure Prg where
  params : Dt
  shared : Dt
  loc : Nat
  rows : List Ins
  grid : Int
  args : List Int
  bufs : Dt
def Prg.code (p : Prg) : Dt := .tup [p.params, p.shared, .int p.loc, .tup (p.rows.map Ins.toD)]
def Prg.launch (p : Prg) : Dt := .tup [.int p.grid, .int 6, .tup (p.args.map Dt.int), p.bufs]
structure Prg.Ok (p : Prg) : Prop where
  loc : p.loc ≤ 64
  rows : ∀ (i : Nat) (x : Ins), p.rows[i]? = some x → x.Ok p.rows.length p.loc p.args.length ∧ (i + 1 < p.rows.length ∨ x = .exit)
  few : p.rows.length ≤ 2000
  pos : 0 < p.rows.length
  grid : 1 ≤ p.grid ∧ p.grid ≤ 4
  args : ∀ n ∈ p.args, Wd n
/-- a lane's state is good -/
structure Lane.Ok (p : Prg) (l : Lane) : Prop where
  at_ : l.at_ < p.rows.length
  regs : l.regs.length = 8
  cells : l.cells.length = p.loc
  wr : ∀ n ∈ l.regs, Wd n
  wc : ∀ n ∈ l.cells, Wd n
def Lane.first (p : Prg) : Lane := ⟨0, List.replicate 8 0, List.replicate p.loc 0⟩
def Lane.ins (p : Prg) (l : Lane) : Ins := p.rows.getD l.at_ .exit
def Lane.reg (l : Lane) (r : Nat) : Int := l.regs.getD r 0
def reqD (l : Lane) : Ins → Dt
  | .load _ a r => .tup [.str "load", .int a, .int (l.reg r)]
  | .store a r s => .tup [.str "store", .int a, .int (l.reg r), .int (l.reg s)]
  | .atomic op a r s => .tup [.str "atomic", .str op, .int a, .int (l.reg r), .int (l.reg s)]
  | .barrier n => (Ins.barrier n).toD
  | .exit => Ins.exit.toD
  | .collect op _ r n => .tup [.str "collect", .str op, .int (l.reg r), .int n]
  | _ => .tup [.str "none"]
def resN (p : Prg) (thread : Int) (l : Lane) (word : Int) : Ins → Option (Nat × Int)
  | .word d n => some (d, n)
  | .param d k => some (d, p.args.getD k 0)
  | .special d s => some (d, spcN s thread p.grid 6)
  | .copy d r => some (d, l.reg r)
  | .unary op d r => some (d, unN op (l.reg r))
  | .binary op d r s => some (d, binN op (l.reg r) (l.reg s))
  | .get d n => some (d, l.cells.getD n 0)
  | .load d _ _ => some (d, word)
  | .collect _ d _ _ => some (d, word)
  | _ => none
def resD : Option (Nat × Int) → Dt
  | some q => .tup [.int q.1, .int q.2]
  | none => .non
def follN (l : Lane) : Ins → Nat
  | .jump k => k
  | .branch r k _ => if l.reg r = 0 then l.at_ + 1 else k
  | _ => l.at_ + 1
def behindI (p : Prg) (thread : Int) (l : Lane) (word : Int) : Ins → Lane
  | .exit => l
  | .keep n r => ⟨follN l (.keep n r), l.regs, l.cells.set n (l.reg r)⟩
  | i => match resN p thread l word i with
    | some q => ⟨follN l i, l.regs.set q.1 q.2, l.cells⟩
    | none => ⟨follN l i, l.regs, l.cells⟩
def behindN (p : Prg) (thread : Int) (l : Lane) (word : Int) : Lane := behindI p thread l word (l.ins p)
theorem mem_set_wd {l : List Int} {i : Nat} {x : Int} (h : ∀ n ∈ l, Wd n) (hx : Wd x) : ∀ n ∈ l.set i x, Wd n := fun n hn => by
  rcases List.mem_or_eq_of_mem_set hn with q | q
  · exact h n q
  · rw [q]; exact hx
theorem getD_wd {l : List Int} (h : ∀ n ∈ l, Wd n) (i : Nat) : Wd (l.getD i 0) := by
  rw [List.getD_eq_getElem?_getD]
  cases e : l[i]? with
  | none => exact ⟨by decide, by decide⟩
  | some x => exact h x (List.mem_of_getElem? e)
theorem Lane.ins_ok {p : Prg} (P : p.Ok) {l : Lane} (L : l.Ok p) : p.rows[l.at_]? = some (l.ins p) ∧ (l.ins p).Ok p.rows.length p.loc p.args.length ∧ (l.at_ + 1 < p.rows.length ∨ l.ins p = .exit) := by
  have e : p.rows[l.at_]? = some (l.ins p) := by
    unfold Lane.ins
    rw [List.getD_eq_getElem?_getD, List.getElem?_eq_getElem L.at_] <;> rfl
  exact ⟨e, P.rows _ _ e⟩
theorem Lane.first_ok {p : Prg} (P : p.Ok) : (Lane.first p).Ok p := by
  refine ⟨P.pos, by simp [Lane.first], by simp [Lane.first], fun n hn => ?_, fun n hn => ?_⟩
  · rw [List.eq_of_mem_replicate hn]; exact ⟨by decide, by decide⟩
  · rw [List.eq_of_mem_replicate hn]; exact ⟨by decide, by decide⟩
theorem spcN_wd {p : Prg} (P : p.Ok) {t : Int} (h0 : 0 ≤ t) (h1 : t ≤ 1000) (s : Str) : Wd (spcN s t p.grid 6) := by
  have g := P.grid
  unfold spcN Wd
  split
  · rw [Int.fmod_eq_emod_of_nonneg _ (by decide)]; omega
  · split
    · rw [Int.fdiv_eq_ediv_of_nonneg _ (by decide)]; omega
    · split <;> omega
theorem resN_wd {p : Prg} (P : p.Ok) {l : Lane} (L : l.Ok p) {t w : Int} (h0 : 0 ≤ t) (h1 : t ≤ 1000) (hw : Wd w) {i : Ins} (hi : i.Ok p.rows.length p.loc p.args.length) {d : Nat} {x : Int} (e : resN p t l w i = some (d, x)) : d < 8 ∧ Wd x := by
  cases i <;> (first | (cases e; done) | skip) <;> simp only [resN, Option.some.injEq, Prod.mk.injEq] at e <;> obtain ⟨rfl, rfl⟩ := e <;> simp only [Ins.Ok] at hi
  case word => exact hi
  case param => exact ⟨hi.1, getD_wd P.args _⟩
  case special => exact ⟨hi, spcN_wd P h0 h1 _⟩
  case copy => exact ⟨hi.1, getD_wd L.wr _⟩
  case unary => exact ⟨hi.1, unN_wd _ _⟩
  case binary => exact ⟨hi.1, binN_wd _ _ _⟩
  case load => exact ⟨hi.1, hw⟩
  case collect => exact ⟨hi.1, hw⟩
  case get => exact ⟨hi.1, getD_wd L.wc _⟩
theorem follN_lt {p : Prg} {l : Lane} {i : Ins} (hi : i.Ok p.rows.length p.loc p.args.length) (h : l.at_ + 1 < p.rows.length) : follN l i < p.rows.length := by
  cases i <;> simp only [follN] <;> first | exact h | skip
  case jump => exact hi
  case branch =>
    split
    · exact h
    · exact hi.2
theorem behindN_ok {p : Prg} (P : p.Ok) {l : Lane} (L : l.Ok p) {t w : Int} (h0 : 0 ≤ t) (h1 : t ≤ 1000) (hw : Wd w) : (behindN p t l w).Ok p := by
  obtain ⟨_, hi, hn⟩ := Lane.ins_ok P L
  unfold behindN
  generalize l.ins p = i at hi hn
  by_cases hx : i = .exit
  · subst hx; exact L
  have hn := hn.resolve_right hx
  have hf := follN_lt (l := l) hi hn
  by_cases hk : ∃ n r, i = .keep n r
  · obtain ⟨n, r, rfl⟩ := hk
    exact ⟨hf, L.regs, by simp [behindI, L.cells], L.wr, mem_set_wd L.wc (getD_wd L.wr _)⟩
  · have e : behindI p t l w i = match resN p t l w i with
        | some q => ⟨follN l i, l.regs.set q.1 q.2, l.cells⟩
        | none => ⟨follN l i, l.regs, l.cells⟩ := by
      cases i <;> first | rfl | exact absurd rfl hx | exact absurd ⟨_, _, rfl⟩ hk
    rw [e]
    cases q : resN p t l w i with
    | none => exact ⟨hf, L.regs, L.cells, L.wr, L.wc⟩
    | some z =>
      obtain ⟨d, x⟩ := z
      have r := resN_wd P L h0 h1 hw hi q
      exact ⟨hf, by simp [L.regs], L.cells, mem_set_wd L.wr r.2, L.wc⟩
theorem kind_word {i : Ins} (h : i.kind = "word") : ∃ d n, i = .word d n := by
  cases i <;> first | exact ⟨_, _, rfl⟩ | (simp only [Ins.kind] at h; exact absurd h (by decide +kernel))
theorem kind_param {i : Ins} (h : i.kind = "param") : ∃ d k, i = .param d k := by
  cases i <;> first | exact ⟨_, _, rfl⟩ | (simp only [Ins.kind] at h; exact absurd h (by decide +kernel))
theorem kind_special {i : Ins} (h : i.kind = "special") : ∃ d s, i = .special d s := by
  cases i <;> first | exact ⟨_, _, rfl⟩ | (simp only [Ins.kind] at h; exact absurd h (by decide +kernel))
theorem kind_copy {i : Ins} (h : i.kind = "copy") : ∃ d r, i = .copy d r := by
  cases i <;> first | exact ⟨_, _, rfl⟩ | (simp only [Ins.kind] at h; exact absurd h (by decide +kernel))
theorem kind_unary {i : Ins} (h : i.kind = "unary") : ∃ op d r, i = .unary op d r := by
  cases i <;> first | exact ⟨_, _, _, rfl⟩ | (simp only [Ins.kind] at h; exact absurd h (by decide +kernel))
theorem kind_binary {i : Ins} (h : i.kind = "binary") : ∃ op d r s, i = .binary op d r s := by
  cases i <;> first | exact ⟨_, _, _, _, rfl⟩ | (simp only [Ins.kind] at h; exact absurd h (by decide +kernel))
theorem kind_load {i : Ins} (h : i.kind = "load") : ∃ d a r, i = .load d a r := by
  cases i <;> first | exact ⟨_, _, _, rfl⟩ | (simp only [Ins.kind] at h; exact absurd h (by decide +kernel))
theorem kind_store {i : Ins} (h : i.kind = "store") : ∃ a r s, i = .store a r s := by
  cases i <;> first | exact ⟨_, _, _, rfl⟩ | (simp only [Ins.kind] at h; exact absurd h (by decide +kernel))
theorem kind_atomic {i : Ins} (h : i.kind = "atomic") : ∃ op a r s, i = .atomic op a r s := by
  cases i <;> first | exact ⟨_, _, _, _, rfl⟩ | (simp only [Ins.kind] at h; exact absurd h (by decide +kernel))
theorem kind_barrier {i : Ins} (h : i.kind = "barrier") : ∃ n, i = .barrier n := by
  cases i <;> first | exact ⟨_, rfl⟩ | (simp only [Ins.kind] at h; exact absurd h (by decide +kernel))
theorem kind_collect {i : Ins} (h : i.kind = "collect") : ∃ op d r n, i = .collect op d r n := by
  cases i <;> first | exact ⟨_, _, _, _, rfl⟩ | (simp only [Ins.kind] at h; exact absurd h (by decide +kernel))
theorem kind_get {i : Ins} (h : i.kind = "get") : ∃ d n, i = .get d n := by
  cases i <;> first | exact ⟨_, _, rfl⟩ | (simp only [Ins.kind] at h; exact absurd h (by decide +kernel))
theorem kind_keep {i : Ins} (h : i.kind = "keep") : ∃ n r, i = .keep n r := by
  cases i <;> first | exact ⟨_, _, rfl⟩ | (simp only [Ins.kind] at h; exact absurd h (by decide +kernel))
theorem kind_jump {i : Ins} (h : i.kind = "jump") : ∃ k, i = .jump k := by
  cases i <;> first | exact ⟨_, rfl⟩ | (simp only [Ins.kind] at h; exact absurd h (by decide +kernel))
theorem kind_branch {i : Ins} (h : i.kind = "branch") : ∃ r k j, i = .branch r k j := by
  cases i <;> first | exact ⟨_, _, _, rfl⟩ | (simp only [Ins.kind] at h; exact absurd h (by decide +kernel))
theorem kind_exit {i : Ins} (h : i.kind = "exit") : i = .exit := by
  cases i <;> first | rfl | (simp only [Ins.kind] at h; exact absurd h (by decide +kernel))
end LK

namespace LK
open PySem PySem.Spec PyProof.Rows L2
/-! ### what the head gives of the module's names -/
structure Txt (K : PySem.W.Frag) (mg : Str → Option Value) : Prop where
  g_GREATEST : ∃ t, mg "GREATEST" = some (.int 2147483647 t)
  g_MODULUS : ∃ t, mg "MODULUS" = some (.int 4294967296 t)
  g_REGISTERS : ∃ t, mg "REGISTERS" = some (.int 8 t)
  n_abs : mg "abs" = none
  n_int : mg "int" = none
  n_sorted : mg "sorted" = none
  n_set : mg "set" = none
  n_len : mg "len" = none
  n_zip : mg "zip" = none
  n_range : mg "range" = none
  n_min : mg "min" = none
  n_max : mg "max" = none
  n_tuple : mg "tuple" = none
  n_list : mg "list" = none
  n_dict : mg "dict" = none
  n_all : mg "all" = none
/-- a def of the module, ready to be called -/
structure Cal (P : Program) (w : World) (K : PySem.W.Frag) (mg : Str → Option Value) (base : Heap) (k : Nat) (x : Str) (ps : List Str) (sp : Sp) where
  f : Addr
  fd : FuncData
  hm : mg x = some (.ref f)
  hk : PySem.W.keepIn K (.ref f) = true
  hb : Binds K fd ps []
  ok : FnOk P w K mg base CX0 k f fd ps sp
/-! ### promises of pure defs -/
def pureP (R : List Dt → Dt → Prop) : List Atom → List Sl → JO → Prop := fun J ss P => ∃ ds d, ss = ds.map Sl.dat ∧ R ds d ∧ P = fun J1 s => J1 = J ∧ s = .dat d
section
variable {J : List Atom} {δ : SE} {ta tb te : TE} {K : PySem.W.Frag}
theorem ev_pure {R : List Dt → Dt → Prop} {E : XK} {t : TA} {ds : List Dt} {d : Dt} (h : EvA J t δ fun ss => ss = ds.map Sl.dat) (r : R ds d) : EvD J (tCall (spG (pureP R)) [] E t) δ d :=
  ev_call h fun ss e => ⟨_, ⟨ds, d, e, r, rfl⟩, fun J1 s ⟨e1, e2⟩ => ⟨e1, d, e2, rfl⟩⟩
theorem ev_cbD {r : List V → Hp → VK → Prop} {t : TA} {ds : List Dt} {d : Dt} (h : EvA J t δ fun ss => ss = ds.map Sl.dat) (fs : ds.all Dt.flat = true) (f : d.flat = true) (hr : ∀ (H : Hp) (Q : VK), Q d.val H → r (ds.map Dt.val) H Q) : EvD J (tCB r t) δ d :=
  (ev_cb (P := fun s => s = .dat d) h fun ss e J F0 H0 δ τd σ τ F vs H Q tm S k => by
    subst e
    rw [(isDs_flat fs tm.dats).1]
    exact hr H Q (k _ _ H rfl (S.flat f))).imp fun _ s ⟨e1, e2⟩ => ⟨e1, d, e2, rfl⟩
theorem sg_upd {c : TT} {u : TS} {O : Outs} {z : Bool} {i : Nat} {d : Dt} (h : EvB J c δ z) (h1 : z = true → EvD J te δ d) (h2 : z = false → δ.set i (some (.dat d)) = δ) (k : SG J u (δ.set i (some (.dat d))) O) :
    SG J (tSeq (tIfS c (tAsg te (gName i)) tNext) u) δ O :=
  sg_seq (N := fun J1 δ1 => J1 = J ∧ δ1 = δ.set i (some (.dat d))) (sg_ifB h (fun e => sg_asgG (h1 e) fun J1 s ⟨e1, d1, e2, e3⟩ => ⟨e1, by rw [e2, e3]⟩) fun e => sg_next ⟨rfl, (h2 e).symm⟩) fun J1 δ1 ⟨e1, e2⟩ => by
    rw [e1, e2]; exact k
theorem rr_II {g : Int → Int → Int} {i j : Int} : RR (rI0 fun i j => .int (g i j)) (.int i) (.int j) (.int (g i j)) := rr_I0 rfl rfl
theorem rr_IB {g : Int → Int → Bool} {i j : Int} : RR (rI0 fun i j => .bl (g i j)) (.int i) (.int j) (.bl (g i j)) := rr_I0 rfl rfl
theorem rr_CI {C : Int → Int → Prop} {g : Int → Int → Int} {i j : Int} (h : C i j) : RR (rI C fun i j => .int (g i j)) (.int i) (.int j) (.int (g i j)) := rr_I rfl h rfl
theorem rr_modN {a b : Int} (h : b ≠ 0) : RR (rI (fun _ j => j ≠ 0) fun i j => .int (i.fmod j)) (.int a) (.int b) (.int (a.fmod b)) := rr_I rfl h rfl
theorem rr_fdivN {a b : Int} (h : CDivN a b) : RR (rI CDivN fun i j => .int (i.fdiv j)) (.int a) (.int b) (.int (a.fdiv b)) := rr_I rfl h rfl
end
/-! ### steps that any expression of data takes -/
local macro_rules | `(tactic| walk_at "rr") => `(tactic| first
  | (with_reducible exact rr_head)
  | ((with_reducible refine rr_ixT (d := ?d) ?h); (case h => exact rfl))
  | (with_reducible exact rr_eqS)
  | (with_reducible exact rr_eqI)
  | (with_reducible exact rr_neI)
  | (with_reducible exact rr_II)
  | (with_reducible exact rr_IB))
local macro_rules | `(tactic| walk_at "ev") => `(tactic| first
  | (with_reducible exact ev_int)
  | (with_reducible exact ev_str)
  | (with_reducible exact ev_non)
  | (with_reducible exact ev_bl)
  | ((with_reducible refine ev_dat (d := ?d) ?h); (case h => exact rfl))
  | (with_reducible exact ea_d0)
  | ((with_reducible refine ea_d (d := ?d) (ds := ?ds) ?h1 ?h2); (case h1 => walk_at "ev"); (case h2 => walk_at "ev"))
  | ((with_reducible refine ev_op (da := ?da) (db := ?db) (dc := ?dc) ?h1 ?h2 ?h3); (case h1 => walk_at "ev"); (case h2 => walk_at "ev"); (case h3 => walk_at "rr"))
  | ((with_reducible refine ev_tup (ds := ?ds) ?h1 ?h2); (case h1 => walk_at "ev"); (case h2 => exact Nat.le_of_ble_eq_true rfl))
  | ((with_reducible refine et_b (b := ?b) ?h1); (case h1 => walk_at "ev")))

section
variable {P : Program} {w : World} {K : PySem.W.Frag} {mg : Str → Option Value} {base : Heap} {f : Addr} {fd : FuncData}
abbrev FunP (K : PySem.W.Frag) (x : Str) (st : Stmt) (f : Addr) (fd : FuncData) : Prop := FunD K x x (defArgs st) (defBody st) (defScope st) [] [] f fd
theorem scFwrapped : FnScope ["number", "rest"] ["number"] (defScope sFwrapped) := ⟨rfl, rfl, rfl, by decide +kernel, rfl, by decide +kernel, by decide +kernel⟩
def rWrapped (ds : List Dt) (d : Dt) : Prop := ∃ n, ds = [.int n] ∧ d = .int (wrapN n)
theorem ok_wrapped (F : FunP K "wrapped" sFwrapped f fd) (T : Txt K mg) : FnOk P w K mg base CX0 1 f fd ["number"] (spG (pureP rWrapped)) := by
  have sc := scFwrapped
  refine fn_sg F sc (fun J ss R h => ?_) (fun cdv A outer s H E hr => ⟨_, (pss_cons (ps_set (i := 1) sc.nd rfl (.inl rfl) (pe_op op_modN (pv 0) (pe_glob (v := .int 4294967296) (by rfl) T.g_MODULUS.choose_spec ⟨_, rfl⟩)))
    (pss_cons (ps_if (pt_cmpR op_gt (pv 1) (pe_glob (v := .int 2147483647) (by rfl) T.g_GREATEST.choose_spec ⟨_, rfl⟩) (nomark _)) (pss_one (ps_ret (pe_op op_sub (pv 1) (pe_glob (v := .int 4294967296) (by rfl) T.g_MODULUS.choose_spec ⟨_, rfl⟩)))) pss_nil)
    (pss_one (ps_ret (pv 1))))), fun J ss R h => ?_⟩)
  · obtain ⟨ds, d, rfl, ⟨n, rfl, rfl⟩, rfl⟩ := h
    rfl
  · obtain ⟨ds, d, rfl, ⟨n, rfl, rfl⟩, rfl⟩ := h
    refine sg_letD (ev_op (by walk_at "ev") (by walk_at "ev") (rr_modN (by decide))) ?_
    refine sg_when (et_b (ev_op (by walk_at "ev") (by walk_at "ev") rr_IB)) (fun e => ?_) fun e => ?_
    · refine sg_retD (by walk_at "ev") ⟨rfl, ?_⟩
      unfold wrapN
      rw [if_pos (of_decide_eq_true e)]
    · refine sg_retD (by walk_at "ev") ⟨rfl, ?_⟩
      unfold wrapN
      rw [if_neg (of_decide_eq_false e)]
theorem ev_abs {J : List Atom} {δ : SE} {te : TE} {i : Int} (h : EvD J te δ (.int i)) : EvD J (tCB (fun xs H Q => ∃ i, xs = [.int i] ∧ Q (.int (if i < 0 then -i else i)) H) (tCons te tNil)) δ (.int (absN i)) :=
  ev_cbD (ds := [.int i]) (ea_d h ea_d0) rfl rfl fun H Q q => ⟨i, rfl, q⟩
theorem rr_neB {a b : Bool} : RR rNe (.bl a) (.bl b) (.bl (!decide (a = b))) := rr_ne rfl rfl rfl (by rw [Bool.eq_iff_iff]; simp [Dt.val])
theorem scFdivided : FnScope ["a", "b", "size"] ["a", "b"] (defScope sFdivided) := ⟨rfl, rfl, rfl, by decide +kernel, rfl, by decide +kernel, by decide +kernel⟩
def rDivided (ds : List Dt) (d : Dt) : Prop := ∃ a b, ds = [.int a, .int b] ∧ Wd b ∧ d = .int (divN a b)
theorem ok_divided (F : FunP K "divided" sFdivided f fd) (T : Txt K mg) : FnOk P w K mg base CX0 1 f fd ["a", "b"] (spG (pureP rDivided)) := by
  have sc := scFdivided
  refine fn_sg F sc (fun J ss R h => ?_) (fun cdv A outer s H E hr => ⟨_, (pss_cons (ps_if (pt_cmpR op_eq (pv 1) pe_int (nomark _)) (pss_one (ps_ret pe_int)) pss_nil)
    (pss_cons (ps_set (i := 2) sc.nd rfl (.inl rfl) (pe_op op_fdivW (pe_callB call_abs (by rfl) T.n_abs (by decide +kernel) (pa_cons (pv 0) pa_nil)) (pe_callB call_abs (by rfl) T.n_abs (by decide +kernel) (pa_cons (pv 1) pa_nil))))
    (pss_cons (ps_if (pt_cmpR op_ne (pe_cmpR op_lt (pv 0) pe_int (nomark _)) (pe_cmpR op_lt (pv 1) pe_int (nomark _)) (nomark _)) (pss_one (ps_ret (pe_un un_neg (pv 2)))) pss_nil)
    (pss_one (ps_ret (pv 2)))))), fun J ss R h => ?_⟩)
  · obtain ⟨ds, d, rfl, ⟨a, b, rfl, _, rfl⟩, rfl⟩ := h
    rfl
  · obtain ⟨ds, d, rfl, ⟨a, b, rfl, hb, rfl⟩, rfl⟩ := h
    refine sg_when (by walk_at "ev") (fun e => ?_) fun e => ?_
    · refine sg_retD (by walk_at "ev") ⟨rfl, ?_⟩
      unfold divN
      rw [if_pos (of_decide_eq_true e)]
    have hb0 : b ≠ 0 := of_decide_eq_false e
    have hc : CDivW (absN a) (absN b) := by
      unfold Wd at hb
      refine wide_div (b := 33) ?_ ?_ (by decide) (by decide) <;> unfold absN <;> split <;> omega
    refine sg_letD (ev_op (ev_abs (by walk_at "ev")) (ev_abs (by walk_at "ev")) (rr_CI hc)) ?_
    refine sg_when (et_b (ev_op (by walk_at "ev") (by walk_at "ev") rr_neB)) (fun e2 => ?_) fun e2 => ?_
    · refine sg_retD (ev_neg (by walk_at "ev")) ⟨rfl, ?_⟩
      unfold divN
      rw [if_neg hb0, if_neg]
      intro z
      rw [z] at e2
      simp at e2
    · refine sg_retD (by walk_at "ev") ⟨rfl, ?_⟩
      unfold divN
      rw [if_neg hb0, if_pos]
      simpa using e2
theorem scFarithmetic : FnScope ["op", "a", "b"] ["op", "a", "b"] (defScope sFarithmetic) := ⟨rfl, rfl, rfl, by decide +kernel, rfl, by decide +kernel, by decide +kernel⟩
def rArith (ds : List Dt) (d : Dt) : Prop := ∃ op a b, ds = [.str op, .int a, .int b] ∧ Wd a ∧ Wd b ∧ d = optD (arithN op a b)
theorem ok_arithmetic (F : FunP K "arithmetic" sFarithmetic f fd) (T : Txt K mg) (c_Fdivided : Cal P w K mg base 1 "divided" ["a", "b"] (spG (pureP rDivided))) : FnOk P w K mg base CX0 2 f fd ["op", "a", "b"] (spG (pureP rArith)) := by
  have sc := scFarithmetic
  refine fn_sg F sc (fun J ss R h => ?_) (fun cdv A outer s H E hr => ⟨_, (pss_cons (ps_if (pt_cmpR op_eq (pv 0) pe_str (nomark _)) (pss_one (ps_ret (pe_op op_add (pv 1) (pv 2)))) pss_nil)
    (pss_cons (ps_if (pt_cmpR op_eq (pv 0) pe_str (nomark _)) (pss_one (ps_ret (pe_op op_sub (pv 1) (pv 2)))) pss_nil)
    (pss_cons (ps_if (pt_cmpR op_eq (pv 0) pe_str (nomark _)) (pss_one (ps_ret (pe_op op_mul (pv 1) (pv 2)))) pss_nil)
    (pss_cons (ps_if (pt_cmpR op_eq (pv 0) pe_str (nomark _)) (pss_one (ps_ret (pe_call c_Fdivided.ok (hr.mono (by decide)) (by rfl) c_Fdivided.hm c_Fdivided.hk c_Fdivided.hb .nil pass0 (pa_cons (pv 1) (pa_cons (pv 2) pa_nil))))) pss_nil)
    (pss_cons (ps_if (pt_cmpR op_eq (pv 0) pe_str (nomark _)) (pss_cons (ps_if (pt_cmpR op_eq (pv 2) pe_int (nomark _)) (pss_one (ps_ret pe_int)) pss_nil)
    (pss_one (ps_ret (pe_op op_sub (pv 1) (pe_op op_mul (pe_call c_Fdivided.ok (hr.mono (by decide)) (by rfl) c_Fdivided.hm c_Fdivided.hk c_Fdivided.hb .nil pass0 (pa_cons (pv 1) (pa_cons (pv 2) pa_nil))) (pv 2)))))) pss_nil)
    (pss_one (ps_ret pe_non))))))), fun J ss R h => ?_⟩)
  · obtain ⟨ds, d, rfl, ⟨op, a, b, rfl, _, _, rfl⟩, rfl⟩ := h
    rfl
  · obtain ⟨ds, d, rfl, ⟨op, a, b, rfl, ha, hb, rfl⟩, rfl⟩ := h
    refine sg_when (by walk_at "ev") (fun e => ?_) fun e1 => ?_
    · exact sg_retD (by walk_at "ev") ⟨rfl, by unfold arithN; rw [if_pos (of_decide_eq_true e)]; rfl⟩
    refine sg_when (by walk_at "ev") (fun e => ?_) fun e2 => ?_
    · exact sg_retD (by walk_at "ev") ⟨rfl, by unfold arithN; rw [if_neg (of_decide_eq_false e1), if_pos (of_decide_eq_true e)]; rfl⟩
    refine sg_when (by walk_at "ev") (fun e => ?_) fun e3 => ?_
    · refine sg_retD (ev_op (by walk_at "ev") (by walk_at "ev") (rr_CI (.inl ?_))) ⟨rfl, by unfold arithN; rw [if_neg (of_decide_eq_false e1), if_neg (of_decide_eq_false e2), if_pos (of_decide_eq_true e)]; rfl⟩
      unfold Wd at ha; omega
    refine sg_when (by walk_at "ev") (fun e => ?_) fun e4 => ?_
    · exact sg_retD (ev_pure (ea_d (by walk_at "ev") (ea_d (by walk_at "ev") ea_d0)) ⟨a, b, rfl, hb, rfl⟩) ⟨rfl, by unfold arithN; rw [if_neg (of_decide_eq_false e1), if_neg (of_decide_eq_false e2), if_neg (of_decide_eq_false e3), if_pos (of_decide_eq_true e)]; rfl⟩
    refine sg_when (by walk_at "ev") (fun e => ?_) fun e5 => ?_
    · refine sg_when (by walk_at "ev") (fun e0 => ?_) fun e0 => ?_
      · exact sg_retD (by walk_at "ev") ⟨rfl, by unfold arithN; rw [if_neg (of_decide_eq_false e1), if_neg (of_decide_eq_false e2), if_neg (of_decide_eq_false e3), if_neg (of_decide_eq_false e4), if_pos (of_decide_eq_true e), if_pos (of_decide_eq_true e0)]; rfl⟩
      · refine sg_retD (ev_op (by walk_at "ev") (ev_op (ev_pure (ea_d (by walk_at "ev") (ea_d (by walk_at "ev") ea_d0)) ⟨a, b, rfl, hb, rfl⟩) (by walk_at "ev") (rr_CI (.inr ?_))) rr_II) ⟨rfl, by unfold arithN; rw [if_neg (of_decide_eq_false e1), if_neg (of_decide_eq_false e2), if_neg (of_decide_eq_false e3), if_neg (of_decide_eq_false e4), if_pos (of_decide_eq_true e), if_neg (of_decide_eq_false e0)]; rfl⟩
        unfold Wd at hb; omega
    exact sg_retD (by walk_at "ev") ⟨rfl, by unfold arithN; rw [if_neg (of_decide_eq_false e1), if_neg (of_decide_eq_false e2), if_neg (of_decide_eq_false e3), if_neg (of_decide_eq_false e4), if_neg (of_decide_eq_false e5)]; rfl⟩
theorem scFbits : FnScope ["op", "a", "b"] ["op", "a", "b"] (defScope sFbits) := ⟨rfl, rfl, rfl, by decide +kernel, rfl, by decide +kernel, by decide +kernel⟩
def rBits (ds : List Dt) (d : Dt) : Prop := ∃ op a b, ds = [.str op, .int a, .int b] ∧ Wd a ∧ d = optD (bitsN op a b)
theorem ok_bits (F : FunP K "bits" sFbits f fd) (T : Txt K mg) : FnOk P w K mg base CX0 1 f fd ["op", "a", "b"] (spG (pureP rBits)) := by
  have sc := scFbits
  refine fn_sg F sc (fun J ss R h => ?_) (fun cdv A outer s H E hr => ⟨_, (pss_cons (ps_if (pt_cmpR op_eq (pv 0) pe_str (nomark _)) (pss_one (ps_ret (pe_op op_and (pv 1) (pv 2)))) pss_nil)
    (pss_cons (ps_if (pt_cmpR op_eq (pv 0) pe_str (nomark _)) (pss_one (ps_ret (pe_op op_or (pv 1) (pv 2)))) pss_nil)
    (pss_cons (ps_if (pt_cmpR op_eq (pv 0) pe_str (nomark _)) (pss_one (ps_ret (pe_op op_xor (pv 1) (pv 2)))) pss_nil)
    (pss_cons (ps_if (pt_cmpR op_eq (pv 0) pe_str (nomark _)) (pss_one (ps_ret (pe_op op_shl (pv 1) (pe_op op_modN (pv 2) pe_int)))) pss_nil)
    (pss_cons (ps_if (pt_cmpR op_eq (pv 0) pe_str (nomark _)) (pss_one (ps_ret (pe_op op_shr (pv 1) (pe_op op_modN (pv 2) pe_int)))) pss_nil)
    (pss_one (ps_ret pe_non))))))), fun J ss R h => ?_⟩)
  · obtain ⟨ds, d, rfl, ⟨op, a, b, rfl, _, rfl⟩, rfl⟩ := h
    rfl
  · obtain ⟨ds, d, rfl, ⟨op, a, b, rfl, ha, rfl⟩, rfl⟩ := h
    have hm : 0 ≤ b.fmod 32 ∧ b.fmod 32 < 32 := ⟨Int.fmod_nonneg_of_pos b (by decide), Int.fmod_lt_of_pos b (by decide)⟩
    refine sg_when (by walk_at "ev") (fun e => ?_) fun e1 => ?_
    · exact sg_retD (by walk_at "ev") ⟨rfl, by unfold bitsN; rw [if_pos (of_decide_eq_true e)]; rfl⟩
    refine sg_when (by walk_at "ev") (fun e => ?_) fun e2 => ?_
    · exact sg_retD (by walk_at "ev") ⟨rfl, by unfold bitsN; rw [if_neg (of_decide_eq_false e1), if_pos (of_decide_eq_true e)]; rfl⟩
    refine sg_when (by walk_at "ev") (fun e => ?_) fun e3 => ?_
    · exact sg_retD (by walk_at "ev") ⟨rfl, by unfold bitsN; rw [if_neg (of_decide_eq_false e1), if_neg (of_decide_eq_false e2), if_pos (of_decide_eq_true e)]; rfl⟩
    refine sg_when (by walk_at "ev") (fun e => ?_) fun e4 => ?_
    · refine sg_retD (ev_op (by walk_at "ev") (ev_op (by walk_at "ev") (by walk_at "ev") (rr_CI (by decide))) (rr_CI ⟨hm.1, by omega, ?_⟩)) ⟨rfl, by unfold bitsN; rw [if_neg (of_decide_eq_false e1), if_neg (of_decide_eq_false e2), if_neg (of_decide_eq_false e3), if_pos (of_decide_eq_true e)]; rfl⟩
      unfold Wd at ha; omega
    refine sg_when (by walk_at "ev") (fun e => ?_) fun e5 => ?_
    · exact sg_retD (ev_op (by walk_at "ev") (ev_op (by walk_at "ev") (by walk_at "ev") (rr_CI (by decide))) (rr_CI hm.1)) ⟨rfl, by unfold bitsN; rw [if_neg (of_decide_eq_false e1), if_neg (of_decide_eq_false e2), if_neg (of_decide_eq_false e3), if_neg (of_decide_eq_false e4), if_pos (of_decide_eq_true e)]; rfl⟩
    exact sg_retD (by walk_at "ev") ⟨rfl, by unfold bitsN; rw [if_neg (of_decide_eq_false e1), if_neg (of_decide_eq_false e2), if_neg (of_decide_eq_false e3), if_neg (of_decide_eq_false e4), if_neg (of_decide_eq_false e5)]; rfl⟩
abbrev rIntC : List V → Hp → VK → Prop := fun xs H Q => (∃ i, xs = [.int i] ∧ Q (.int i) H) ∨ ∃ k, xs = [.bl k] ∧ Q (.int (if k then 1 else 0)) H
theorem ev_intB {J : List Atom} {δ : SE} {te : TE} {b : Bool} (h : EvD J te δ (.bl b)) : EvD J (tCB rIntC (tCons te tNil)) δ (.int (b2N b)) :=
  ev_cbD (ds := [.bl b]) (ea_d h ea_d0) rfl rfl fun H Q q => .inr ⟨b, rfl, q⟩
theorem ev_intI {J : List Atom} {δ : SE} {te : TE} {n : Int} (h : EvD J te δ (.int n)) : EvD J (tCB rIntC (tCons te tNil)) δ (.int n) :=
  ev_cbD (ds := [.int n]) (ea_d h ea_d0) rfl rfl fun H Q q => .inl ⟨n, rfl, q⟩
theorem ev_min2 {J : List Atom} {δ : SE} {ta tb : TE} {a b : Int} (ha : EvD J ta δ (.int a)) (hb : EvD J tb δ (.int b)) : EvD J (tCB (fun xs H Q => ∃ i j, xs = [.int i, .int j] ∧ Q (.int (if j < i then j else i)) H) (tCons ta (tCons tb tNil))) δ (.int (if b < a then b else a)) :=
  ev_cbD (ds := [.int a, .int b]) (ea_d ha (ea_d hb ea_d0)) rfl rfl fun H Q q => ⟨a, b, rfl, q⟩
theorem ev_max2 {J : List Atom} {δ : SE} {ta tb : TE} {a b : Int} (ha : EvD J ta δ (.int a)) (hb : EvD J tb δ (.int b)) : EvD J (tCB (fun xs H Q => ∃ i j, xs = [.int i, .int j] ∧ Q (.int (if j > i then j else i)) H) (tCons ta (tCons tb tNil))) δ (.int (if b > a then b else a)) :=
  ev_cbD (ds := [.int a, .int b]) (ea_d ha (ea_d hb ea_d0)) rfl rfl fun H Q q => ⟨a, b, rfl, q⟩
theorem scFcompared : FnScope ["op", "a", "b"] ["op", "a", "b"] (defScope sFcompared) := ⟨rfl, rfl, rfl, by decide +kernel, rfl, by decide +kernel, by decide +kernel⟩
def rCompared (ds : List Dt) (d : Dt) : Prop := ∃ op a b, ds = [.str op, .int a, .int b] ∧ d = .int (cmpN op a b)
theorem ok_compared (F : FunP K "compared" sFcompared f fd) (T : Txt K mg) : FnOk P w K mg base CX0 1 f fd ["op", "a", "b"] (spG (pureP rCompared)) := by
  have sc := scFcompared
  refine fn_sg F sc (fun J ss R h => ?_) (fun cdv A outer s H E hr => ⟨_, (pss_cons (ps_if (pt_cmpR op_eq (pv 0) pe_str (nomark _)) (pss_one (ps_ret (pe_callTy call_int1 (by rfl) T.n_int (by decide +kernel) (pa_cons (pe_cmpR op_lt (pv 1) (pv 2) (nomark _)) pa_nil)))) pss_nil)
    (pss_cons (ps_if (pt_cmpR op_eq (pv 0) pe_str (nomark _)) (pss_one (ps_ret (pe_callTy call_int1 (by rfl) T.n_int (by decide +kernel) (pa_cons (pe_cmpR op_le (pv 1) (pv 2) (nomark _)) pa_nil)))) pss_nil)
    (pss_cons (ps_if (pt_cmpR op_eq (pv 0) pe_str (nomark _)) (pss_one (ps_ret (pe_callTy call_int1 (by rfl) T.n_int (by decide +kernel) (pa_cons (pe_cmpR op_eq (pv 1) (pv 2) (nomark _)) pa_nil)))) pss_nil)
    (pss_cons (ps_if (pt_cmpR op_eq (pv 0) pe_str (nomark _)) (pss_one (ps_ret (pe_callTy call_int1 (by rfl) T.n_int (by decide +kernel) (pa_cons (pe_cmpR op_ne (pv 1) (pv 2) (nomark _)) pa_nil)))) pss_nil)
    (pss_cons (ps_if (pt_cmpR op_eq (pv 0) pe_str (nomark _)) (pss_one (ps_ret (pe_callB (call_min2 rfl) (by rfl) T.n_min (by decide +kernel) (pa_cons (pv 1) (pa_cons (pv 2) pa_nil))))) pss_nil)
    (pss_one (ps_ret (pe_callB (call_max2 rfl) (by rfl) T.n_max (by decide +kernel) (pa_cons (pv 1) (pa_cons (pv 2) pa_nil)))))))))), fun J ss R h => ?_⟩)
  · obtain ⟨ds, d, rfl, ⟨op, a, b, rfl, rfl⟩, rfl⟩ := h
    rfl
  · obtain ⟨ds, d, rfl, ⟨op, a, b, rfl, rfl⟩, rfl⟩ := h
    refine sg_when (by walk_at "ev") (fun e => ?_) fun e1 => ?_
    · exact sg_retD (ev_intB (by walk_at "ev")) ⟨rfl, by unfold cmpN; rw [if_pos (of_decide_eq_true e)]⟩
    refine sg_when (by walk_at "ev") (fun e => ?_) fun e2 => ?_
    · exact sg_retD (ev_intB (by walk_at "ev")) ⟨rfl, by unfold cmpN; rw [if_neg (of_decide_eq_false e1), if_pos (of_decide_eq_true e)]⟩
    refine sg_when (by walk_at "ev") (fun e => ?_) fun e3 => ?_
    · exact sg_retD (ev_intB (by walk_at "ev")) ⟨rfl, by unfold cmpN; rw [if_neg (of_decide_eq_false e1), if_neg (of_decide_eq_false e2), if_pos (of_decide_eq_true e)]⟩
    refine sg_when (by walk_at "ev") (fun e => ?_) fun e4 => ?_
    · exact sg_retD (ev_intB (by walk_at "ev")) ⟨rfl, by unfold cmpN; rw [if_neg (of_decide_eq_false e1), if_neg (of_decide_eq_false e2), if_neg (of_decide_eq_false e3), if_pos (of_decide_eq_true e)]⟩
    refine sg_when (by walk_at "ev") (fun e => ?_) fun e5 => ?_
    · exact sg_retD (ev_min2 (by walk_at "ev") (by walk_at "ev")) ⟨rfl, by unfold cmpN; rw [if_neg (of_decide_eq_false e1), if_neg (of_decide_eq_false e2), if_neg (of_decide_eq_false e3), if_neg (of_decide_eq_false e4), if_pos (of_decide_eq_true e)]⟩
    exact sg_retD (ev_max2 (by walk_at "ev") (by walk_at "ev")) ⟨rfl, by unfold cmpN; rw [if_neg (of_decide_eq_false e1), if_neg (of_decide_eq_false e2), if_neg (of_decide_eq_false e3), if_neg (of_decide_eq_false e4), if_neg (of_decide_eq_false e5)]⟩
theorem scFbinary : FnScope ["op", "a", "b", "found"] ["op", "a", "b"] (defScope sFbinary) := ⟨rfl, rfl, rfl, by decide +kernel, rfl, by decide +kernel, by decide +kernel⟩
def rBinary (ds : List Dt) (d : Dt) : Prop := ∃ op a b, ds = [.str op, .int a, .int b] ∧ Wd a ∧ Wd b ∧ d = .int (binN op a b)
theorem ok_binary (F : FunP K "binary" sFbinary f fd) (T : Txt K mg) (c_Farithmetic : Cal P w K mg base 2 "arithmetic" ["op", "a", "b"] (spG (pureP rArith))) (c_Fbits : Cal P w K mg base 1 "bits" ["op", "a", "b"] (spG (pureP rBits)))
    (c_Fcompared : Cal P w K mg base 1 "compared" ["op", "a", "b"] (spG (pureP rCompared))) (c_Fwrapped : Cal P w K mg base 1 "wrapped" ["number"] (spG (pureP rWrapped))) : FnOk P w K mg base CX0 3 f fd ["op", "a", "b"] (spG (pureP rBinary)) := by
  have sc := scFbinary
  refine fn_sg F sc (fun J ss R h => ?_) (fun cdv A outer s H E hr => ⟨_, (pss_cons (ps_set (i := 3) sc.nd rfl (.inl rfl) (pe_call c_Farithmetic.ok (hr.mono (by decide)) (by rfl) c_Farithmetic.hm c_Farithmetic.hk c_Farithmetic.hb .nil pass0 (pa_cons (pv 0) (pa_cons (pv 1) (pa_cons (pv 2) pa_nil)))))
    (pss_cons (ps_if (pt_cmpR op_isN1 (pv 3) pe_non (nomark _)) (pss_one (ps_set (i := 3) sc.nd rfl (.inl rfl) (pe_call c_Fbits.ok (hr.mono (by decide)) (by rfl) c_Fbits.hm c_Fbits.hk c_Fbits.hb .nil pass0 (pa_cons (pv 0) (pa_cons (pv 1) (pa_cons (pv 2) pa_nil)))))) pss_nil)
    (pss_cons (ps_if (pt_cmpR op_isN1 (pv 3) pe_non (nomark _)) (pss_one (ps_set (i := 3) sc.nd rfl (.inl rfl) (pe_call c_Fcompared.ok (hr.mono (by decide)) (by rfl) c_Fcompared.hm c_Fcompared.hk c_Fcompared.hb .nil pass0 (pa_cons (pv 0) (pa_cons (pv 1) (pa_cons (pv 2) pa_nil)))))) pss_nil)
    (pss_one (ps_ret (pe_call c_Fwrapped.ok (hr.mono (by decide)) (by rfl) c_Fwrapped.hm c_Fwrapped.hk c_Fwrapped.hb .nil pass0 (pa_cons (pv 3) pa_nil))))))), fun J ss R h => ?_⟩)
  · obtain ⟨ds, d, rfl, ⟨op, a, b, rfl, _, _, rfl⟩, rfl⟩ := h
    rfl
  · obtain ⟨ds, d, rfl, ⟨op, a, b, rfl, ha, hb, rfl⟩, rfl⟩ := h
    refine sg_letD (ev_pure (by walk_at "ev") ⟨op, a, b, rfl, ha, hb, rfl⟩) ?_
    refine sg_upd (d := match arithN op a b with | some x => .int x | none => optD (bitsN op a b)) (et_b (ev_op (by walk_at "ev") (by walk_at "ev") rr_isN)) (fun e => ?_) (fun e => ?_) ?_
    · cases q : arithN op a b with
      | some x => rw [q] at e; cases e
      | none => exact ev_pure (by walk_at "ev") ⟨op, a, b, rfl, ha, rfl⟩
    · cases q : arithN op a b with
      | some x => rfl
      | none => rw [q] at e; cases e
    refine sg_upd (d := .int (match arithN op a b with | some x => x | none => match bitsN op a b with | some x => x | none => cmpN op a b)) (et_b (ev_op (by walk_at "ev") (by walk_at "ev") rr_isN)) (fun e => ?_) (fun e => ?_) ?_
    · cases q : arithN op a b with
      | some x => rw [q] at e; cases e
      | none =>
        cases q2 : bitsN op a b with
        | some x => rw [q, q2] at e; cases e
        | none => exact ev_pure (by walk_at "ev") ⟨op, a, b, rfl, rfl⟩
    · cases q : arithN op a b with
      | some x => rfl
      | none =>
        cases q2 : bitsN op a b with
        | some x => rfl
        | none => rw [q, q2] at e; cases e
    exact sg_retD (ev_pure (by walk_at "ev") ⟨_, rfl, rfl⟩) ⟨rfl, rfl⟩
theorem scFunary : FnScope ["op", "a"] ["op", "a"] (defScope sFunary) := ⟨rfl, rfl, rfl, by decide +kernel, rfl, by decide +kernel, by decide +kernel⟩
def rUnary (ds : List Dt) (d : Dt) : Prop := ∃ op a, ds = [.str op, .int a] ∧ d = .int (unN op a)
theorem ok_unary (F : FunP K "unary" sFunary f fd) (T : Txt K mg) (c_Fwrapped : Cal P w K mg base 1 "wrapped" ["number"] (spG (pureP rWrapped))) : FnOk P w K mg base CX0 2 f fd ["op", "a"] (spG (pureP rUnary)) := by
  have sc := scFunary
  refine fn_sg F sc (fun J ss R h => ?_) (fun cdv A outer s H E hr => ⟨_, (pss_cons (ps_if (pt_cmpR op_eq (pv 0) pe_str (nomark _)) (pss_one (ps_ret (pe_call c_Fwrapped.ok (hr.mono (by decide)) (by rfl) c_Fwrapped.hm c_Fwrapped.hk c_Fwrapped.hb .nil pass0 (pa_cons (pe_un un_neg (pv 1)) pa_nil)))) pss_nil)
    (pss_cons (ps_if (pt_cmpR op_eq (pv 0) pe_str (nomark _)) (pss_one (ps_ret (pe_call c_Fwrapped.ok (hr.mono (by decide)) (by rfl) c_Fwrapped.hm c_Fwrapped.hk c_Fwrapped.hb .nil pass0 (pa_cons (pe_op op_sub (pe_un un_neg (pv 1)) pe_int) pa_nil)))) pss_nil)
    (pss_one (ps_ret (pe_callTy call_int1 (by rfl) T.n_int (by decide +kernel) (pa_cons (pe_cmpR op_eq (pv 1) pe_int (nomark _)) pa_nil)))))), fun J ss R h => ?_⟩)
  · obtain ⟨ds, d, rfl, ⟨op, a, rfl, rfl⟩, rfl⟩ := h
    rfl
  · obtain ⟨ds, d, rfl, ⟨op, a, rfl, rfl⟩, rfl⟩ := h
    refine sg_when (by walk_at "ev") (fun e => ?_) fun e1 => ?_
    · exact sg_retD (ev_pure (ea_d (ev_neg (by walk_at "ev")) ea_d0) ⟨_, rfl, rfl⟩) ⟨rfl, by unfold unN; rw [if_pos (of_decide_eq_true e)]⟩
    refine sg_when (by walk_at "ev") (fun e => ?_) fun e2 => ?_
    · exact sg_retD (ev_pure (ea_d (ev_op (ev_neg (by walk_at "ev")) (by walk_at "ev") rr_II) ea_d0) ⟨_, rfl, rfl⟩) ⟨rfl, by unfold unN; rw [if_neg (of_decide_eq_false e1), if_pos (of_decide_eq_true e)]⟩
    exact sg_retD (ev_intB (by walk_at "ev")) ⟨rfl, by unfold unN; rw [if_neg (of_decide_eq_false e1), if_neg (of_decide_eq_false e2)]⟩
end
end LK

namespace LK
open PySem PySem.Spec PyProof.Rows L2
/-! ### targets of several names -/
def EvTg (g : TG) (s : Sl) (δ δ' : SE) : Prop := ∀ (J : List Atom) (F0 : AS) (H0 : Hp) (τd : List Sl) (σ : L2.St) (τ : List V) (v : V) (H : Hp) (Q : L2.St → Hp → Prop), Sta J F0 H0 δ (s :: τd) σ (v :: τ) H → (∀ σ', Sta J F0 H0 δ' τd σ' τ H → Q σ' H) → g v σ H Q
def EvTgs (g : TGs) (ss : List Sl) (δ δ' : SE) : Prop := ∀ (J : List Atom) (F0 : AS) (H0 : Hp) (τd : List Sl) (σ : L2.St) (τ vs : List V) (H : Hp) (Q : L2.St → Hp → Prop), vs.length = ss.length → Sta J F0 H0 δ (ss ++ τd) σ (vs ++ τ) H →
  (∀ σ', Sta J F0 H0 δ' τd σ' τ H → Q σ' H) → g vs σ H Q
section
variable {J : List Atom} {δ δ1 δ2 : SE} {te : TE} {u : TS} {O : Outs} {K : PySem.W.Frag} {g : TG} {gs : TGs} {s : Sl} {ss : List Sl}
theorem tg_name {i : Nat} : EvTg (gName i) s δ (δ.set i (some s)) := fun J F0 H0 τd σ τ v H Q S k => k _ (S.setSl i)
theorem tgs_nil : EvTgs gNil [] δ δ := fun J F0 H0 τd σ τ vs H Q l S k => by
  have e : vs = [] := List.eq_nil_of_length_eq_zero l
  subst e
  exact ⟨rfl, k σ S⟩
theorem tgs_cons (h : EvTg g s δ δ1) (hs : EvTgs gs ss δ1 δ2) : EvTgs (gCons g gs) (s :: ss) δ δ2 := fun J F0 H0 τd σ τ vs H Q l S k => by
  cases vs with
  | nil => cases l
  | cons v vs =>
    have l2 : vs.length = ss.length := Nat.succ.inj l
    exact ⟨v, vs, rfl, h J F0 H0 (ss ++ τd) σ (vs ++ τ) v H _ S fun σ' S1 => hs J F0 H0 τd σ' τ vs H Q l2 S1 k⟩
theorem tmp_of {F : AS} {H : Hp} : ∀ {ds : List Dt} {vs : List V}, IsDs H ds vs → TmpD F H (ds.map Sl.dat) vs
  | [], vs, h => h
  | d :: ds, vs, h => by
    obtain ⟨v, r, rfl, h1, h2⟩ := h
    exact ⟨v, r, rfl, h1, tmp_of h2⟩
theorem Sta.spread {F0 : AS} {H0 H : Hp} {τd : List Sl} {σ : L2.St} {τ : List V} {v : V} {ds : List Dt} {vs : List V} (S : Sta J F0 H0 δ (s :: τd) σ (v :: τ) H) (h : IsDs H ds vs) : Sta J F0 H0 δ (ds.map Sl.dat ++ τd) σ (vs ++ τ) H := by
  obtain ⟨F, x, o, d, t⟩ := S.pop.ex
  exact ⟨F, x, o, d, (tmp_of h).append t⟩
theorem tg_tup {n : Nat} {ds : List Dt} (h : EvTgs gs (ds.map Sl.dat) δ δ1) (hn : ds.length = n := by rfl) : EvTg (gTup K n gs) (.dat (.tup ds)) δ δ1 := fun J F0 H0 τd σ τ v H Q S k => by
  obtain ⟨a, vs, rfl, ha, hs⟩ := S.dat
  exact ⟨a, vs, rfl, SqT.of ha, hs.length.trans hn, h J F0 H0 τd σ τ vs H Q (by rw [hs.length, List.length_map]) (S.spread hs) k⟩
theorem tg_unl {n : Nat} {ds : List Dt} (h : EvTgs gs (ds.map Sl.dat) δ δ1) (hn : ds.length = n) : EvTg (gUnl K n gs) (.lst ds) δ δ1 := fun J F0 H0 τd σ τ v H Q S k => by
  obtain ⟨a, vs, rfl, ha, hs⟩ := S.lst
  exact ⟨a, vs, rfl, SqL.of ha, hs.length.trans hn, h J F0 H0 τd σ τ vs H Q (by rw [hs.length, List.length_map]) (S.spread hs) k⟩
theorem sg_letT {d : Dt} (h : EvD J te δ d) (hg : EvTg g (.dat d) δ δ1) (k : SG J u δ1 O) : SG J (tSeq (tAsg te g) u) δ O := fun F0 H0 τd σ τ H D S a b c =>
  h _ _ _ _ _ _ _ S fun J1 s v H1 ⟨e, d1, es, ed⟩ S1 => by
    subst e es ed
    exact hg _ _ _ _ _ _ _ _ _ S1 fun σ' S2 => k F0 H0 τd σ' τ H1 D S2 a b c
/-! ### slices of tuples; a tuple times a number -/
def cutD (ds : List Dt) (lo hi : Option Int) : List Dt := (ds.drop (HT.sIx ds.length 0 lo)).take (HT.sIx ds.length ds.length hi - HT.sIx ds.length 0 lo)
theorem isDs_cut {H : Hp} {ds : List Dt} {vs : List V} {lo hi : Option Int} (h : IsDs H ds vs) : IsDs H (cutD ds lo hi) (cutV vs lo hi) := by
  unfold cutD cutV
  rw [h.length]
  exact (h.drop _).take _
theorem eo_none : EvO J tNoPart δ fun o => o = none := fun F0 H0 τd σ τ H Q S k => k none H rfl S
theorem eo_some {i : Int} (h : EvD J te δ (.int i)) : EvO J (tPart te) δ fun o => o = some i := fun F0 H0 τd σ τ H Q S k => h _ _ _ _ _ _ _ S fun J1 s v H1 ⟨e, d, es, ed⟩ S1 => by
  subst e es ed
  have ev : v = .int i := S1.dat
  exact ⟨i, ev, k _ H1 rfl S1.pop⟩
theorem eo_someI {P : Int → Prop} (h : EvI J te δ P) : EvO J (tPart te) δ fun o => ∃ i, o = some i ∧ P i := fun F0 H0 τd σ τ H Q S k => h _ _ _ _ _ _ _ S fun J1 s v H1 ⟨e, d, es, i, ed, p⟩ S1 => by
  subst e es ed
  have ev : v = .int i := S1.dat
  exact ⟨i, ev, k _ H1 ⟨i, rfl, p⟩ S1.pop⟩
theorem ev_slTQ {tl th : TO} {ds : List Dt} {Pl Ph : Option Int → Prop} {Pd : Dt → Prop} (h : EvD J te δ (.tup ds)) (h1 : EvO J tl δ Pl) (h2 : EvO J th δ Ph) (k0 : ∀ lo hi, Pl lo → Ph hi → Pd (.tup (cutD ds lo hi))) : EvQ J (tSl (rSlA K) te tl th) δ Pd := fun F0 H0 τd σ τ H Q S k =>
  h _ _ _ _ _ _ _ S fun J1 s v H1 ⟨e, d, es, ed⟩ S1 => by
    subst e es ed
    refine h1 _ _ _ _ _ _ _ S1 fun lo H2 pl S2 => h2 _ _ _ _ _ _ _ S2 fun hi H3 ph S3 => ?_
    obtain ⟨a, vs, rfl, ha, hs⟩ := S3.dat
    refine ⟨a, vs, rfl, SqT.of ha, fun hw => k _ _ _ H3 ⟨rfl, _, rfl, k0 lo hi pl ph⟩ (S3.pop.push fun F _ _ _ _ => ⟨a, vs, rfl, ha, ?_⟩), fun hw p hp => k _ _ _ _ ⟨rfl, _, rfl, k0 lo hi pl ph⟩ (S3.pop.newTup hp (isDs_cut hs))⟩
    have e : cutD ds lo hi = ds := by
      unfold cutD
      rw [hs.length] at hw
      rw [hw.1, hw.2]
      simp
    rw [e]
    exact hs
theorem ev_slT {tl th : TO} {ds : List Dt} {lo hi : Option Int} (h : EvD J te δ (.tup ds)) (h1 : EvO J tl δ fun o => o = lo) (h2 : EvO J th δ fun o => o = hi) : EvD J (tSl (rSlA K) te tl th) δ (.tup (cutD ds lo hi)) :=
  ev_slTQ h h1 h2 fun l r e1 e2 => by rw [e1, e2]
theorem rep_one (v : V) : ∀ n : Nat, (List.replicate n [v]).flatten = List.replicate n v
  | 0 => rfl
  | n + 1 => by rw [List.replicate_succ, List.flatten_cons, rep_one v n]; rfl
theorem isDs_rep {H : Hp} {d : Dt} {v : V} (h : IsD H d v) : ∀ n : Nat, IsDs H (List.replicate n d) (List.replicate n v)
  | 0 => rfl
  | n + 1 => ⟨v, _, rfl, h, isDs_rep h n⟩
theorem rr_rep {d : Dt} {n : Nat} (hn : n ≤ 1000) : RR (rRepN K) (.tup [d]) (.int n) (.tup (List.replicate n d)) := fun J F0 H0 δ τd σ τ x y H Q hx hy S k => by
  obtain ⟨a, vs, rfl, ha, v, r, rfl, hv, hr⟩ := hx
  have er : r = [] := hr
  subst er
  have ey : y = .int n := hy
  subst ey
  match n, hn with
  | 0, _ => exact .inl ⟨a, [v], rfl, SqT.of ha, (fun z => by cases z), .inr ⟨rfl, fun p hp => k _ _ (S.newTup hp rfl)⟩⟩
  | 1, _ => exact .inl ⟨a, [v], rfl, SqT.of ha, (fun z => by cases z), .inl ⟨rfl, k _ H (S.push fun F _ _ _ _ => ⟨a, [v], rfl, ha, v, [], rfl, hv, rfl⟩)⟩⟩
  | n + 2, hn =>
    refine .inr ⟨a, ((n + 2 : Nat) : Int), [v], rfl, rfl, SqT.of ha, (fun z => by cases z), by omega, by omega, by show 1 ≤ 1000; decide, fun p hp => ?_⟩
    rw [show (((n + 2 : Nat) : Int)).toNat = n + 2 by omega, rep_one]
    exact k _ _ (S.newTup hp (isDs_rep hv (n + 2)))
end
theorem at_map {α : Type} {f : α → Dt} {l : List α} {i : Nat} {x : α} (h : l[i]? = some x) : atI (l.map f) (i : Int) = some (f x) := atI_nat (by rw [List.getElem?_map, h]; rfl)
theorem at_int {l : List Int} {i : Nat} (h : i < l.length) : atI (l.map Dt.int) (i : Int) = some (.int (l.getD i 0)) := at_map (by rw [List.getD_eq_getElem?_getD, List.getElem?_eq_getElem h]; rfl)
theorem set_cut {ds : List Dt} {i : Nat} (h : i < ds.length) (d : Dt) : cutD ds none (some (i : Int)) ++ [d] ++ cutD ds (some ((i : Int) + 1)) none = ds.set i d := by
  unfold cutD
  rw [HT.sIx_none, HT.sIx_none, HT.sIx_nat, show ((i : Int) + 1) = ((i + 1 : Nat) : Int) by omega, HT.sIx_nat, List.set_eq_take_append_cons_drop, if_pos h]
  simp only [List.drop_zero, Nat.sub_zero]
  rw [Nat.min_eq_left (by omega), Nat.min_eq_left (by omega), List.take_of_length_le (l := ds.drop (i + 1)) (by rw [List.length_drop]; omega)]
  simp
local macro_rules | `(tactic| walk_at "rr") => `(tactic| first
  | (with_reducible exact rr_head)
  | ((with_reducible refine rr_ixT (d := ?d) ?h); (case h => exact rfl))
  | (with_reducible exact rr_eqS)
  | (with_reducible exact rr_eqI)
  | (with_reducible exact rr_neI)
  | (with_reducible exact rr_II)
  | (with_reducible exact rr_IB))
local macro_rules | `(tactic| walk_at "ev") => `(tactic| first
  | (with_reducible exact ev_int)
  | (with_reducible exact ev_str)
  | (with_reducible exact ev_non)
  | (with_reducible exact ev_bl)
  | ((with_reducible refine ev_dat (d := ?d) ?h); (case h => exact rfl))
  | (with_reducible exact ea_d0)
  | ((with_reducible refine ea_d (d := ?d) (ds := ?ds) ?h1 ?h2); (case h1 => walk_at "ev"); (case h2 => walk_at "ev"))
  | ((with_reducible refine ev_op (da := ?da) (db := ?db) (dc := ?dc) ?h1 ?h2 ?h3); (case h1 => walk_at "ev"); (case h2 => walk_at "ev"); (case h3 => walk_at "rr"))
  | ((with_reducible refine ev_tup (ds := ?ds) ?h1 ?h2); (case h1 => walk_at "ev"); (case h2 => exact Nat.le_of_ble_eq_true rfl))
  | ((with_reducible refine et_b (b := ?b) ?h1); (case h1 => walk_at "ev")))

section
variable {P : Program} {w : World} {K : PySem.W.Frag} {mg : Str → Option Value} {base : Heap} {f : Addr} {fd : FuncData}
theorem scFspecial : FnScope ["name", "thread", "launch", "grid", "block", "_"] ["name", "thread", "launch"] (defScope sFspecial) := ⟨rfl, rfl, rfl, by decide +kernel, rfl, by decide +kernel, by decide +kernel⟩
def rSpecial (ds : List Dt) (d : Dt) : Prop := ∃ (s : Str) (thread : Int) (p : Prg), ds = [.str s, .int thread, p.launch] ∧ d = .int (spcN s thread p.grid 6)
theorem ok_special (F : FunP K "special" sFspecial f fd) (T : Txt K mg) : FnOk P w K mg base CX0 1 f fd ["name", "thread", "launch"] (spG (pureP rSpecial)) := by
  have sc := scFspecial
  refine fn_sg F sc (fun J ss R h => ?_) (fun cdv A outer s H E hr => ⟨_, (pss_cons (ps_asg (pv 2) (pg_tup (by rfl) (pgs_cons (pg_name (i := 3) sc.nd rfl (.inl rfl)) (pgs_cons (pg_name (i := 4) sc.nd rfl (.inl rfl)) (pgs_cons (pg_name (i := 5) sc.nd rfl (.inl rfl)) (pgs_cons (pg_name (i := 5) sc.nd rfl (.inl rfl)) pgs_nil))))))
    (pss_cons (ps_if (pt_cmpR op_eq (pv 0) pe_str (nomark _)) (pss_one (ps_ret (pe_op op_modN (pv 1) (pv 4)))) pss_nil)
    (pss_cons (ps_if (pt_cmpR op_eq (pv 0) pe_str (nomark _)) (pss_one (ps_ret (pe_op op_fdivN (pv 1) (pv 4)))) pss_nil)
    (pss_cons (ps_if (pt_cmpR op_eq (pv 0) pe_str (nomark _)) (pss_one (ps_ret (pv 4))) pss_nil)
    (pss_one (ps_ret (pv 3))))))), fun J ss R h => ?_⟩)
  · obtain ⟨ds, d, rfl, ⟨s, t, p, rfl, rfl⟩, rfl⟩ := h
    rfl
  · obtain ⟨ds, d, rfl, ⟨s, t, p, rfl, rfl⟩, rfl⟩ := h
    unfold Prg.launch
    refine sg_letT (by walk_at "ev") (tg_tup (tgs_cons tg_name (tgs_cons tg_name (tgs_cons tg_name (tgs_cons tg_name tgs_nil))))) ?_
    refine sg_when (by walk_at "ev") (fun e => ?_) fun e1 => ?_
    · exact sg_retD (ev_op (by walk_at "ev") (by walk_at "ev") (rr_CI (by decide))) ⟨rfl, by unfold spcN; rw [if_pos (of_decide_eq_true e)]⟩
    refine sg_when (by walk_at "ev") (fun e => ?_) fun e2 => ?_
    · exact sg_retD (ev_op (by walk_at "ev") (by walk_at "ev") (rr_CI ⟨by decide, by decide⟩)) ⟨rfl, by unfold spcN; rw [if_neg (of_decide_eq_false e1), if_pos (of_decide_eq_true e)]⟩
    refine sg_when (by walk_at "ev") (fun e => ?_) fun e3 => ?_
    · exact sg_retD (by walk_at "ev") ⟨rfl, by unfold spcN; rw [if_neg (of_decide_eq_false e1), if_neg (of_decide_eq_false e2), if_pos (of_decide_eq_true e)]⟩
    exact sg_retD (by walk_at "ev") ⟨rfl, by unfold spcN; rw [if_neg (of_decide_eq_false e1), if_neg (of_decide_eq_false e2), if_neg (of_decide_eq_false e3)]⟩
theorem scFfirstlane : FnScope ["code"] ["code"] (defScope sFfirstlane) := ⟨rfl, rfl, rfl, by decide +kernel, rfl, by decide +kernel, by decide +kernel⟩
def rFirst (ds : List Dt) (d : Dt) : Prop := ∃ p : Prg, p.Ok ∧ ds = [p.code] ∧ d = (Lane.first p).toD
theorem ok_first_lane (F : FunP K "first_lane" sFfirstlane f fd) (T : Txt K mg) : FnOk P w K mg base CX0 1 f fd ["code"] (spG (pureP rFirst)) := by
  have sc := scFfirstlane
  refine fn_sg F sc (fun J ss R h => ?_) (fun cdv A outer s H E hr => ⟨_, (pss_one (ps_ret (pe_tup (pa_cons pe_int (pa_cons (pe_op op_repN (pe_tup (pa_cons pe_int pa_nil)) (pe_glob (v := .int 8) (by rfl) T.g_REGISTERS.choose_spec ⟨_, rfl⟩)) (pa_cons (pe_op op_repN (pe_tup (pa_cons pe_int pa_nil)) (pe_ix ix_tup (pv 0) pe_int (fun _ _ => rfl))) pa_nil)))))), fun J ss R h => ?_⟩)
  · obtain ⟨ds, d, rfl, ⟨p, _, rfl, rfl⟩, rfl⟩ := h
    rfl
  · obtain ⟨ds, d, rfl, ⟨p, hp, rfl, rfl⟩, rfl⟩ := h
    unfold Prg.code
    refine sg_retD (ev_tup (ea_d (by walk_at "ev") (ea_d (ev_op (ev_tup (by walk_at "ev")) (ev_int (n := ((8 : Nat) : Int))) (rr_rep (by decide))) (ea_d (ev_op (ev_tup (by walk_at "ev")) (by walk_at "ev") (rr_rep (n := p.loc) (by have := hp.loc; omega))) ea_d0)))) ⟨rfl, ?_⟩
    unfold Lane.first Lane.toD
    simp
theorem scFchanged : FnScope ["row", "at", "word"] ["row", "at", "word"] (defScope sFchanged) := ⟨rfl, rfl, rfl, by decide +kernel, rfl, by decide +kernel, by decide +kernel⟩
def rChanged (ds : List Dt) (d : Dt) : Prop := ∃ (row : List Dt) (i : Nat) (x : Dt), i < row.length ∧ row.length ≤ 1000 ∧ ds = [.tup row, .int i, x] ∧ d = .tup (row.set i x)
theorem ok_changed (F : FunP K "changed" sFchanged f fd) (T : Txt K mg) : FnOk P w K mg base CX0 1 f fd ["row", "at", "word"] (spG (pureP rChanged)) := by
  have sc := scFchanged
  refine fn_sg F sc (fun J ss R h => ?_) (fun cdv A outer s H E hr => ⟨_, (pss_one (ps_ret (pe_op op_catA (pe_op op_catA (pe_slice sl_tupA (pv 0) po_none (po_some (pv 1))) (pe_tup (pa_cons (pv 2) pa_nil))) (pe_slice sl_tupA (pv 0) (po_some (pe_op op_add (pv 1) pe_int)) po_none)))), fun J ss R h => ?_⟩)
  · obtain ⟨ds, d, rfl, ⟨row, i, x, _, _, rfl, rfl⟩, rfl⟩ := h
    rfl
  · obtain ⟨ds, d, rfl, ⟨row, i, x, hi, hz, rfl, rfl⟩, rfl⟩ := h
    have hl : ∀ lo hi, (cutD row lo hi).length ≤ row.length := fun lo hi => by
      unfold cutD
      rw [List.length_take, List.length_drop]
      omega
    refine sg_retD (ev_op (ev_op (ev_slT (by walk_at "ev") eo_none (eo_some (by walk_at "ev"))) (ev_tup (by walk_at "ev")) (rr_catA ?_)) (ev_slT (by walk_at "ev") (eo_some (by walk_at "ev")) eo_none) (rr_catA ?_)) ⟨rfl, ?_⟩
    · have := hl none (some i)
      show _ + 1 ≤ _
      omega
    · have h1 := hl none (some i)
      have h2 := hl (some ((i : Int) + 1)) none
      rw [List.length_append]
      show _ + 1 + _ ≤ _
      omega
    · rw [set_cut hi]
end
end LK

namespace LK
open PySem PySem.Spec PyProof.Rows L2
theorem inD2 {x a b : Str} : inD (.str x) [.str a, .str b] = (decide (x = a) || decide (x = b)) := by
  have e : ∀ y : Str, eqV (.str y) (.str x) = decide (x = y) := fun y => by
    show (y == x) = _
    rw [Bool.eq_iff_iff, beq_iff_eq, decide_eq_true_iff]
    exact ⟨Eq.symm, Eq.symm⟩
  show (eqV (.str a) (.str x) || (eqV (.str b) (.str x) || false)) = _
  rw [e, e, Bool.or_false]
theorem ev_in2 {J : List Atom} {δ : SE} {ta tb : TE} {K : PySem.W.Frag} {x a b : Str} (ha : EvD J ta δ (.str x)) (hb : EvD J tb δ (.tup [.str a, .str b])) : EvD J (tOp (rIn K false) ta tb) δ (.bl (decide (x = a) || decide (x = b))) :=
  ev_op ha hb (rr_in rfl rfl inD2)
theorem ev_nin2 {J : List Atom} {δ : SE} {ta tb : TE} {K : PySem.W.Frag} {x a b : Str} (ha : EvD J ta δ (.str x)) (hb : EvD J tb δ (.tup [.str a, .str b])) : EvD J (tOp (rIn K true) ta tb) δ (.bl (!(decide (x = a) || decide (x = b)))) :=
  ev_op ha hb (rr_in rfl rfl (by rw [← inD2]; rfl))
local macro_rules | `(tactic| walk_at "rr") => `(tactic| first
  | (with_reducible exact rr_head)
  | ((with_reducible refine rr_ixT (d := ?d) ?h); (case h => exact rfl))
  | (with_reducible exact rr_eqS)
  | (with_reducible exact rr_eqI)
  | (with_reducible exact rr_neI)
  | (with_reducible exact rr_II)
  | (with_reducible exact rr_IB))
local macro_rules | `(tactic| walk_at "ev") => `(tactic| first
  | (with_reducible exact ev_int)
  | (with_reducible exact ev_str)
  | (with_reducible exact ev_non)
  | (with_reducible exact ev_bl)
  | ((with_reducible refine ev_dat (d := ?d) ?h); (case h => exact rfl))
  | (with_reducible exact ea_d0)
  | ((with_reducible refine ea_d (d := ?d) (ds := ?ds) ?h1 ?h2); (case h1 => walk_at "ev"); (case h2 => walk_at "ev"))
  | ((with_reducible refine ev_op (da := ?da) (db := ?db) (dc := ?dc) ?h1 ?h2 ?h3); (case h1 => walk_at "ev"); (case h2 => walk_at "ev"); (case h3 => walk_at "rr"))
  | ((with_reducible refine ev_tup (ds := ?ds) ?h1 ?h2); (case h1 => walk_at "ev"); (case h2 => exact Nat.le_of_ble_eq_true rfl))
  | ((with_reducible refine et_b (b := ?b) ?h1); (case h1 => walk_at "ev")))

theorem ix_reg {p : Prg} {l : Lane} (L : l.Ok p) {r : Nat} (h : r < 8) : atI (l.regs.map Dt.int) (r : Int) = some (.int (l.reg r)) := at_int (by rw [L.regs]; exact h)
theorem reqD_none {l : Lane} {i : Ins} (h1 : ¬ i.kind = "load") (h2 : ¬ i.kind = "store") (h3 : ¬ i.kind = "atomic") (h4 : ¬ i.kind = "barrier") (h5 : ¬ i.kind = "exit") (h6 : ¬ i.kind = "collect") : reqD l i = .tup [.str "none"] := by
  cases i <;> first | rfl | exact absurd rfl h1 | exact absurd rfl h2 | exact absurd rfl h3 | exact absurd rfl h4 | exact absurd rfl h5 | exact absurd rfl h6
theorem resN_none {p : Prg} {t w : Int} {l : Lane} {i : Ins} (h1 : ¬ i.kind = "word") (h2 : ¬ i.kind = "param") (h3 : ¬ i.kind = "special") (h4 : ¬ i.kind = "copy") (h5 : ¬ i.kind = "unary") (h6 : ¬ i.kind = "binary") (h7 : ¬ i.kind = "get") (h8 : ¬ i.kind = "load") (h9 : ¬ i.kind = "collect") : resN p t l w i = none := by
  cases i <;> first | rfl | exact absurd rfl h1 | exact absurd rfl h2 | exact absurd rfl h3 | exact absurd rfl h4 | exact absurd rfl h5 | exact absurd rfl h6 | exact absurd rfl h7 | exact absurd rfl h8 | exact absurd rfl h9
section
variable {P : Program} {w : World} {K : PySem.W.Frag} {mg : Str → Option Value} {base : Heap} {f : Addr} {fd : FuncData}
theorem scFrequest : FnScope ["code", "lane", "at", "words", "_", "instruction", "word"] ["code", "lane"] (defScope sFrequest) := ⟨rfl, rfl, rfl, by decide +kernel, rfl, by decide +kernel, by decide +kernel⟩
def rRequest (ds : List Dt) (d : Dt) : Prop := ∃ (p : Prg) (l : Lane), p.Ok ∧ l.Ok p ∧ ds = [p.code, l.toD] ∧ d = reqD l (l.ins p)
theorem ok_request (F : FunP K "request" sFrequest f fd) (T : Txt K mg) : FnOk P w K mg base CX0 1 f fd ["code", "lane"] (spG (pureP rRequest)) := by
  have sc := scFrequest
  refine fn_sg F sc (fun J ss R h => ?_) (fun cdv A outer s H E hr => ⟨_, (pss_cons (ps_asg (pv 1) (pg_tup (by rfl) (pgs_cons (pg_name (i := 2) sc.nd rfl (.inl rfl)) (pgs_cons (pg_name (i := 3) sc.nd rfl (.inl rfl)) (pgs_cons (pg_name (i := 4) sc.nd rfl (.inl rfl)) pgs_nil)))))
    (pss_cons (ps_set (i := 5) sc.nd rfl (.inl rfl) (pe_ix ix_tup (pe_ix ix_tup (pv 0) pe_int (fun _ _ => rfl)) (pv 2) (fun _ _ => rfl)))
    (pss_cons (ps_set (i := 6) sc.nd rfl (.inl rfl) (pe_ix ix_tup (pv 5) pe_int (fun _ _ => rfl)))
    (pss_cons (ps_if (pt_cmpR op_eq (pv 6) pe_str (nomark _)) (pss_one (ps_ret (pe_tup (pa_cons pe_str (pa_cons (pe_ix ix_tup (pv 5) pe_int (fun _ _ => rfl)) (pa_cons (pe_ix ix_tup (pv 3) (pe_ix ix_tup (pv 5) pe_int (fun _ _ => rfl)) (fun _ _ => rfl)) pa_nil)))))) pss_nil)
    (pss_cons (ps_if (pt_cmpR op_eq (pv 6) pe_str (nomark _)) (pss_one (ps_ret (pe_tup (pa_cons pe_str (pa_cons (pe_ix ix_tup (pv 5) pe_int (fun _ _ => rfl)) (pa_cons (pe_ix ix_tup (pv 3) (pe_ix ix_tup (pv 5) pe_int (fun _ _ => rfl)) (fun _ _ => rfl)) (pa_cons (pe_ix ix_tup (pv 3) (pe_ix ix_tup (pv 5) pe_int (fun _ _ => rfl)) (fun _ _ => rfl)) pa_nil))))))) pss_nil)
    (pss_cons (ps_if (pt_cmpR op_eq (pv 6) pe_str (nomark _)) (pss_one (ps_ret (pe_tup (pa_cons pe_str (pa_cons (pe_ix ix_tup (pv 5) pe_int (fun _ _ => rfl)) (pa_cons (pe_ix ix_tup (pv 5) pe_int (fun _ _ => rfl)) (pa_cons (pe_ix ix_tup (pv 3) (pe_ix ix_tup (pv 5) pe_int (fun _ _ => rfl)) (fun _ _ => rfl)) (pa_cons (pe_ix ix_tup (pv 3) (pe_ix ix_tup (pv 5) pe_int (fun _ _ => rfl)) (fun _ _ => rfl)) pa_nil)))))))) pss_nil)
    (pss_cons (ps_if (pt_cmpR op_in_seq (pv 6) (pe_tup (pa_cons pe_str (pa_cons pe_str pa_nil))) (by rfl)) (pss_one (ps_ret (pv 5))) pss_nil)
    (pss_cons (ps_if (pt_cmpR op_eq (pv 6) pe_str (nomark _)) (pss_one (ps_ret (pe_tup (pa_cons pe_str (pa_cons (pe_ix ix_tup (pv 5) pe_int (fun _ _ => rfl)) (pa_cons (pe_ix ix_tup (pv 3) (pe_ix ix_tup (pv 5) pe_int (fun _ _ => rfl)) (fun _ _ => rfl)) (pa_cons (pe_ix ix_tup (pv 5) pe_int (fun _ _ => rfl)) pa_nil))))))) pss_nil)
    (pss_one (ps_ret (pe_tup (pa_cons pe_str pa_nil)))))))))))), fun J ss R h => ?_⟩)
  · obtain ⟨ds, d, rfl, ⟨p, l, _, _, rfl, rfl⟩, rfl⟩ := h
    rfl
  · obtain ⟨ds, d, rfl, ⟨p, l, hp, hl, rfl, rfl⟩, rfl⟩ := h
    obtain ⟨hat, hok, _⟩ := Lane.ins_ok hp hl
    generalize l.ins p = i at hat hok ⊢
    unfold Prg.code Lane.toD
    refine sg_letT (by walk_at "ev") (tg_tup (tgs_cons tg_name (tgs_cons tg_name (tgs_cons tg_name tgs_nil)))) ?_
    refine sg_letD (ev_op (by walk_at "ev") (by walk_at "ev") (rr_ixT (at_map hat))) ?_
    unfold Ins.toD
    refine sg_letD (by walk_at "ev") ?_
    refine sg_when (by walk_at "ev") (fun e => ?_) fun e1 => ?_
    · obtain ⟨d, a, r, rfl⟩ := kind_load (of_decide_eq_true e)
      exact sg_retD (ev_tup (ea_d (by walk_at "ev") (ea_d (by walk_at "ev") (ea_d (ev_op (by walk_at "ev") (by walk_at "ev") (rr_ixT (ix_reg hl hok.2))) ea_d0)))) ⟨rfl, rfl⟩
    refine sg_when (by walk_at "ev") (fun e => ?_) fun e2 => ?_
    · obtain ⟨a, r, s, rfl⟩ := kind_store (of_decide_eq_true e)
      exact sg_retD (ev_tup (ea_d (by walk_at "ev") (ea_d (by walk_at "ev") (ea_d (ev_op (by walk_at "ev") (by walk_at "ev") (rr_ixT (ix_reg hl hok.1))) (ea_d (ev_op (by walk_at "ev") (by walk_at "ev") (rr_ixT (ix_reg hl hok.2))) ea_d0))))) ⟨rfl, rfl⟩
    refine sg_when (by walk_at "ev") (fun e => ?_) fun e3 => ?_
    · obtain ⟨op, a, r, s, rfl⟩ := kind_atomic (of_decide_eq_true e)
      exact sg_retD (ev_tup (ea_d (by walk_at "ev") (ea_d (by walk_at "ev") (ea_d (by walk_at "ev") (ea_d (ev_op (by walk_at "ev") (by walk_at "ev") (rr_ixT (ix_reg hl hok.1))) (ea_d (ev_op (by walk_at "ev") (by walk_at "ev") (rr_ixT (ix_reg hl hok.2))) ea_d0)))))) ⟨rfl, rfl⟩
    refine sg_when (et_b (ev_in2 (by walk_at "ev") (by walk_at "ev"))) (fun e => ?_) fun e4 => ?_
    · rw [Bool.or_eq_true] at e
      refine sg_retD (by walk_at "ev") ⟨rfl, ?_⟩
      rcases e with e | e
      · obtain ⟨n, rfl⟩ := kind_barrier (of_decide_eq_true e)
        rfl
      · obtain rfl := kind_exit (of_decide_eq_true e)
        rfl
    rw [Bool.or_eq_false_iff] at e4
    refine sg_when (by walk_at "ev") (fun e => ?_) fun e5 => ?_
    · obtain ⟨op, d, r, n, rfl⟩ := kind_collect (of_decide_eq_true e)
      exact sg_retD (ev_tup (ea_d (by walk_at "ev") (ea_d (by walk_at "ev") (ea_d (ev_op (by walk_at "ev") (by walk_at "ev") (rr_ixT (ix_reg hl hok.2))) (ea_d (by walk_at "ev") ea_d0))))) ⟨rfl, rfl⟩
    refine sg_retD (by walk_at "ev") ⟨rfl, ?_⟩
    rw [reqD_none (of_decide_eq_false e1) (of_decide_eq_false e2) (of_decide_eq_false e3) (of_decide_eq_false e4.1) (of_decide_eq_false e4.2) (of_decide_eq_false e5)]
theorem scFresult : FnScope ["instruction", "lane", "launch", "thread", "word", "kind", "words"] ["instruction", "lane", "launch", "thread", "word"] (defScope sFresult) := ⟨rfl, rfl, rfl, by decide +kernel, rfl, by decide +kernel, by decide +kernel⟩
def rResult (ds : List Dt) (d : Dt) : Prop := ∃ (p : Prg) (l : Lane) (i : Ins) (t w : Int), p.Ok ∧ l.Ok p ∧ i.Ok p.rows.length p.loc p.args.length ∧ ds = [i.toD, l.toD, p.launch, .int t, .int w] ∧ d = resD (resN p t l w i)
theorem ok_result (F : FunP K "result" sFresult f fd) (T : Txt K mg) (c_Fbinary : Cal P w K mg base 3 "binary" ["op", "a", "b"] (spG (pureP rBinary))) (c_Funary : Cal P w K mg base 2 "unary" ["op", "a"] (spG (pureP rUnary)))
    (c_Fspecial : Cal P w K mg base 1 "special" ["name", "thread", "launch"] (spG (pureP rSpecial))) : FnOk P w K mg base CX0 4 f fd ["instruction", "lane", "launch", "thread", "word"] (spG (pureP rResult)) := by
  have sc := scFresult
  refine fn_sg F sc (fun J ss R h => ?_) (fun cdv A outer s H E hr => ⟨_, (pss_cons (ps_set (i := 5) sc.nd rfl (.inl rfl) (pe_ix ix_tup (pv 0) pe_int (fun _ _ => rfl)))
    (pss_cons (ps_set (i := 6) sc.nd rfl (.inl rfl) (pe_ix ix_tup (pv 1) pe_int (fun _ _ => rfl)))
    (pss_cons (ps_if (pt_cmpR op_eq (pv 5) pe_str (nomark _)) (pss_one (ps_ret (pe_tup (pa_cons (pe_ix ix_tup (pv 0) pe_int (fun _ _ => rfl)) (pa_cons (pe_ix ix_tup (pv 0) pe_int (fun _ _ => rfl)) pa_nil))))) pss_nil)
    (pss_cons (ps_if (pt_cmpR op_eq (pv 5) pe_str (nomark _)) (pss_one (ps_ret (pe_tup (pa_cons (pe_ix ix_tup (pv 0) pe_int (fun _ _ => rfl)) (pa_cons (pe_ix ix_tup (pe_ix ix_tup (pv 2) pe_int (fun _ _ => rfl)) (pe_ix ix_tup (pv 0) pe_int (fun _ _ => rfl)) (fun _ _ => rfl)) pa_nil))))) pss_nil)
    (pss_cons (ps_if (pt_cmpR op_eq (pv 5) pe_str (nomark _)) (pss_one (ps_ret (pe_tup (pa_cons (pe_ix ix_tup (pv 0) pe_int (fun _ _ => rfl)) (pa_cons (pe_call c_Fspecial.ok (hr.mono (by decide)) (by rfl) c_Fspecial.hm c_Fspecial.hk c_Fspecial.hb .nil pass0 (pa_cons (pe_ix ix_tup (pv 0) pe_int (fun _ _ => rfl)) (pa_cons (pv 3) (pa_cons (pv 2) pa_nil)))) pa_nil))))) pss_nil)
    (pss_cons (ps_if (pt_cmpR op_eq (pv 5) pe_str (nomark _)) (pss_one (ps_ret (pe_tup (pa_cons (pe_ix ix_tup (pv 0) pe_int (fun _ _ => rfl)) (pa_cons (pe_ix ix_tup (pv 6) (pe_ix ix_tup (pv 0) pe_int (fun _ _ => rfl)) (fun _ _ => rfl)) pa_nil))))) pss_nil)
    (pss_cons (ps_if (pt_cmpR op_eq (pv 5) pe_str (nomark _)) (pss_one (ps_ret (pe_tup (pa_cons (pe_ix ix_tup (pv 0) pe_int (fun _ _ => rfl)) (pa_cons (pe_call c_Funary.ok (hr.mono (by decide)) (by rfl) c_Funary.hm c_Funary.hk c_Funary.hb .nil pass0 (pa_cons (pe_ix ix_tup (pv 0) pe_int (fun _ _ => rfl)) (pa_cons (pe_ix ix_tup (pv 6) (pe_ix ix_tup (pv 0) pe_int (fun _ _ => rfl)) (fun _ _ => rfl)) pa_nil))) pa_nil))))) pss_nil)
    (pss_cons (ps_if (pt_cmpR op_eq (pv 5) pe_str (nomark _)) (pss_one (ps_ret (pe_tup (pa_cons (pe_ix ix_tup (pv 0) pe_int (fun _ _ => rfl)) (pa_cons (pe_call c_Fbinary.ok (hr.mono (by decide)) (by rfl) c_Fbinary.hm c_Fbinary.hk c_Fbinary.hb .nil pass0 (pa_cons (pe_ix ix_tup (pv 0) pe_int (fun _ _ => rfl)) (pa_cons (pe_ix ix_tup (pv 6) (pe_ix ix_tup (pv 0) pe_int (fun _ _ => rfl)) (fun _ _ => rfl)) (pa_cons (pe_ix ix_tup (pv 6) (pe_ix ix_tup (pv 0) pe_int (fun _ _ => rfl)) (fun _ _ => rfl)) pa_nil)))) pa_nil))))) pss_nil)
    (pss_cons (ps_if (pt_cmpR op_eq (pv 5) pe_str (nomark _)) (pss_one (ps_ret (pe_tup (pa_cons (pe_ix ix_tup (pv 0) pe_int (fun _ _ => rfl)) (pa_cons (pe_ix ix_tup (pe_ix ix_tup (pv 1) pe_int (fun _ _ => rfl)) (pe_ix ix_tup (pv 0) pe_int (fun _ _ => rfl)) (fun _ _ => rfl)) pa_nil))))) pss_nil)
    (pss_cons (ps_if (pt_cmpR op_eq (pv 5) pe_str (nomark _)) (pss_one (ps_ret (pe_tup (pa_cons (pe_ix ix_tup (pv 0) pe_int (fun _ _ => rfl)) (pa_cons (pv 4) pa_nil))))) pss_nil)
    (pss_cons (ps_if (pt_cmpR op_eq (pv 5) pe_str (nomark _)) (pss_one (ps_ret (pe_tup (pa_cons (pe_ix ix_tup (pv 0) pe_int (fun _ _ => rfl)) (pa_cons (pv 4) pa_nil))))) pss_nil)
    (pss_one (ps_ret pe_non))))))))))))), fun J ss R h => ?_⟩)
  · obtain ⟨ds, d, rfl, ⟨p, l, i, t, w, _, _, _, rfl, rfl⟩, rfl⟩ := h
    rfl
  · obtain ⟨ds, d, rfl, ⟨p, l, i, t, w, hp, hl, hok, rfl, rfl⟩, rfl⟩ := h
    unfold Ins.toD Lane.toD
    refine sg_letD (by walk_at "ev") ?_
    refine sg_letD (by walk_at "ev") ?_
    refine sg_when (by walk_at "ev") (fun e => ?_) fun e1 => ?_
    · obtain ⟨d, n, rfl⟩ := kind_word (of_decide_eq_true e)
      refine sg_retD (by walk_at "ev") ⟨rfl, ?_⟩
      rfl
    refine sg_when (by walk_at "ev") (fun e => ?_) fun e2 => ?_
    · obtain ⟨d, k, rfl⟩ := kind_param (of_decide_eq_true e)
      unfold Prg.launch
      exact sg_retD (ev_tup (ea_d (by walk_at "ev") (ea_d (ev_op (by walk_at "ev") (by walk_at "ev") (rr_ixT (at_int hok.2))) ea_d0))) ⟨rfl, rfl⟩
    refine sg_when (by walk_at "ev") (fun e => ?_) fun e3 => ?_
    · obtain ⟨d, k, rfl⟩ := kind_special (of_decide_eq_true e)
      exact sg_retD (ev_tup (ea_d (by walk_at "ev") (ea_d (ev_pure (by walk_at "ev") ⟨_, _, p, rfl, rfl⟩) ea_d0))) ⟨rfl, rfl⟩
    refine sg_when (by walk_at "ev") (fun e => ?_) fun e4 => ?_
    · obtain ⟨d, k, rfl⟩ := kind_copy (of_decide_eq_true e)
      exact sg_retD (ev_tup (ea_d (by walk_at "ev") (ea_d (ev_op (by walk_at "ev") (by walk_at "ev") (rr_ixT (ix_reg hl hok.2))) ea_d0))) ⟨rfl, rfl⟩
    refine sg_when (by walk_at "ev") (fun e => ?_) fun e5 => ?_
    · obtain ⟨op, d, k, rfl⟩ := kind_unary (of_decide_eq_true e)
      exact sg_retD (ev_tup (ea_d (by walk_at "ev") (ea_d (ev_pure (ea_d (by walk_at "ev") (ea_d (ev_op (by walk_at "ev") (by walk_at "ev") (rr_ixT (ix_reg hl hok.2))) ea_d0)) ⟨_, _, rfl, rfl⟩) ea_d0))) ⟨rfl, rfl⟩
    refine sg_when (by walk_at "ev") (fun e => ?_) fun e6 => ?_
    · obtain ⟨op, d, r, s, rfl⟩ := kind_binary (of_decide_eq_true e)
      exact sg_retD (ev_tup (ea_d (by walk_at "ev") (ea_d (ev_pure (ea_d (by walk_at "ev") (ea_d (ev_op (by walk_at "ev") (by walk_at "ev") (rr_ixT (ix_reg hl hok.2.1))) (ea_d (ev_op (by walk_at "ev") (by walk_at "ev") (rr_ixT (ix_reg hl hok.2.2))) ea_d0)))
        ⟨_, _, _, rfl, getD_wd hl.wr _, getD_wd hl.wr _, rfl⟩) ea_d0))) ⟨rfl, rfl⟩
    refine sg_when (by walk_at "ev") (fun e => ?_) fun e7 => ?_
    · obtain ⟨d, n, rfl⟩ := kind_get (of_decide_eq_true e)
      exact sg_retD (ev_tup (ea_d (by walk_at "ev") (ea_d (ev_op (by walk_at "ev") (by walk_at "ev") (rr_ixT (at_int (by rw [hl.cells]; exact hok.2)))) ea_d0))) ⟨rfl, rfl⟩
    refine sg_when (by walk_at "ev") (fun e => ?_) fun e8 => ?_
    · obtain ⟨d, a, r, rfl⟩ := kind_load (of_decide_eq_true e)
      refine sg_retD (by walk_at "ev") ⟨rfl, ?_⟩
      rfl
    refine sg_when (by walk_at "ev") (fun e => ?_) fun e9 => ?_
    · obtain ⟨op, d, r, n, rfl⟩ := kind_collect (of_decide_eq_true e)
      refine sg_retD (by walk_at "ev") ⟨rfl, ?_⟩
      rfl
    refine sg_retD (by walk_at "ev") ⟨rfl, ?_⟩
    rw [resN_none (of_decide_eq_false e1) (of_decide_eq_false e2) (of_decide_eq_false e3) (of_decide_eq_false e4) (of_decide_eq_false e5) (of_decide_eq_false e6) (of_decide_eq_false e7) (of_decide_eq_false e8) (of_decide_eq_false e9)]
    rfl
theorem resD_not {p : Prg} {t w : Int} {l : Lane} {i : Ins} : (match resD (resN p t l w i) with | .non => false | _ => true) = (resN p t l w i).isSome := by
  cases resN p t l w i <;> rfl
theorem behindI_eq {p : Prg} {t w : Int} {l : Lane} {i : Ins} (h1 : ¬ i.kind = "exit") (h2 : ¬ i.kind = "keep") : behindI p t l w i = ⟨follN l i, match resN p t l w i with | some q => l.regs.set q.1 q.2 | none => l.regs, l.cells⟩ := by
  cases i <;> first | exact absurd rfl h1 | exact absurd rfl h2 | rfl
theorem follN_other {l : Lane} {i : Ins} (h1 : ¬ i.kind = "jump") (h2 : ¬ i.kind = "branch") : follN l i = l.at_ + 1 := by
  cases i <;> first | exact absurd rfl h1 | exact absurd rfl h2 | rfl
theorem scFbehind : FnScope ["code", "launch", "thread", "lane", "word", "at", "words", "cells", "instruction", "kind", "following", "found"] ["code", "launch", "thread", "lane", "word"] (defScope sFbehind) := ⟨rfl, rfl, rfl, by decide +kernel, rfl, by decide +kernel, by decide +kernel⟩
def rBehind (ds : List Dt) (d : Dt) : Prop := ∃ (p : Prg) (l : Lane) (t w : Int), p.Ok ∧ l.Ok p ∧ 0 ≤ t ∧ t ≤ 1000 ∧ Wd w ∧ ds = [p.code, p.launch, .int t, l.toD, .int w] ∧ d = (behindN p t l w).toD
theorem ok_behind (F : FunP K "behind" sFbehind f fd) (T : Txt K mg) (c_Fchanged : Cal P w K mg base 1 "changed" ["row", "at", "word"] (spG (pureP rChanged)))
    (c_Fresult : Cal P w K mg base 4 "result" ["instruction", "lane", "launch", "thread", "word"] (spG (pureP rResult))) : FnOk P w K mg base CX0 5 f fd ["code", "launch", "thread", "lane", "word"] (spG (pureP rBehind)) := by
  have sc := scFbehind
  refine fn_sg F sc (fun J ss R h => ?_) (fun cdv A outer s H E hr => ⟨_, (pss_cons (ps_asg (pv 3) (pg_tup (by rfl) (pgs_cons (pg_name (i := 5) sc.nd rfl (.inl rfl)) (pgs_cons (pg_name (i := 6) sc.nd rfl (.inl rfl)) (pgs_cons (pg_name (i := 7) sc.nd rfl (.inl rfl)) pgs_nil)))))
    (pss_cons (ps_set (i := 8) sc.nd rfl (.inl rfl) (pe_ix ix_tup (pe_ix ix_tup (pv 0) pe_int (fun _ _ => rfl)) (pv 5) (fun _ _ => rfl)))
    (pss_cons (ps_set (i := 9) sc.nd rfl (.inl rfl) (pe_ix ix_tup (pv 8) pe_int (fun _ _ => rfl)))
    (pss_cons (ps_if (pt_cmpR op_eq (pv 9) pe_str (nomark _)) (pss_one (ps_ret (pv 3))) pss_nil)
    (pss_cons (ps_set (i := 10) sc.nd rfl (.inl rfl) (pe_op op_add (pv 5) pe_int))
    (pss_cons (ps_if (pt_cmpR op_eq (pv 9) pe_str (nomark _)) (pss_one (ps_set (i := 10) sc.nd rfl (.inl rfl) (pe_ix ix_tup (pv 8) pe_int (fun _ _ => rfl)))) (pss_one (ps_if (PW.pt (pw_and (pt_cmpR op_eq (pv 9) pe_str (nomark _)) (pw_and1 (pt_cmpR op_ne (pe_ix ix_tup (pv 6) (pe_ix ix_tup (pv 8) pe_int (fun _ _ => rfl)) (fun _ _ => rfl)) pe_int (nomark _))))) (pss_one (ps_set (i := 10) sc.nd rfl (.inl rfl) (pe_ix ix_tup (pv 8) pe_int (fun _ _ => rfl)))) pss_nil)))
    (pss_cons (ps_if (pt_cmpR op_eq (pv 9) pe_str (nomark _)) (pss_one (ps_ret (pe_tup (pa_cons (pv 10) (pa_cons (pv 6) (pa_cons (pe_call c_Fchanged.ok (hr.mono (by decide)) (by rfl) c_Fchanged.hm c_Fchanged.hk c_Fchanged.hb .nil pass0 (pa_cons (pv 7) (pa_cons (pe_ix ix_tup (pv 8) pe_int (fun _ _ => rfl)) (pa_cons (pe_ix ix_tup (pv 6) (pe_ix ix_tup (pv 8) pe_int (fun _ _ => rfl)) (fun _ _ => rfl)) pa_nil)))) pa_nil)))))) pss_nil)
    (pss_cons (ps_set (i := 11) sc.nd rfl (.inl rfl) (pe_call c_Fresult.ok (hr.mono (by decide)) (by rfl) c_Fresult.hm c_Fresult.hk c_Fresult.hb .nil pass0 (pa_cons (pv 8) (pa_cons (pv 3) (pa_cons (pv 1) (pa_cons (pv 2) (pa_cons (pv 4) pa_nil)))))))
    (pss_cons (ps_if (pt_cmpR op_notN1 (pv 11) pe_non (nomark _)) (pss_one (ps_set (i := 6) sc.nd rfl (.inl rfl) (pe_call c_Fchanged.ok (hr.mono (by decide)) (by rfl) c_Fchanged.hm c_Fchanged.hk c_Fchanged.hb .nil pass0 (pa_cons (pv 6) (pa_cons (pe_ix ix_tup (pv 11) pe_int (fun _ _ => rfl)) (pa_cons (pe_ix ix_tup (pv 11) pe_int (fun _ _ => rfl)) pa_nil)))))) pss_nil)
    (pss_one (ps_ret (pe_tup (pa_cons (pv 10) (pa_cons (pv 6) (pa_cons (pv 7) pa_nil))))))))))))))), fun J ss R h => ?_⟩)
  · obtain ⟨ds, d, rfl, ⟨p, l, t, w, _, _, _, _, _, rfl, rfl⟩, rfl⟩ := h
    rfl
  · obtain ⟨ds, d, rfl, ⟨p, l, t, w, hp, hl, ht0, ht1, hw, rfl, rfl⟩, rfl⟩ := h
    obtain ⟨hat, hok, _⟩ := Lane.ins_ok hp hl
    unfold behindN
    generalize l.ins p = i at hat hok ⊢
    have el : l.toD = .tup [.int l.at_, .tup (l.regs.map Dt.int), .tup (l.cells.map Dt.int)] := rfl
    unfold Prg.code
    refine sg_letT (d := .tup [.int l.at_, .tup (l.regs.map Dt.int), .tup (l.cells.map Dt.int)]) (by walk_at "ev") (tg_tup (tgs_cons tg_name (tgs_cons tg_name (tgs_cons tg_name tgs_nil)))) ?_
    refine sg_letD (ev_op (by walk_at "ev") (by walk_at "ev") (rr_ixT (at_map hat))) ?_
    refine sg_letD (d := .str i.kind) (ev_op (da := .tup (.str i.kind :: i.parts)) (by walk_at "ev") ev_int rr_head) ?_
    refine sg_when (by walk_at "ev") (fun e => ?_) fun e1 => ?_
    · obtain rfl := kind_exit (of_decide_eq_true e)
      exact sg_retD (by walk_at "ev") ⟨rfl, rfl⟩
    have n1 := of_decide_eq_false e1
    refine sg_letD (by walk_at "ev") ?_
    -- following
    refine sg_seq (N := fun J1 δ1 => J1 = J ∧ δ1 = [some (.dat (.tup [p.params, p.shared, .int p.loc, .tup (p.rows.map Ins.toD)])), some (.dat p.launch), some (.dat (.int t)), some (.dat l.toD), some (.dat (.int w)), some (.dat (.int l.at_)),
      some (.dat (.tup (l.regs.map Dt.int))), some (.dat (.tup (l.cells.map Dt.int))), some (.dat i.toD), some (.dat (.str i.kind)), some (.dat (.int (follN l i))), none]) ?_ ?_
    · refine sg_ifB (by walk_at "ev") (fun e => ?_) fun e2 => ?_
      · obtain ⟨k, rfl⟩ := kind_jump (of_decide_eq_true e)
        exact sg_asgG (EvD.toP (ev_op (da := .tup [.str (Ins.jump k).kind, .int k]) (by walk_at "ev") ev_int (rr_ixT (d := .int k) (by rfl)))) fun J1 s ⟨e3, e4⟩ => ⟨e3, by rw [e4]; rfl⟩
      · have n2 := of_decide_eq_false e2
        by_cases hb : i.kind = "branch"
        · obtain ⟨r, k, j, rfl⟩ := kind_branch hb
          have hix : EvD J (tOp (rIxT K) (tVar 8) (tC (.int 1))) [some (.dat (.tup [p.params, p.shared, .int p.loc, .tup (p.rows.map Ins.toD)])), some (.dat p.launch), some (.dat (.int t)), some (.dat l.toD), some (.dat (.int w)), some (.dat (.int l.at_)),
              some (.dat (.tup (l.regs.map Dt.int))), some (.dat (.tup (l.cells.map Dt.int))), some (.dat (.tup [.str "branch", .int r, .int k, .int j])), some (.dat (.str "branch")), some (.dat (.int (l.at_ + 1))), none] (.int r) := by walk_at "ev"
          refine sg_ifB (et_andB (by walk_at "ev") fun _ => et_b (ev_op (ev_op (by walk_at "ev") hix (rr_ixT (ix_reg hl hok.1))) ev_int rr_neI)) (fun e => ?_) fun e => ?_
          · refine sg_asgG (EvD.toP (ev_op (da := .tup [.str "branch", .int r, .int k, .int j]) (by walk_at "ev") ev_int (rr_ixT (d := .int k) (by rfl)))) fun J1 s ⟨e3, e4⟩ => ⟨e3, ?_⟩
            rw [Bool.and_eq_true, Bool.not_eq_true', decide_eq_false_iff_not] at e
            have ef : follN l (.branch r k j) = k := by
              show (if l.reg r = 0 then l.at_ + 1 else k) = k
              rw [if_neg e.2]
            rw [e4, ef]
            rfl
          · refine sg_next ⟨rfl, ?_⟩
            have ef : follN l (.branch r k j) = l.at_ + 1 := by
              have e1 : decide ((Ins.branch r k j).kind = "branch") = true := decide_eq_true hb
              rw [e1, Bool.true_and, Bool.not_eq_false', decide_eq_true_iff] at e
              show (if l.reg r = 0 then l.at_ + 1 else k) = l.at_ + 1
              rw [if_pos e]
            rw [ef]
            rfl
        · refine sg_ifB (et_andB (b := true) (by walk_at "ev") fun z => absurd (of_decide_eq_true z) hb) (fun e => ?_) fun e => ?_
          · rw [decide_eq_false hb] at e
            cases e
          · refine sg_next ⟨rfl, ?_⟩
            rw [follN_other n2 hb]
            rfl
    · rintro J1 δ1 ⟨rfl, rfl⟩
      refine sg_when (by walk_at "ev") (fun e => ?_) fun e3 => ?_
      · obtain ⟨n, r, rfl⟩ := kind_keep (of_decide_eq_true e)
        have hix : ∀ n', n' = 1 ∨ n' = 2 → True := fun _ _ => trivial
        refine sg_retD (ev_tup (ea_d (by walk_at "ev") (ea_d (by walk_at "ev") (ea_d (ev_pure (ea_d (by walk_at "ev") (ea_d (ev_op (da := .tup [.str "keep", .int n, .int r]) (by walk_at "ev") ev_int (rr_ixT (d := .int n) (by rfl))) (ea_d (ev_op (by walk_at "ev") (ev_op (da := .tup [.str "keep", .int n, .int r]) (by walk_at "ev") ev_int (rr_ixT (d := .int r) (by rfl))) (rr_ixT (ix_reg hl hok.2))) ea_d0)))
          ⟨l.cells.map Dt.int, n, .int (l.reg r), by rw [List.length_map, hl.cells]; exact hok.1, by rw [List.length_map, hl.cells]; have := hp.loc; omega, rfl, rfl⟩) ea_d0)))) ⟨rfl, ?_⟩
        show Sl.dat (.tup [_, _, .tup _]) = Sl.dat (.tup [_, _, .tup ((l.cells.set n (l.reg r)).map Dt.int)])
        rw [List.map_set]
        rfl
      have n3 := of_decide_eq_false e3
      refine sg_letD (ev_pure (by walk_at "ev") ⟨p, l, i, t, w, hp, hl, hok, rfl, rfl⟩) ?_
      refine sg_upd (d := .tup ((match resN p t l w i with | some q => l.regs.set q.1 q.2 | none => l.regs).map Dt.int)) (et_b (ev_op (by walk_at "ev") (by walk_at "ev") rr_notN)) (fun e => ?_) (fun e => ?_) ?_
      · have e := resD_not.symm.trans e
        cases q : resN p t l w i with
        | none => rw [q] at e; cases e
        | some z =>
          obtain ⟨d, x⟩ := z
          have hd := (resN_wd hp hl ht0 ht1 hw hok q).1
          refine ev_is (ev_pure (ds := [.tup (l.regs.map Dt.int), .int d, .int x]) (ea_d (by walk_at "ev") (ea_d (ev_op (da := .tup [.int d, .int x]) (by walk_at "ev") ev_int rr_head) (ea_d (ev_op (da := .tup [.int d, .int x]) (by walk_at "ev") ev_int (rr_ixT (d := .int x) (by rfl))) ea_d0))) ⟨l.regs.map Dt.int, d, .int x, by rw [List.length_map, hl.regs]; exact hd, by rw [List.length_map, hl.regs]; decide, rfl, rfl⟩) ?_
          show Dt.tup _ = Dt.tup ((l.regs.set d x).map Dt.int)
          rw [List.map_set]
      · have e := resD_not.symm.trans e
        cases q : resN p t l w i with
        | none => rfl
        | some z => rw [q] at e; cases e
      refine sg_retD (by walk_at "ev") ⟨rfl, ?_⟩
      rw [behindI_eq n1 n3]
      rfl
end
end LK

namespace LK
open PySem PySem.Spec PyProof.Rows L2
/-! ### lists in ascending order -/
def insU (x : Int) : List Int → List Int
  | [] => [x]
  | y :: r => if x < y then x :: y :: r else if x = y then y :: r else y :: insU x r
def ascI (l : List Int) : List Int := l.foldr insU []
theorem mem_insU {x k : Int} : ∀ {l : List Int}, k ∈ insU x l ↔ k = x ∨ k ∈ l
  | [] => by simp [insU]
  | y :: r => by
    unfold insU
    split
    · simp
    · split
      · rename_i h; subst h; simp
      · rw [List.mem_cons, mem_insU, List.mem_cons]
        constructor
        · rintro (h | h | h) <;> simp [h]
        · rintro (h | h | h) <;> simp [h]
theorem asc_insU {x : Int} : ∀ {l : List Int}, l.Pairwise (· < ·) → (insU x l).Pairwise (· < ·)
  | [], _ => by simp [insU]
  | y :: r, h => by
    obtain ⟨h1, h2⟩ := List.pairwise_cons.mp h
    unfold insU
    split
    · rename_i hxy
      refine List.pairwise_cons.mpr ⟨fun z hz => ?_, h⟩
      rcases List.mem_cons.mp hz with e | e
      · rw [e]; exact hxy
      · exact Int.lt_trans hxy (h1 z e)
    · split
      · exact h
      · rename_i h3 h4
        refine List.pairwise_cons.mpr ⟨fun z hz => ?_, asc_insU h2⟩
        rcases mem_insU.mp hz with e | e
        · rw [e]; omega
        · exact h1 z e
theorem asc_ascI : ∀ l : List Int, (ascI l).Pairwise (· < ·)
  | [] => List.Pairwise.nil
  | x :: r => asc_insU (asc_ascI r)
theorem mem_ascI {k : Int} : ∀ {l : List Int}, k ∈ ascI l ↔ k ∈ l
  | [] => Iff.rfl
  | x :: r => by
    show k ∈ insU x (ascI r) ↔ _
    rw [mem_insU, mem_ascI, List.mem_cons]
theorem asc_unique : ∀ {a b : List Int}, a.Pairwise (· < ·) → b.Pairwise (· < ·) → (∀ k, k ∈ a ↔ k ∈ b) → a = b
  | [], [], _, _, _ => rfl
  | [], y :: s, _, _, h => absurd ((h y).mpr (List.mem_cons_self ..)) (by simp)
  | x :: r, [], _, _, h => absurd ((h x).mp (List.mem_cons_self ..)) (by simp)
  | x :: r, y :: s, ha, hb, h => by
    obtain ⟨a1, a2⟩ := List.pairwise_cons.mp ha
    obtain ⟨b1, b2⟩ := List.pairwise_cons.mp hb
    have e : x = y := by
      rcases List.mem_cons.mp ((h x).mp (List.mem_cons_self ..)) with e | e
      · exact e
      · rcases List.mem_cons.mp ((h y).mpr (List.mem_cons_self ..)) with e2 | e2
        · exact e2.symm
        · have := b1 x e
          have := a1 y e2
          omega
    subst e
    rw [asc_unique a2 b2 fun k => ⟨fun hk => ?_, fun hk => ?_⟩]
    · rcases List.mem_cons.mp ((h k).mp (List.mem_cons_of_mem _ hk)) with e | e
      · have := a1 k hk; omega
      · exact e
    · rcases List.mem_cons.mp ((h k).mpr (List.mem_cons_of_mem _ hk)) with e | e
      · have := b1 k hk; omega
      · exact e
theorem asc_self {l : List Int} (h : l.Pairwise (· < ·)) : ascI l = l := asc_unique (asc_ascI l) h fun _ => mem_ascI
theorem asc_nodup {l : List Int} (h : l.Pairwise (· < ·)) : l.Nodup := h.imp fun h => by omega
theorem asc_perm {ys ks : List Int} (p : ys.Perm ks) (n : ks.Nodup) (h : ys.Pairwise (· ≤ ·)) : ys = ascI ks := by
  refine asc_unique ?_ (asc_ascI ks) fun k => p.mem_iff.trans mem_ascI.symm
  have n2 : ys.Nodup := p.nodup_iff.mpr n
  have := h.and n2
  exact this.imp fun ⟨a, b⟩ => by omega
theorem ascI_perm {l : List Int} (n : l.Nodup) : (ascI l).Perm l := by
  rw [List.perm_ext_iff_of_nodup (asc_nodup (asc_ascI l)) n]
  exact fun k => mem_ascI
theorem ascI_len {l : List Int} (n : l.Nodup) : (ascI l).length = l.length := (ascI_perm n).length_eq
/-! ### tables with int keys -/
def dOf (ks : List Int) (sv : Int → V) : List (L2.Key × V) := ks.map fun k => (Sum.inl k, sv k)
def upF {α : Type} (f : Int → α) (k : Int) (v : α) : Int → α := fun j => if j = k then v else f j
def addK (ks : List Int) (k : Int) : List Int := if k ∈ ks then ks else ks ++ [k]
theorem upF_same {α : Type} {f : Int → α} {k : Int} {v : α} : upF f k v k = v := if_pos rfl
theorem upF_ne {α : Type} {f : Int → α} {k j : Int} {v : α} (h : j ≠ k) : upF f k v j = f j := if_neg h
theorem val_dOf (k : Int) (sv : Int → V) : ∀ ks : List Int, valV (dOf ks sv) (Sum.inl k : L2.Key) = if k ∈ ks then some (sv k) else none
  | [] => rfl
  | j :: ks => by
    show valV ((Sum.inl j, sv j) :: dOf ks sv) _ = _
    by_cases e : j = k
    · subst e
      rw [valV_pos rfl, if_pos (List.mem_cons_self ..)]
    · rw [valV_neg (fun z => e (Sum.inl.inj z)), val_dOf k sv ks]
      have : (k ∈ j :: ks) ↔ k ∈ ks := by
        rw [List.mem_cons]
        exact ⟨fun z => z.resolve_left fun q => e q.symm, .inr⟩
      by_cases h : k ∈ ks
      · rw [if_pos h, if_pos (this.mpr h)]
      · rw [if_neg h, if_neg fun z => h (this.mp z)]
theorem put_dOf (ks : List Int) (sv : Int → V) (k : Int) (v : V) : putK (dOf ks sv) (Sum.inl k : L2.Key) v = dOf (addK ks k) (upF sv k v) := by
  unfold putK addK
  rw [valV_any, val_dOf]
  by_cases h : k ∈ ks
  · rw [if_pos h, if_pos h, if_pos (show (some (sv k)).isSome = true from rfl)]
    unfold dOf
    rw [List.map_map]
    refine List.map_congr_left fun j _ => ?_
    show (if (Sum.inl j : L2.Key) = Sum.inl k then _ else _) = _
    unfold upF
    by_cases e : j = k
    · rw [if_pos (by rw [e]), if_pos e]
    · rw [if_neg (fun z => e (Sum.inl.inj z)), if_neg e]
  · rw [if_neg h, if_neg h, if_neg (by simp)]
    unfold dOf
    rw [List.map_append]
    congr 1
    · refine List.map_congr_left fun j hj => ?_
      rw [upF_ne (fun e => h (by rw [← e]; exact hj))]
    · show [((Sum.inl k : L2.Key), v)] = [((Sum.inl k : L2.Key), upF sv k v k)]
      rw [upF_same]
theorem addK_nodup {ks : List Int} {k : Int} (h : ks.Nodup) : (addK ks k).Nodup := by
  unfold addK
  split
  · exact h
  · rename_i n
    exact nd_snoc h n
theorem mem_addK {ks : List Int} {k j : Int} : j ∈ addK ks k ↔ j ∈ ks ∨ j = k := by
  unfold addK
  split
  · rename_i h
    exact ⟨.inl, fun z => z.elim id fun e => by rw [e]; exact h⟩
  · simp
theorem dOf_len (ks : List Int) (sv : Int → V) : (dOf ks sv).length = ks.length := List.length_map ..
theorem dOf_keys (ks : List Int) (sv : Int → V) : (dOf ks sv).map (·.1) = ks.map Sum.inl := by
  unfold dOf
  rw [List.map_map]
  rfl
/-! ### atoms -/
/-- an instance; ds: what some of its attributes stand for -/
def insA (x C dx : Addr) (fs : List (Str × V)) (ds : List (Dt × V)) : Atom where
  I F H := (∀ a, F a ↔ a = x) ∧ H x = some (.ins C dx fs) ∧ ∀ q ∈ ds, IsD H q.1 q.2
  out F H H1 h k t := ⟨h.1, (k x ((h.1 x).mpr rfl)).trans h.2.1, fun q hq => IsD.tk t _ _ (h.2.2 q hq)⟩
  dom F H a h ha := by
    have e := (h.1 a).mp ha
    rw [e, h.2.1]
    exact ⟨fun z => (by cases z), fun xs z => (by cases z)⟩
/-- a dict of data by ints -/
def dictD (d : Addr) (ks : List Int) (f : Int → Dt) : Atom where
  I F H := (∀ a, F a ↔ a = d) ∧ ks.Nodup ∧ ks.length ≤ 8 ∧ ∃ sv : Int → V, H d = some (.dK (dOf ks sv)) ∧ ∀ k ∈ ks, IsD H (f k) (sv k)
  out F H H1 h k t := by
    obtain ⟨e, n, l, sv, hd, hs⟩ := h
    exact ⟨e, n, l, sv, (k d ((e d).mpr rfl)).trans hd, fun j hj => IsD.tk t _ _ (hs j hj)⟩
  dom F H a h ha := by
    obtain ⟨e, n, l, sv, hd, hs⟩ := h
    rw [(e a).mp ha, hd]
    exact ⟨fun z => (by cases z), fun xs z => (by cases z)⟩
/-- a list of data that changes -/
def lstA (l : Addr) (ds : List Dt) : Atom where
  I F H := (∀ a, F a ↔ a = l) ∧ ∃ vs, H l = some (.lst vs) ∧ IsDs H ds vs
  out F H H1 h k t := by
    obtain ⟨e, vs, hl, hs⟩ := h
    exact ⟨e, vs, (k l ((e l).mpr rfl)).trans hl, IsDs.tk t _ _ hs⟩
  dom F H a h ha := by
    obtain ⟨e, vs, hl, hs⟩ := h
    rw [(e a).mp ha, hl]
    exact ⟨fun z => (by cases z), fun xs z => (by cases z)⟩
/-- a dict of lists of data by ints -/
def dictL (d : Addr) (ks : List Int) (f : Int → List Dt) : Atom where
  I F H := ks.Nodup ∧ ks.length ≤ 8 ∧ ∃ la : Int → Addr, (∀ a, F a ↔ a = d ∨ ∃ k ∈ ks, a = la k) ∧ H d = some (.dK (dOf ks fun k => .ref (la k))) ∧ (∀ k ∈ ks, ∃ vs, H (la k) = some (.lst vs) ∧ IsDs H (f k) vs) ∧ ∀ k ∈ ks, ∀ j ∈ ks, la k = la j → k = j
  out F H H1 h k t := by
    obtain ⟨n, l, la, e, hd, hs, hi⟩ := h
    refine ⟨n, l, la, e, (k d ((e d).mpr (.inl rfl))).trans hd, fun j hj => ?_, hi⟩
    obtain ⟨vs, h1, h2⟩ := hs j hj
    exact ⟨vs, (k _ ((e _).mpr (.inr ⟨j, hj, rfl⟩))).trans h1, IsDs.tk t _ _ h2⟩
  dom F H a h ha := by
    obtain ⟨n, l, la, e, hd, hs, hi⟩ := h
    rcases (e a).mp ha with q | ⟨j, hj, q⟩
    · rw [q, hd]
      exact ⟨fun z => (by cases z), fun xs z => (by cases z)⟩
    · obtain ⟨vs, h1, h2⟩ := hs j hj
      rw [q, h1]
      exact ⟨fun z => (by cases z), fun xs z => (by cases z)⟩
section
variable {A A' : Atom} {J : List Atom} {F0 F : AS} {H0 H : Hp} {δ : SE} {τd : List Sl} {σ : L2.St} {τ : List V} {a : Addr} {o : HO}
/-- one owned thing changes -/
theorem own_put (h : Own (A :: J) F H) (hA : ∀ F1, A.I F1 H → F1 a ∧ A'.I F1 (upd H a o)) : Own (A' :: J) F (upd H a o) ∧ Fr F H F (upd H a o) := by
  obtain ⟨F1, F2, e, d, h1, h2⟩ := h
  obtain ⟨ha, hi⟩ := hA F1 h1
  have nt := (A.dom F1 H a h1 ha).2
  have tk : Tk H (upd H a o) := fun b xs hb => by
    rw [upd_ne (fun z => nt xs (by rw [← z]; exact hb))]
    exact hb
  refine ⟨⟨F1, F2, e, d, hi, h2.out (fun b hb => upd_ne fun z => d a ha (by rw [← z]; exact hb)) tk⟩, fun b ob hb nb => ?_, fun _ _ h => h, tk⟩
  rw [upd_ne (fun z => nb ((e b).mpr (.inl (by rw [z]; exact ha))))]
  exact hb
theorem Sta.put (S : Sta (A :: J) F0 H0 δ τd σ τ H) (hA : ∀ F1, A.I F1 H → F1 a ∧ A'.I F1 (upd H a o)) : Sta (A' :: J) F0 H0 δ τd σ τ (upd H a o) := by
  obtain ⟨F, x, ow, d, t⟩ := S.ex
  obtain ⟨o1, f1⟩ := own_put ow hA
  exact ⟨F, x.trans f1, o1, d.fr f1, t.fr f1⟩
/-- the same for an atom in the midst -/
theorem Sta.putAt {s t : List Atom} (S : Sta (s ++ A :: t) F0 H0 δ τd σ τ H) (hA : ∀ F1, A.I F1 H → F1 a ∧ A'.I F1 (upd H a o)) : Sta (s ++ A' :: t) F0 H0 δ τd σ τ (upd H a o) :=
  ((S.perm List.perm_middle).put hA).perm List.perm_middle.symm
/-- a new thing that is owned -/
theorem Sta.own1 (S : Sta J F0 H0 δ τd σ τ H) (hp : H a = none) (hA : A.I (fun b => b = a) (upd H a o)) : Sta (A :: J) F0 H0 δ τd σ τ (upd H a o) := by
  obtain ⟨F, x, ow, d, t⟩ := S.ex
  have e : Ext H (upd H a o) := Ext.new hp
  have f : Fr F H (fun b => b = a ∨ F b) (upd H a o) := ⟨fun b ob hb _ => e b ob hb, fun b hb nb z => z.elim (fun q => hb (by rw [q]; exact hp)) nb, e.tk⟩
  refine ⟨fun b => b = a ∨ F b, x.trans f, ⟨fun b => b = a, F, fun b => Iff.rfl, fun b hb hf => ?_, hA, ow.ext e⟩, d.fr f, t.fr f⟩
  rw [hb] at hf
  exact (ow.dom hf).1 hp
/-- an owned thing let go: from then on it stands still -/
theorem Sta.free {s : Sl} {v : V} (S : Sta (A :: J) F0 H0 δ τd σ τ H) (hs : ∀ F1 F2 : AS, (∀ b, F1 b → ¬ F2 b) → A.I F1 H → SlOk F2 H s v) : Sta J F0 H0 δ (s :: τd) σ (v :: τ) H := by
  obtain ⟨F, x, ⟨F1, F2, e, dj, h1, h2⟩, d, t⟩ := S.ex
  have f : Fr F H F2 H := (Fr.refl F H).sub fun b hb => (e b).mpr (.inr hb)
  exact ⟨F2, x.trans f, h2, d.fr f, v, τ, rfl, hs F1 F2 dj h1, t.fr f⟩
theorem Sta.lose (S : Sta (A :: J) F0 H0 δ τd σ τ H) : Sta J F0 H0 δ τd σ τ H := (S.free (s := .any) (v := .non) fun _ _ _ _ => trivial).pop
theorem Sta.freeL {l : Addr} {ds : List Dt} (S : Sta (lstA l ds :: J) F0 H0 δ τd σ τ H) : Sta J F0 H0 δ (.lst ds :: τd) σ (.ref l :: τ) H := S.free fun F1 F2 dj ⟨e, vs, hl, hs⟩ => ⟨l, vs, rfl, dj l ((e l).mpr rfl), hl, hs⟩
theorem Sta.newA {l : Addr} {ds : List Dt} {vs : List V} (S : Sta J F0 H0 δ τd σ τ H) (hp : H l = none) (h : IsDs H ds vs) : Sta (lstA l ds :: J) F0 H0 δ τd σ τ (upd H l (.lst vs)) :=
  S.own1 hp ⟨fun _ => Iff.rfl, vs, upd_same, IsDs.tk (Ext.new hp).tk _ _ h⟩
theorem Sta.atom (S : Sta J F0 H0 δ τd σ τ H) (m : A ∈ J) : ∃ F1, A.I F1 H := by
  obtain ⟨F, x, ow, d, t⟩ := S.ex
  obtain ⟨F1, _, h⟩ := ow.atom m
  exact ⟨F1, h⟩
theorem Sta.pop2 {s s2 : Sl} {v v2 : V} (S : Sta J F0 H0 δ (s :: s2 :: τd) σ (v :: v2 :: τ) H) : Sta J F0 H0 δ (s :: τd) σ (v :: τ) H := by
  obtain ⟨F, x, o, d, t⟩ := S.ex
  obtain ⟨w, r, e, h1, w2, r2, e2, h2, h3⟩ := t
  cases e
  cases e2
  exact ⟨F, x, o, d, v, τ, rfl, h1, h3⟩
theorem Sta.fix {ds : List Dt} {v : V} (S : Sta J F0 H0 δ (.lst ds :: τd) σ (v :: τ) H) : ∃ l vs, v = .ref l ∧ H l = some (.lst vs) ∧ IsDs H ds vs ∧ Sta J F0 H0 δ (.lsx l vs ds :: τd) σ (.ref l :: τ) H := by
  obtain ⟨F, x, o, d, t⟩ := S.ex
  obtain ⟨w, r, e, ⟨l, vs, e2, n, hl, hs⟩, h2⟩ := t
  cases e
  subst e2
  exact ⟨l, vs, rfl, hl, hs, F, x, o, d, _, _, rfl, ⟨rfl, n, hl, hs⟩, h2⟩
theorem Sta.lsx {l : Addr} {vs : List V} {ds : List Dt} {v : V} (S : Sta J F0 H0 δ (.lsx l vs ds :: τd) σ (v :: τ) H) : H l = some (.lst vs) ∧ IsDs H ds vs := by
  obtain ⟨F, _, _, _, _, h1, h2⟩ := S.top
  exact ⟨h1, h2⟩
end
/-! ### fields -/
section
variable {J : List Atom} {δ : SE} {te td ty tv : TE} {K : PySem.W.Frag} {x C dx : Addr} {fs : List (Str × V)} {dd : List (Dt × V)} {f : Str} {v : V} {O : Outs}
theorem ev_fldV (ho : EvV J te δ (.ref x)) (m : insA x C dx fs dd ∈ J) (c : Cls K C) (n : NoAttr K C f) (l : fs.lookup f = some v) : EvV J (tFld K te f) δ v := fun F0 H0 τd σ τ H Q S k =>
  ho _ _ _ _ _ _ _ S fun J1 s u H1 ⟨e, es⟩ S1 => by
    subst e es
    obtain ⟨F, _, _, eu⟩ := S1.top
    have eu : u = .ref x := eu
    obtain ⟨F1, _, hx, _⟩ := S1.atom m
    exact ⟨x, C, dx, fs, v, eu, hx, c, n, l, k J1 _ v H1 ⟨rfl, rfl⟩ (S1.pop.push fun F _ _ _ _ => rfl)⟩
theorem ev_fldD {d : Dt} (ho : EvV J te δ (.ref x)) (m : insA x C dx fs dd ∈ J) (c : Cls K C) (n : NoAttr K C f) (l : fs.lookup f = some v) (hd : (d, v) ∈ dd) : EvD J (tFld K te f) δ d := fun F0 H0 τd σ τ H Q S k =>
  ho _ _ _ _ _ _ _ S fun J1 s u H1 ⟨e, es⟩ S1 => by
    subst e es
    obtain ⟨F, _, _, eu⟩ := S1.top
    have eu : u = .ref x := eu
    obtain ⟨F1, _, hx, hdd⟩ := S1.atom m
    exact ⟨x, C, dx, fs, v, eu, hx, c, n, l, k J1 _ v H1 ⟨rfl, d, rfl, rfl⟩ (S1.pop.push fun F _ _ _ _ => hdd _ hd)⟩
/-! ### dicts of data -/
variable {d : Addr} {ks : List Int} {g : Int → Dt}
theorem ev_dget {k : Int} (ho : EvV J td δ (.ref d)) (hk : EvD J ty δ (.int k)) (m : dictD d ks g ∈ J) (hi : k ∈ ks) : EvD J (tDGet td ty) δ (g k) := fun F0 H0 τd σ τ H Q S q =>
  ho _ _ _ _ _ _ _ S fun J1 s u H1 ⟨e, es⟩ S1 => by
    subst e es
    refine hk _ _ _ _ _ _ _ S1 fun J2 s2 u2 H2 ⟨e2, d2, es2, ed2⟩ S2 => ?_
    subst e2 es2 ed2
    have e2 : u2 = .int k := S2.dat
    obtain ⟨F, _, _, eu⟩ := S2.pop.top
    have eu : u = .ref d := eu
    subst e2
    obtain ⟨F1, _, _, _, sv, hd, hs⟩ := S2.atom m
    have hg := DGet.k (k := (Sum.inl k : L2.Key)) hd
    rw [val_dOf, if_pos hi] at hg
    exact ⟨d, sv k, eu, hg, q J2 _ _ H2 ⟨rfl, _, rfl, rfl⟩ (S2.pop.pop.push fun F _ _ _ _ => hs k hi)⟩
theorem ev_din {k : Int} (ho : EvV J td δ (.ref d)) (hk : EvD J ty δ (.int k)) (m : dictD d ks g ∈ J) : EvD J (tDIn ty td) δ (.bl (decide (k ∈ ks))) := fun F0 H0 τd σ τ H Q S q =>
  hk _ _ _ _ _ _ _ S fun J2 s2 u2 H2 ⟨e2, d2, es2, ed2⟩ S2 => by
    subst e2 es2 ed2
    refine ho _ _ _ _ _ _ _ S2 fun J1 s u H1 ⟨e, es⟩ S1 => ?_
    subst e es
    have e2 : u2 = .int k := S1.pop.dat
    obtain ⟨F, _, _, eu⟩ := S1.top
    have eu : u = .ref d := eu
    subst e2
    obtain ⟨F1, _, _, _, sv, hd, hs⟩ := S1.atom m
    have hg := DGet.k (k := (Sum.inl k : L2.Key)) hd
    rw [val_dOf] at hg
    refine ⟨d, _, eu, hg, ?_⟩
    have eb : (if k ∈ ks then some (sv k) else none).isSome = decide (k ∈ ks) := by split <;> simp [*]
    rw [eb]
    exact q J1 _ _ H1 ⟨rfl, _, rfl, rfl⟩ (S1.pop.pop.flat (d := .bl (decide (k ∈ ks))) rfl)
theorem ev_dnotin {k : Int} (ho : EvV J td δ (.ref d)) (hk : EvD J ty δ (.int k)) (m : dictD d ks g ∈ J) : EvD J (tDNotIn ty td) δ (.bl (!decide (k ∈ ks))) := fun F0 H0 τd σ τ H Q S q =>
  hk _ _ _ _ _ _ _ S fun J2 s2 u2 H2 ⟨e2, d2, es2, ed2⟩ S2 => by
    subst e2 es2 ed2
    refine ho _ _ _ _ _ _ _ S2 fun J1 s u H1 ⟨e, es⟩ S1 => ?_
    subst e es
    have e2 : u2 = .int k := S1.pop.dat
    obtain ⟨F, _, _, eu⟩ := S1.top
    have eu : u = .ref d := eu
    subst e2
    obtain ⟨F1, _, _, _, sv, hd, hs⟩ := S1.atom m
    have hg := DGet.k (k := (Sum.inl k : L2.Key)) hd
    rw [val_dOf] at hg
    refine ⟨d, _, eu, hg, ?_⟩
    have eb : (if k ∈ ks then some (sv k) else none).isSome = decide (k ∈ ks) := by split <;> simp [*]
    rw [eb]
    exact q J1 _ _ H1 ⟨rfl, _, rfl, rfl⟩ (S1.pop.pop.flat (d := .bl (!decide (k ∈ ks))) rfl)
/-- d[k] = e -/
theorem sg_dput {s t : List Atom} {k : Int} {e : Dt} (hv : EvD (s ++ dictD d ks g :: t) tv δ e) (ho : EvV (s ++ dictD d ks g :: t) td δ (.ref d)) (hk : EvD (s ++ dictD d ks g :: t) ty δ (.int k)) (hz : (addK ks k).length ≤ 8)
    (q : O.nx (s ++ dictD d (addK ks k) (upF g k e) :: t) δ) : SG (s ++ dictD d ks g :: t) (sDPut td ty tv) δ O := fun F0 H0 τd σ τ H D S a b c =>
  hv _ _ _ _ _ _ _ S fun J1 s1 v H1 ⟨e1, d1, es1, ed1⟩ S1 => by
    subst e1 es1 ed1
    refine ho _ _ _ _ _ _ _ S1 fun J2 s2 u H2 ⟨e2, es2⟩ S2 => ?_
    subst e2 es2
    refine hk _ _ _ _ _ _ _ S2 fun J3 s3 u3 H3 ⟨e3, d3, es3, ed3⟩ S3 => ?_
    subst e3 es3 ed3
    have e3 : u3 = .int k := S3.dat
    obtain ⟨F, _, _, eu⟩ := S3.pop.top
    have eu : u = .ref d := eu
    have hvd : IsD H3 d1 v := S3.pop.pop.dat
    subst e3
    obtain ⟨F1, _, hn, hl, sv, hd, hs⟩ := S3.atom (A := dictD d ks g) (by simp)
    refine ⟨d, _, eu, DPut.k (k := (Sum.inl k : L2.Key)) hd (by rw [dOf_len]; exact Nat.lt_of_le_of_lt hl (by decide)), a _ δ σ _ q ?_⟩
    rw [put_dOf]
    refine S3.pop.pop.pop.putAt fun F2 ⟨ef, _, _, sv2, hd2, hs2⟩ => ⟨(ef d).mpr rfl, ef, addK_nodup hn, hz, upF sv k v, upd_same, fun j hj => ?_⟩
    have tk : Tk H3 (upd H3 d (.dK (dOf (addK ks k) (upF sv k v)))) := fun b xs hb => by
      rw [upd_ne (fun z => by rw [z, hd] at hb; cases hb)]
      exact hb
    refine IsD.tk tk _ _ ?_
    by_cases ej : j = k
    · subst ej
      rw [upF_same, upF_same]
      exact hvd
    · rw [upF_ne ej, upF_ne ej]
      exact hs j ((mem_addK.mp hj).resolve_right ej)
end
end LK

namespace LK
open PySem PySem.Spec PyProof.Rows L2
section
variable {J : List Atom} {δ : SE} {te tl td : TE} {K : PySem.W.Frag} {O : Outs} {tb u : TS} {g : TG} {ds : List Dt}
/-! ### loops -/
theorem sg_forL {J' : List Atom} {Iv : Nat → List Atom → SE → Prop} (hl : EvG J tl δ fun J1 s => J1 = J' ∧ s = .lst ds) (h0 : Iv 0 J' δ) (hs : ∀ (i : Nat) (d : Dt) (J1 : List Atom) (δ1 : SE), ds[i]? = some d → Iv i J1 δ1 → ∃ δ2, EvTg g (.dat d) δ1 δ2 ∧ SG J1 tb δ2 ⟨Iv (i + 1), O.rt, O.nx⟩)
    (hd : ∀ J1 δ1, Iv ds.length J1 δ1 → O.nx J1 δ1) : SG J (tFor (iList K tl) g tb) δ O := fun F0 H0 τd σ τ H D S a b c =>
  hl _ _ _ _ _ _ _ S fun J1 s v H1 ⟨e, es⟩ S1 => by
    subst e es
    obtain ⟨l, vs, rfl, hl1, hs1, S2⟩ := S1.fix
    refine ⟨l, rfl, ⟨vs, SqL.of hl1⟩, for_list (K := K) (a := l) (xs := vs) (fun i σ' H' => ∃ J2 δ2, Iv i J2 δ2 ∧ Sta J2 F0 H0 δ2 (.lsx l vs ds :: τd) σ' (.ref l :: τ) H') ⟨J1, δ, h0, S2⟩ (fun i σ' H' _ ⟨_, _, _, S3⟩ => SqL.of S3.lsx.1) ?_ ?_⟩
    · rintro i y σ' H' hi ⟨J2, δ2, iv, S3⟩
      have hlen := hs1.length
      have hi2 : i < ds.length := by rw [← hlen]; exact (List.getElem?_eq_some_iff.mp hi).1
      have hdi : ds[i]? = some ds[i] := List.getElem?_eq_getElem hi2
      obtain ⟨w, hw, hwd⟩ := S3.lsx.2.get hdi
      have ew : w = y := Option.some.inj (hw.symm.trans hi)
      subst ew
      obtain ⟨δ3, htg, hsg⟩ := hs i _ J2 δ2 hdi iv
      refine htg J2 F0 H0 _ σ' _ w H' _ (S3.push fun F _ _ _ _ => hwd) fun σ2 S4 => ?_
      exact hsg F0 H0 _ σ2 _ H' _ S4 (fun J3 δ4 σ3 H3 n S5 => ⟨J3, δ4, n, S5⟩) (fun J3 s v δ4 σ3 H3 r S5 => b J3 s v δ4 σ3 H3 r S5.pop2) fun J3 δ4 σ3 H3 n S5 => a J3 δ4 σ3 H3 n S5.pop
    · rintro σ' H' ⟨J2, δ2, iv, S3⟩
      rw [hs1.length] at iv
      exact a J2 δ2 σ' H' (hd _ _ iv) S3.pop
theorem Sta.pop3 {s s2 s3 : Sl} {v v2 v3 : V} {F0 : AS} {H0 H : Hp} {τd : List Sl} {σ : L2.St} {τ : List V} (S : Sta J F0 H0 δ (s :: s2 :: s3 :: τd) σ (v :: v2 :: v3 :: τ) H) : Sta J F0 H0 δ (s :: τd) σ (v :: τ) H := by
  obtain ⟨F, x, o, d, t⟩ := S.ex
  obtain ⟨w, r, e, h1, w2, r2, e2, h2, w3, r3, e3, h3, h4⟩ := t
  cases e
  cases e2
  cases e3
  exact ⟨F, x, o, d, v, τ, rfl, h1, h4⟩
theorem sg_forT {Iv : Nat → List Atom → SE → Prop} (hl : EvD J tl δ (.tup ds)) (h0 : Iv 0 J δ) (hs : ∀ (i : Nat) (d : Dt) (J1 : List Atom) (δ1 : SE), ds[i]? = some d → Iv i J1 δ1 → ∃ δ2, EvTg g (.dat d) δ1 δ2 ∧ SG J1 tb δ2 ⟨Iv (i + 1), O.rt, O.nx⟩)
    (hd : ∀ J1 δ1, Iv ds.length J1 δ1 → O.nx J1 δ1) : SG J (tFor (iTup K tl) g tb) δ O := fun F0 H0 τd σ τ H D S a b c =>
  hl _ _ _ _ _ _ _ S fun J1 s v H1 ⟨e, d0, es, ed⟩ S1 => by
    subst e es ed
    obtain ⟨l, vs, rfl, hl1, hs1⟩ := S1.dat
    have tup : ∀ {J2 : List Atom} {δ2 : SE} {σ' : L2.St} {H' : Hp}, Sta J2 F0 H0 δ2 (.dat (.tup ds) :: τd) σ' (.ref l :: τ) H' → ∃ vs', H' l = some (.tup vs') ∧ IsDs H' ds vs' := fun S => by
      obtain ⟨l', vs', e, h1, h2⟩ := S.dat
      cases e
      exact ⟨vs', h1, h2⟩
    refine ⟨l, rfl, ⟨vs, SqT.of hl1⟩, for_tup (K := K) (a := l) (xs := vs) (fun i σ' H' => ∃ J2 δ2, Iv i J2 δ2 ∧ Tk H1 H' ∧ Sta J2 F0 H0 δ2 (.dat (.tup ds) :: τd) σ' (.ref l :: τ) H') ⟨J1, δ, h0, Tk.refl H1, S1⟩ (fun i σ' H' _ ⟨_, _, _, tk, S3⟩ => SqT.of (tk _ _ hl1)) ?_ ?_⟩
    · rintro i y σ' H' hi ⟨J2, δ2, iv, tk, S3⟩
      have hi2 : i < ds.length := by rw [← hs1.length]; exact (List.getElem?_eq_some_iff.mp hi).1
      have hdi : ds[i]? = some ds[i] := List.getElem?_eq_getElem hi2
      obtain ⟨w, hw, hwd⟩ := (IsDs.tk tk _ _ hs1).get hdi
      have ew : w = y := Option.some.inj (hw.symm.trans hi)
      subst ew
      obtain ⟨δ3, htg, hsg⟩ := hs i _ J2 δ2 hdi iv
      obtain ⟨F, x, o, d, t, S3'⟩ := S3.open
      refine htg J2 F H' _ σ' _ w H' _ (S3'.push fun F _ _ _ _ => hwd) fun σ2 S4 => ?_
      have back : ∀ {J3 : List Atom} {δ4 : SE} {ts : List Sl} {σ3 : L2.St} {tv : List V} {H3 : Hp}, Sta J3 F H' δ4 ts σ3 tv H3 → Tk H1 H3 ∧ Sta J3 F0 H0 δ4 ts σ3 tv H3 := fun S => by
        obtain ⟨F3, x3, o3, d3, t3⟩ := S.ex
        exact ⟨tk.trans x3.tup, F3, x.trans x3, o3, d3, t3⟩
      exact hsg F H' _ σ2 _ H' _ S4 (fun J3 δ4 σ3 H3 n S5 => ⟨J3, δ4, n, (back S5).1, (back S5).2⟩) (fun J3 s v δ4 σ3 H3 r S5 => b J3 s v δ4 σ3 H3 r (back S5).2.pop2) fun J3 δ4 σ3 H3 n S5 => a J3 δ4 σ3 H3 n (back S5).2.pop
    · rintro σ' H' ⟨J2, δ2, iv, tk, S3⟩
      rw [hs1.length] at iv
      exact a J2 δ2 σ' H' (hd _ _ iv) S3.pop
theorem sg_forR1 {Iv : Nat → List Atom → SE → Prop} {ta : TA} {n : Nat} (hl : EvA J ta δ fun ss => ss = [.dat (.int n)]) (hn : n ≤ 100000) (h0 : Iv 0 J δ) (hs : ∀ (i : Nat) (J1 : List Atom) (δ1 : SE), i < n → Iv i J1 δ1 → ∃ δ2, EvTg g (.dat (.int i)) δ1 δ2 ∧ SG J1 tb δ2 ⟨Iv (i + 1), O.rt, O.nx⟩)
    (hd : ∀ J1 δ1, Iv n J1 δ1 → O.nx J1 δ1) : SG J (tFor (iRng1 ta) g tb) δ O := fun F0 H0 τd σ τ H D S a b c =>
  hl _ _ _ _ _ _ _ S fun ss vs H1 es l S1 => by
    subst es
    obtain ⟨F, t⟩ := S1.args l
    obtain ⟨v, r, rfl, e1, e2⟩ := t
    have e1 : v = .int n := e1
    have e2 : r = [] := e2
    subst e1 e2
    refine ⟨n, rfl, by omega, by omega, for_range (lo := 0) (n := (n : Int).toNat) (fun i σ' H' => ∃ J2 δ2, Iv i J2 δ2 ∧ Sta J2 F0 H0 δ2 τd σ' τ H') ⟨J, δ, h0, S1.drop (ss := [.dat (.int n)]) (vs := [.int n]) rfl⟩ ?_ ?_⟩
    · rintro i σ' H' hi ⟨J2, δ2, iv, S3⟩
      obtain ⟨δ3, htg, hsg⟩ := hs i J2 δ2 (by omega) iv
      rw [show (0 : Int) + (i : Int) = (i : Int) by omega]
      refine htg J2 F0 H0 _ σ' _ (.int i) H' _ (S3.flat (d := .int i) rfl) fun σ2 S4 => ?_
      exact hsg F0 H0 _ σ2 _ H' _ S4 (fun J3 δ4 σ3 H3 n S5 => ⟨J3, δ4, n, S5⟩) (fun J3 s v δ4 σ3 H3 r S5 => b J3 s v δ4 σ3 H3 r S5) fun J3 δ4 σ3 H3 n S5 => a J3 δ4 σ3 H3 n S5
    · rintro σ' H' ⟨J2, δ2, iv, S3⟩
      exact a J2 δ2 σ' H' (hd _ _ (by rw [show (n : Int).toNat = n by omega] at iv; exact iv)) S3
theorem sg_forR2 {Iv : Nat → List Atom → SE → Prop} {ta : TA} {lo n : Nat} (hl : EvA J ta δ fun ss => ss = [.dat (.int lo), .dat (.int (lo + n))]) (hn : lo + n ≤ 100000) (h0 : Iv 0 J δ)
    (hs : ∀ (i : Nat) (J1 : List Atom) (δ1 : SE), i < n → Iv i J1 δ1 → ∃ δ2, EvTg g (.dat (.int (lo + i))) δ1 δ2 ∧ SG J1 tb δ2 ⟨Iv (i + 1), O.rt, O.nx⟩)
    (hd : ∀ J1 δ1, Iv n J1 δ1 → O.nx J1 δ1) : SG J (tFor (iRng2 ta) g tb) δ O := fun F0 H0 τd σ τ H D S a b c =>
  hl _ _ _ _ _ _ _ S fun ss vs H1 es l S1 => by
    subst es
    obtain ⟨F, t⟩ := S1.args l
    obtain ⟨v, r, rfl, e1, v2, r2, e3, e4, e2⟩ := t
    have e1 : v = .int lo := e1
    have e4 : v2 = .int (lo + n) := e4
    have e2 : r2 = [] := e2
    subst e1 e4 e2 e3
    refine ⟨lo, lo + n, rfl, ⟨by omega, by omega, by omega, by omega⟩, for_range (lo := lo) (n := ((lo : Int) + n - lo).toNat) (fun i σ' H' => ∃ J2 δ2, Iv i J2 δ2 ∧ Sta J2 F0 H0 δ2 τd σ' τ H') ⟨J, δ, h0, S1.drop (ss := [.dat (.int lo), .dat (.int (lo + n))]) (vs := [.int lo, .int (lo + n)]) rfl⟩ ?_ ?_⟩
    · rintro i σ' H' hi ⟨J2, δ2, iv, S3⟩
      obtain ⟨δ3, htg, hsg⟩ := hs i J2 δ2 (by omega) iv
      refine htg J2 F0 H0 _ σ' _ (.int (lo + i)) H' _ (S3.flat (d := .int (lo + i)) rfl) fun σ2 S4 => ?_
      exact hsg F0 H0 _ σ2 _ H' _ S4 (fun J3 δ4 σ3 H3 n S5 => ⟨J3, δ4, n, S5⟩) (fun J3 s v δ4 σ3 H3 r S5 => b J3 s v δ4 σ3 H3 r S5) fun J3 δ4 σ3 H3 n S5 => a J3 δ4 σ3 H3 n S5
    · rintro σ' H' ⟨J2, δ2, iv, S3⟩
      exact a J2 δ2 σ' H' (hd _ _ (by rw [show ((lo : Int) + n - lo).toNat = n by omega] at iv; exact iv)) S3
/-- for x, y in zip(xs, ys), two lists of one length that stand still -/
theorem sg_forZ {Iv : Nat → List Atom → SE → Prop} {ta : TA} {es : List Dt} (hl : EvA J ta δ fun ss => ss = [.lst ds, .lst es]) (hn : ds.length = es.length) (h0 : Iv 0 J δ)
    (hs : ∀ (i : Nat) (d e : Dt) (J1 : List Atom) (δ1 : SE), ds[i]? = some d → es[i]? = some e → Iv i J1 δ1 → ∃ δ2, EvTg g (.dat (.tup [d, e])) δ1 δ2 ∧ SG J1 tb δ2 ⟨Iv (i + 1), O.rt, O.nx⟩)
    (hd : ∀ J1 δ1, Iv ds.length J1 δ1 → O.nx J1 δ1) : SG J (tFor (iZip K ta) g tb) δ O := fun F0 H0 τd σ τ H D S a b c =>
  hl _ _ _ _ _ _ _ S fun ss vs H1 ess l S1 => by
    subst ess
    match vs, l, S1 with
    | [v1, v2], _, S1 =>
      obtain ⟨a1, xs, rfl, ha, hxs, S2⟩ := S1.fix
      have S3 : Sta J F0 H0 δ (.lst es :: .lsx a1 xs ds :: τd) σ (v2 :: .ref a1 :: τ) H1 := by
        obtain ⟨F, x, o, d, w, r, e, h1, w2, r2, e2, h2, h3⟩ := S2.ex
        cases e
        cases e2
        exact ⟨F, x, o, d, v2, _, rfl, h2, _, τ, rfl, h1, h3⟩
      obtain ⟨a2, ys, rfl, hb, hys, S4⟩ := S3.fix
      have get2 : ∀ {J2 : List Atom} {δ2 : SE} {σ' : L2.St} {H' : Hp}, Sta J2 F0 H0 δ2 (.lsx a2 ys es :: .lsx a1 xs ds :: τd) σ' (.ref a2 :: .ref a1 :: τ) H' → (H' a1 = some (.lst xs) ∧ IsDs H' ds xs) ∧ H' a2 = some (.lst ys) ∧ IsDs H' es ys := fun S => ⟨S.pop.lsx, S.lsx⟩
      refine ⟨a1, a2, xs, ys, rfl, SqL.of ha, SqL.of hb, RZ.for_zipL (K := K) (a := a1) (b := a2) (xs := xs) (ys := ys) (by rw [hxs.length, hys.length, hn]) (fun i σ' H' => ∃ J2 δ2, Iv i J2 δ2 ∧ Sta J2 F0 H0 δ2 (.lsx a2 ys es :: .lsx a1 xs ds :: τd) σ' (.ref a2 :: .ref a1 :: τ) H') ⟨J, δ, h0, S4⟩
        (fun i σ' H' ⟨_, _, _, S5⟩ => ⟨SqL.of (get2 S5).1.1, SqL.of (get2 S5).2.1⟩) ?_ ?_⟩
      · rintro i x y T σ' H' hi hj ⟨J2, δ2, iv, S5⟩ hT
        obtain ⟨⟨_, hx⟩, _, hy⟩ := get2 S5
        have hi2 : i < ds.length := by rw [← hx.length]; exact (List.getElem?_eq_some_iff.mp hi).1
        have hi3 : i < es.length := by omega
        have hdi : ds[i]? = some ds[i] := List.getElem?_eq_getElem hi2
        have hei : es[i]? = some es[i] := List.getElem?_eq_getElem hi3
        obtain ⟨w, hw, hwd⟩ := hx.get hdi
        obtain ⟨w2, hw2, hwd2⟩ := hy.get hei
        obtain rfl : w = x := Option.some.inj (hw.symm.trans hi)
        obtain rfl : w2 = y := Option.some.inj (hw2.symm.trans hj)
        obtain ⟨δ3, htg, hsg⟩ := hs i _ _ J2 δ2 hdi hei iv
        have S6 := S5.newTup (ds := [ds[i], es[i]]) hT ⟨w, [w2], rfl, hwd, w2, [], rfl, hwd2, rfl⟩
        refine htg J2 F0 H0 _ σ' _ (.ref T) _ _ S6 fun σ2 S7 => ?_
        exact hsg F0 H0 _ σ2 _ _ _ S7 (fun J3 δ4 σ3 H3 n S8 => ⟨J3, δ4, n, S8⟩) (fun J3 s v δ4 σ3 H3 r S8 => b J3 s v δ4 σ3 H3 r S8.pop3) fun J3 δ4 σ3 H3 n S8 => a J3 δ4 σ3 H3 n S8.pop.pop
      · rintro σ' H' ⟨J2, δ2, iv, S5⟩
        rw [(get2 S5).1.2.length] at iv
        exact a J2 δ2 σ' H' (hd _ _ iv) S5.pop.pop
/-! ### comprehensions -/
/-- one turn: the item v at the slot j, the test, the item made -/
theorem lc_turn {tt : TT} {j : Nat} {D : Addr} {F0 : AS} {H0 H : Hp} {τd : List Sl} {σ : L2.St} {τ : List V} {acc : List Dt} {d : Dt} {v : V} {Nx : Hp → Prop} {Pb : Bool → Prop} {Pe : Dt → Prop}
    (S : Sta (lstA D acc :: J) F0 H0 δ τd σ τ H) (hv : IsD H d v) (hz : acc.length < 100000) (ht : EvT (lstA D acc :: J) tt (δ.set j (some (.dat d))) Pb) (he : Pb true → EvQ (lstA D acc :: J) te (δ.set j (some (.dat d))) Pe)
    (hn : Pb false → ∀ H', Sta (lstA D acc :: J) F0 H0 δ τd σ τ H' → Nx H') (hy : Pb true → ∀ e H', Pe e → Sta (lstA D (acc ++ [e]) :: J) F0 H0 δ τd σ τ H' → Nx H') :
    gName j v (wipe σ [j]) H fun σ2 H2 => wipe σ2 [j] = wipe σ [j] ∧ tt σ2 H2 fun b H3 => if b = true then te σ2 H3 fun y H4 => ∃ acc', H4 D = some (.lst acc') ∧ acc'.length < sizeLine ∧ Nx (upd H4 D (.lst (acc' ++ [y]))) else Nx H3 := by
  obtain ⟨F, x, o, dd, t, S'⟩ := S.open
  have e1 : (wipe σ [j]).set j (some v) = σ.set j (some v) := List.set_set ..
  have e2 : wipe (σ.set j (some v)) [j] = wipe σ [j] := List.set_set ..
  unfold gName
  rw [e1]
  refine ⟨e2, ?_⟩
  have Sb : Sta (lstA D acc :: J) F H (δ.set j (some (.dat d))) [] (σ.set j (some v)) [] H := ⟨F, Fr.refl F H, o, dd.set (s := .dat d) hv j, rfl⟩
  refine ht F H [] _ [] H _ Sb fun b H3 pb S3 => ?_
  obtain ⟨F3, x3, o3, _, _⟩ := S3.ex
  have back3 : Sta (lstA D acc :: J) F0 H0 δ τd σ τ H3 := ⟨F3, x.trans x3, o3, dd.fr x3, t.fr x3⟩
  cases b with
  | false =>
    show Nx H3
    exact hn pb H3 back3
  | true =>
    show te _ H3 _
    refine he pb F H [] _ [] H3 _ S3 fun J4 s y H4 ⟨e4, d4, es4, p4⟩ S4 => ?_
    subst e4 es4
    obtain ⟨F4, x4, o4, hy4⟩ := S4.top
    have hy4 : IsD H4 d4 y := hy4
    have S5 : Sta (lstA D acc :: J) F0 H0 δ τd σ τ H4 := ⟨F4, x.trans x4, o4, dd.fr x4, t.fr x4⟩
    obtain ⟨F1, ef, vs, hD, hvs⟩ := S5.atom (A := lstA D acc) (List.mem_cons_self ..)
    refine ⟨vs, hD, by rw [hvs.length]; exact Nat.lt_of_lt_of_le hz (by decide), hy pb d4 _ p4 (S5.put fun F2 ⟨ef2, vs2, h2, h3⟩ => ⟨(ef2 D).mpr rfl, ef2, vs ++ [y], upd_same, ?_⟩)⟩
    have tk : Tk H4 (upd H4 D (.lst (vs ++ [y]))) := fun b xs hb => by
      rw [upd_ne (fun z => by rw [z, hD] at hb; cases hb)]
      exact hb
    exact (IsDs.tk tk _ _ hvs).append ⟨y, [], rfl, IsD.tk tk _ _ hy4, rfl⟩
/-- [e(x) for x in xs if f(x)], what is made told by an invariant of the turn -/
theorem ev_lcLQ {tt : TT} {j : Nat} {Ac : Nat → List Dt → Prop} {Pb : Nat → Dt → Bool → Prop} {Pe : Nat → Dt → Dt → Prop} (hl : EvL J tl δ ds) (hz : ds.length ≤ 40000) (h0 : Ac 0 [])
    (ht : ∀ A i d, ds[i]? = some d → EvT (A :: J) tt (δ.set j (some (.dat d))) (Pb i d)) (he : ∀ A i d, ds[i]? = some d → Pb i d true → EvQ (A :: J) te (δ.set j (some (.dat d))) (Pe i d))
    (hn : ∀ i d acc, ds[i]? = some d → Pb i d false → Ac i acc → Ac (i + 1) acc) (hy : ∀ i d acc e, ds[i]? = some d → Pb i d true → Pe i d e → Ac i acc → Ac (i + 1) (acc ++ [e])) :
    EvP J (tLc (iList K tl) (gName j) tt te [j]) δ fun s => ∃ es, s = .lst es ∧ Ac ds.length es := fun F0 H0 τd σ τ H Q S k =>
  hl _ _ _ _ _ _ _ S fun J1 s v H1 ⟨e, es⟩ S1 => by
    subst e es
    obtain ⟨l, vs, rfl, hl1, hs1, S2⟩ := S1.fix
    refine ⟨l, rfl, ⟨vs, SqL.of hl1⟩, fun D hD => ?_⟩
    refine lc_list (K := K) (a := l) (xs := vs) (fun i H' => ∃ acc, Ac i acc ∧ acc.length ≤ i ∧ Sta (lstA D acc :: J1) F0 H0 δ (.lsx l vs ds :: τd) σ (.ref l :: τ) H') ⟨[], h0, Nat.le_refl _, S2.newA hD rfl⟩ (fun i H' _ ⟨_, _, _, S3⟩ => SqL.of S3.lsx.1) ?_ ?_
    · rintro i y H' hi ⟨acc, ac, la, S3⟩
      have hi2 : i < ds.length := by rw [← hs1.length]; exact (List.getElem?_eq_some_iff.mp hi).1
      have hdi : ds[i]? = some ds[i] := List.getElem?_eq_getElem hi2
      obtain ⟨w, hw, hwd⟩ := S3.lsx.2.get hdi
      obtain rfl : w = y := Option.some.inj (hw.symm.trans hi)
      exact lc_turn S3 hwd (by omega) (ht _ i _ hdi) (he _ i _ hdi) (fun pb H4 S4 => ⟨acc, hn i _ acc hdi pb ac, by omega, S4⟩) fun pb e H4 pe S4 => ⟨acc ++ [e], hy i _ acc e hdi pb pe ac, by rw [List.length_append, List.length_singleton]; omega, S4⟩
    · rintro H' ⟨acc, ac, la, S3⟩
      rw [hs1.length] at ac
      obtain ⟨F, x, ⟨F1, F2, e, dj, h1, h2⟩, d, w, r, e2, hw, t⟩ := S3.ex
      cases e2
      exact k J1 _ _ H' ⟨rfl, acc, rfl, ac⟩ ((S3.freeL).pop2)
/-- the same without a state: filter, then map -/
theorem ev_lcL {tt : TT} {j : Nat} {f : Dt → Bool} {m : Dt → Dt} (hl : EvL J tl δ ds) (hz : ds.length ≤ 40000) (ht : ∀ A d, d ∈ ds → EvB (A :: J) tt (δ.set j (some (.dat d))) (f d)) (he : ∀ A d, d ∈ ds → f d = true → EvD (A :: J) te (δ.set j (some (.dat d))) (m d)) :
    EvL J (tLc (iList K tl) (gName j) tt te [j]) δ ((ds.filter f).map m) :=
  (ev_lcLQ (Ac := fun i acc => acc = ((ds.take i).filter f).map m) (Pb := fun i d b => b = f d) (Pe := fun i d e => e = m d) hl hz rfl (fun A i d h => ht A d (List.mem_of_getElem? h)) (fun A i d h b => he A d (List.mem_of_getElem? h) b.symm)
    (fun i d acc h b e => by rw [e, List.take_add_one, h, List.filter_append]; simp [← b]) (fun i d acc e h b pe ea => by rw [ea, pe, List.take_add_one, h, List.filter_append]; simp [← b])).imp fun _ s ⟨e, es, e2, e3⟩ => ⟨e, by rw [e2, e3, List.take_length]⟩
theorem et_yes : EvB J tYes δ true := fun F0 H0 τd σ τ H Q S k => k true H rfl S
/-- over range(n) -/
theorem ev_lcR {tt : TT} {j : Nat} {ta : TA} {n : Nat} {Ac : Nat → List Dt → Prop} {Pb : Nat → Bool → Prop} {Pe : Nat → Dt → Prop} (hl : EvA J ta δ fun ss => ss = [.dat (.int n)]) (hz : n ≤ 40000) (h0 : Ac 0 [])
    (ht : ∀ A (i : Nat), i < n → EvT (A :: J) tt (δ.set j (some (.dat (.int i)))) (Pb i)) (he : ∀ A (i : Nat), i < n → Pb i true → EvQ (A :: J) te (δ.set j (some (.dat (.int i)))) (Pe i))
    (hn : ∀ i acc, i < n → Pb i false → Ac i acc → Ac (i + 1) acc) (hy : ∀ i acc e, i < n → Pb i true → Pe i e → Ac i acc → Ac (i + 1) (acc ++ [e])) :
    EvP J (tLc (iRng1 ta) (gName j) tt te [j]) δ fun s => ∃ es, s = .lst es ∧ Ac n es := fun F0 H0 τd σ τ H Q S k =>
  hl _ _ _ _ _ _ _ S fun ss vs H1 es l S1 => by
    subst es
    obtain ⟨F, t⟩ := S1.args l
    obtain ⟨v, r, rfl, e1, e2⟩ := t
    have e1 : v = .int n := e1
    have e2 : r = [] := e2
    subst e1 e2
    have S2 := S1.drop (ss := [.dat (.int n)]) (vs := [.int n]) rfl
    refine ⟨n, rfl, by omega, by omega, fun D hD => ?_⟩
    refine lc_range (lo := 0) (n := (n : Int).toNat) (fun i H' => ∃ acc, Ac i acc ∧ acc.length ≤ i ∧ Sta (lstA D acc :: J) F0 H0 δ τd σ τ H') ⟨[], h0, Nat.le_refl _, S2.newA hD rfl⟩ ?_ ?_
    · rintro i H' hi ⟨acc, ac, la, S3⟩
      have hi2 : i < n := by omega
      rw [show (0 : Int) + (i : Int) = (i : Int) by omega]
      exact lc_turn S3 (d := .int i) rfl (by omega) (ht _ i hi2) (he _ i hi2) (fun pb H4 S4 => ⟨acc, hn i acc hi2 pb ac, by omega, S4⟩) fun pb e H4 pe S4 => ⟨acc ++ [e], hy i acc e hi2 pb pe ac, by rw [List.length_append, List.length_singleton]; omega, S4⟩
    · rintro H' ⟨acc, ac, la, S3⟩
      rw [show (n : Int).toNat = n by omega] at ac
      exact k J _ _ H' ⟨rfl, acc, rfl, ac⟩ S3.freeL
end
end LK

namespace LK
open PySem PySem.Spec PyProof.Rows L2
section
variable {J : List Atom} {δ : SE} {te ta tb td tl tv : TE} {K : PySem.W.Frag} {O : Outs} {u : TS} {ds es : List Dt}
/-! ### built-ins over lists and tuples of data -/
abbrev rLenC (K : PySem.W.Frag) : List V → Hp → VK → Prop := fun xs H Q => ∃ p ys, xs = [.ref p] ∧ (SqL K H p ys ∨ SqT K H p ys) ∧ Q (.int ys.length) H
abbrev rListC (K : PySem.W.Frag) : List V → Hp → VK → Prop := fun xs H Q => ∃ p ys, xs = [.ref p] ∧ (SqL K H p ys ∨ SqT K H p ys) ∧ ∀ l, H l = none → Q (.ref l) (upd H l (.lst ys))
abbrev rTupC (K : PySem.W.Frag) : List V → Hp → VK → Prop := fun xs H Q => ∃ p ys, xs = [.ref p] ∧ ((SqL K H p ys ∧ ∀ l, H l = none → Q (.ref l) (upd H l (.tup ys))) ∨ (SqT K H p ys ∧ Q (.ref p) H))
theorem ev_lenL (h : EvL J te δ ds) : EvD J (tCB (rLenC K) (tCons te tNil)) δ (.int ds.length) := fun F0 H0 τd σ τ H Q S k => h _ _ _ _ _ _ _ S fun J1 s v H1 ⟨e, es⟩ S1 => by
  subst e es
  obtain ⟨l, vs, rfl, hl, hs⟩ := S1.lst
  refine ⟨l, vs, rfl, .inl (SqL.of hl), ?_⟩
  rw [hs.length]
  exact k J1 _ _ H1 ⟨rfl, _, rfl, rfl⟩ (S1.pop.flat (d := .int ds.length) rfl)
theorem ev_lenT (h : EvD J te δ (.tup ds)) : EvD J (tCB (rLenC K) (tCons te tNil)) δ (.int ds.length) := fun F0 H0 τd σ τ H Q S k => h _ _ _ _ _ _ _ S fun J1 s v H1 ⟨e, d, es, ed⟩ S1 => by
  subst e es ed
  obtain ⟨l, vs, rfl, hl, hs⟩ := S1.dat
  refine ⟨l, vs, rfl, .inr (SqT.of hl), ?_⟩
  rw [hs.length]
  exact k J1 _ _ H1 ⟨rfl, _, rfl, rfl⟩ (S1.pop.flat (d := .int ds.length) rfl)
theorem ev_listT (h : EvD J te δ (.tup ds)) : EvL J (tCB (rListC K) (tCons te tNil)) δ ds := fun F0 H0 τd σ τ H Q S k => h _ _ _ _ _ _ _ S fun J1 s v H1 ⟨e, d, es, ed⟩ S1 => by
  subst e es ed
  obtain ⟨l, vs, rfl, hl, hs⟩ := S1.dat
  exact ⟨l, vs, rfl, .inr (SqT.of hl), fun p hp => k J1 _ _ _ ⟨rfl, rfl⟩ (S1.pop.newLst hp hs)⟩
theorem ev_tupLQ {P : List Dt → Prop} (h : EvP J te δ fun s => ∃ ds, s = .lst ds ∧ P ds) : EvQ J (tCB (rTupC K) (tCons te tNil)) δ fun d => ∃ ds, d = .tup ds ∧ P ds := fun F0 H0 τd σ τ H Q S k => h _ _ _ _ _ _ _ S fun J1 s v H1 ⟨e, ds, es, p⟩ S1 => by
  subst e es
  obtain ⟨l, vs, rfl, hl, hs⟩ := S1.lst
  exact ⟨l, vs, rfl, .inl ⟨SqL.of hl, fun p' hp => k J1 _ _ _ ⟨rfl, _, rfl, ds, rfl, p⟩ (S1.pop.newTup hp hs)⟩⟩
theorem ev_tupL (h : EvL J te δ ds) : EvD J (tCB (rTupC K) (tCons te tNil)) δ (.tup ds) :=
  EvQ.imp (ev_tupLQ (P := fun l => l = ds) (EvG.imp h fun _ s ⟨e, es⟩ => ⟨e, ds, es, rfl⟩)) fun d ⟨l, e, el⟩ => by rw [e, el]
theorem ev_revL (h : EvL J te δ ds) : EvL J (tRevL K te) δ ds.reverse := fun F0 H0 τd σ τ H Q S k => h _ _ _ _ _ _ _ S fun J1 s v H1 ⟨e, es⟩ S1 => by
  subst e es
  obtain ⟨l, vs, rfl, hl, hs⟩ := S1.lst
  exact ⟨l, vs, rfl, SqL.of hl, fun p hp => k J1 _ _ _ ⟨rfl, rfl⟩ (S1.pop.newLst hp hs.reverse)⟩
theorem ev_catL (ha : EvL J ta δ ds) (hb : EvL J tb δ es) (hz : ds.length + es.length ≤ 100000) : EvL J (tOp rCat ta tb) δ (ds ++ es) := fun F0 H0 τd σ τ H Q S k => ha _ _ _ _ _ _ _ S fun J1 s v H1 ⟨e, es1⟩ S1 => by
  subst e es1
  refine hb _ _ _ _ _ _ _ S1 fun J2 s2 v2 H2 ⟨e2, es2⟩ S2 => ?_
  subst e2 es2
  obtain ⟨l, vs, rfl, hl, hs⟩ := S2.pop.lst
  obtain ⟨l2, vs2, rfl, hl2, hs2⟩ := S2.lst
  exact ⟨l, l2, vs, vs2, rfl, rfl, hl, hl2, by rw [hs.length, hs2.length]; exact Nat.le_trans hz (by decide), fun p hp => k J2 _ _ _ ⟨rfl, rfl⟩ (S2.pop.pop.newLst hp (hs.append hs2))⟩
/-- sorted(set([ints])) -/
theorem ev_sortedSet {w : World} {ns : List Int} (h : EvL J te δ (ns.map Dt.int)) (hz : ns.length < 64) : EvL J (tCB (rSortedSet w) (tCons (tCB (rSetIts K w) (tCons te tNil)) tNil)) δ ((ascI ns).map Dt.int) := fun F0 H0 τd σ τ H Q S k => h _ _ _ _ _ _ _ S fun J1 s v H1 ⟨e, es⟩ S1 => by
  subst e es
  obtain ⟨l, vs, rfl, hl, hs⟩ := S1.lst
  have ev : vs = ns.map V.int := hs.ints
  subst ev
  refine ⟨l, ns, rfl, SqL.of hl, by omega, fun p n hp hn => ⟨p, _, n, rfl, upd_same, by omega, fun ms q hm hmem _ hq => ?_⟩⟩
  have e : ms = ascI ns := asc_unique hm (asc_ascI ns) fun k => (hmem k).trans (by rw [decide_eq_true_iff, mem_ascI])
  subst e
  have S2 : Sta J1 F0 H0 δ (.any :: τd) σ (.ref p :: τ) _ := S1.pop.new (o := SetO w p (fun j => decide (j ∈ ns)) n) hp fun _ _ _ => trivial
  exact k J1 _ _ _ ⟨rfl, rfl⟩ (S2.pop.newLst hq (IsDs.of_ints _))
/-- sorted(a dict with int keys) -/
theorem ev_sortedD {d : Addr} {ks : List Int} {g : Int → Dt} {r : List V → Hp → VK → Prop} (ho : EvV J te δ (.ref d)) (m : dictD d ks g ∈ J)
    (hr : ∀ (a : Addr) (kvs : List (L2.Key × V)) (is : List Int) (H : Hp) (Q : VK), Rd H a (.dK kvs) → kvs.map (·.1) = is.map Sum.inl → is.length < 64 → (∀ (ys : List Int) (p : Addr), ys.Perm is → ys.Pairwise (· ≤ ·) → H p = none → Q (.ref p) (upd H p (.lst (ys.map V.int)))) → r [.ref a] H Q) :
    EvL J (tCB r (tCons te tNil)) δ ((ascI ks).map Dt.int) := fun F0 H0 τd σ τ H Q S k => ho _ _ _ _ _ _ _ S fun J1 s v H1 ⟨e, es⟩ S1 => by
  subst e es
  obtain ⟨F, _, _, ev⟩ := S1.top
  have ev : v = .ref d := ev
  subst ev
  obtain ⟨F1, _, hn, hl, sv, hd, hs⟩ := S1.atom m
  refine hr d _ ks H1 Q (Rd.of hd) (dOf_keys ks sv) (by omega) fun ys p hp hs hq => ?_
  rw [asc_perm hp hn hs]
  exact k J1 _ _ _ ⟨rfl, rfl⟩ (S1.pop.newLst hq (IsDs.of_ints _))
/-- not d -/
theorem et_truD {d : Addr} {ks : List Int} {g : Int → Dt} (ho : EvV J te δ (.ref d)) (m : dictD d ks g ∈ J) : EvB J (fun σ H Q => te σ H fun x H' => ∃ k, TruV K x H' k ∧ Q k H') δ (!ks.isEmpty) := fun F0 H0 τd σ τ H Q S k => ho _ _ _ _ _ _ _ S fun J1 s v H1 ⟨e, es⟩ S1 => by
  subst e es
  obtain ⟨F, _, _, ev⟩ := S1.top
  have ev : v = .ref d := ev
  subst ev
  obtain ⟨F1, _, hn, hl, sv, hd, hs⟩ := S1.atom m
  refine ⟨!ks.isEmpty, .inr (.inr ⟨_, hd, ?_⟩), k _ H1 rfl S1.pop⟩
  cases ks <;> rfl
/-! ### lists that are owned -/
theorem ev_ixA {l : Addr} {P : Int → Prop} {Pd : Dt → Prop} (ha : EvV J ta δ (.ref l)) (m : lstA l ds ∈ J) (hb : EvI J tb δ P) (h : ∀ i, P i → ∃ d, atI ds i = some d ∧ Pd d) : EvQ J (tOp (rIxL K) ta tb) δ Pd := fun F0 H0 τd σ τ H Q S k => ha _ _ _ _ _ _ _ S fun J1 s v H1 ⟨e, es⟩ S1 => by
  subst e es
  refine hb _ _ _ _ _ _ _ S1 fun J2 s2 v2 H2 ⟨e2, d2, es2, i, ei, hi⟩ S2 => ?_
  subst e2 es2 ei
  have ev2 : v2 = .int i := S2.dat
  obtain ⟨F, _, _, ev⟩ := S2.pop.top
  have ev : v = .ref l := ev
  obtain ⟨F1, _, vs, hl, hs⟩ := S2.atom m
  obtain ⟨d, hd, pd⟩ := h i hi
  obtain ⟨w, hw, iw⟩ := isDs_ixN hs hd
  exact ⟨l, vs, i, w, ev, ev2, SqL.of hl, hw, k J2 _ w H2 ⟨rfl, d, rfl, pd⟩ (S2.pop.pop.push fun F _ _ _ _ => iw)⟩
theorem et_truA {l : Addr} (h : EvV J te δ (.ref l)) (m : lstA l ds ∈ J) : EvB J (fun σ H Q => te σ H fun x H' => ∃ k, TruV K x H' k ∧ Q k H') δ (!ds.isEmpty) := fun F0 H0 τd σ τ H Q S k => h _ _ _ _ _ _ _ S fun J1 s v H1 ⟨e, es⟩ S1 => by
  subst e es
  obtain ⟨F, _, _, ev⟩ := S1.top
  have ev : v = .ref l := ev
  subst ev
  obtain ⟨F1, _, vs, hl, hs⟩ := S1.atom m
  refine ⟨!ds.isEmpty, .inl ⟨vs, SqL.of hl, ?_⟩, k _ H1 rfl S1.pop⟩
  have el := hs.length
  cases ds <;> cases vs <;> first | rfl | (simp at el)
theorem ev_lenA {l : Addr} (h : EvV J te δ (.ref l)) (m : lstA l ds ∈ J) : EvD J (tCB (rLenC K) (tCons te tNil)) δ (.int ds.length) := fun F0 H0 τd σ τ H Q S k => h _ _ _ _ _ _ _ S fun J1 s v H1 ⟨e, es⟩ S1 => by
  subst e es
  obtain ⟨F, _, _, ev⟩ := S1.top
  have ev : v = .ref l := ev
  subst ev
  obtain ⟨F1, _, vs, hl, hs⟩ := S1.atom m
  refine ⟨l, vs, rfl, .inl (SqL.of hl), ?_⟩
  rw [hs.length]
  exact k J1 _ _ H1 ⟨rfl, _, rfl, rfl⟩ (S1.pop.flat (d := .int ds.length) rfl)
theorem ev_listA {l : Addr} (h : EvV J te δ (.ref l)) (m : lstA l ds ∈ J) : EvL J (tCB (rListC K) (tCons te tNil)) δ ds := fun F0 H0 τd σ τ H Q S k => h _ _ _ _ _ _ _ S fun J1 s v H1 ⟨e, es⟩ S1 => by
  subst e es
  obtain ⟨F, _, _, ev⟩ := S1.top
  have ev : v = .ref l := ev
  subst ev
  obtain ⟨F1, _, vs, hl, hs⟩ := S1.atom m
  exact ⟨l, vs, rfl, .inl (SqL.of hl), fun p hp => k J1 _ _ _ ⟨rfl, rfl⟩ (S1.pop.newLst hp hs)⟩
theorem ev_tupA {l : Addr} (h : EvV J te δ (.ref l)) (m : lstA l ds ∈ J) : EvD J (tCB (rTupC K) (tCons te tNil)) δ (.tup ds) := fun F0 H0 τd σ τ H Q S k => h _ _ _ _ _ _ _ S fun J1 s v H1 ⟨e, es⟩ S1 => by
  subst e es
  obtain ⟨F, _, _, ev⟩ := S1.top
  have ev : v = .ref l := ev
  subst ev
  obtain ⟨F1, _, vs, hl, hs⟩ := S1.atom m
  exact ⟨l, vs, rfl, .inl ⟨SqL.of hl, fun p' hp => k J1 _ _ _ ⟨rfl, _, rfl, rfl⟩ (S1.pop.newTup hp hs)⟩⟩
theorem tk_upd {H : Hp} {a : Addr} {xs : List V} {o : HO} (h : H a = some (.lst xs)) : Tk H (upd H a o) := fun b ys hb => by
  rw [upd_ne (fun z => by rw [z, h] at hb; cases hb)]
  exact hb
/-- xs.append(e) -/
theorem sg_append {s t : List Atom} {l : Addr} {P : Dt → Prop} (ho : EvV (s ++ lstA l ds :: t) ta δ (.ref l)) (he : EvQ (s ++ lstA l ds :: t) te δ P) (hz : ds.length < 100000) (q : ∀ e, P e → O.nx (s ++ lstA l (ds ++ [e]) :: t) δ) :
    SG (s ++ lstA l ds :: t) (tDrop (tBM K "list" rAppend ta (tCons te tNil))) δ O := fun F0 H0 τd σ τ H D S a b c => ho _ _ _ _ _ _ _ S fun J1 s1 v H1 ⟨e, es⟩ S1 => by
  subst e es
  obtain ⟨F, _, _, ev⟩ := S1.top
  have ev : v = .ref l := ev
  subst ev
  obtain ⟨F1, _, vs, hl, hs⟩ := S1.atom (A := lstA l ds) (by simp)
  refine ⟨.inl ⟨rfl, vs, SqL.of hl⟩, he _ _ _ _ _ _ _ S1 fun J2 s2 v2 H2 ⟨e2, d, es2, p⟩ S2 => ?_⟩
  subst e2 es2
  obtain ⟨F2, _, vs2, hl2, hs2⟩ := S2.atom (A := lstA l ds) (by simp)
  refine ⟨l, vs2, v2, rfl, rfl, hl2, by rw [hs2.length]; exact Nat.lt_of_lt_of_le hz (by decide), a _ δ σ _ (q d p) ?_⟩
  refine S2.pop.pop.putAt fun F3 ⟨ef, _⟩ => ⟨(ef l).mpr rfl, ef, vs2 ++ [v2], upd_same, ?_⟩
  exact (IsDs.tk (tk_upd hl2) _ _ hs2).append ⟨v2, [], rfl, IsD.tk (tk_upd hl2) _ _ S2.dat, rfl⟩
theorem isDs_last {H : Hp} {d : Dt} : ∀ {ds : List Dt} {vs : List V}, IsDs H (ds ++ [d]) vs → ∃ ws v, vs = ws ++ [v] ∧ IsDs H ds ws ∧ IsD H d v
  | [], vs, h => by
    obtain ⟨v, r, rfl, h1, h2⟩ := h
    have e : r = [] := h2
    subst e
    exact ⟨[], v, rfl, rfl, h1⟩
  | e :: ds, vs, h => by
    obtain ⟨v, r, rfl, h1, h2⟩ := h
    obtain ⟨ws, v', rfl, h3, h4⟩ := isDs_last h2
    exact ⟨v :: ws, v', rfl, ⟨v, ws, rfl, h1, h3⟩, h4⟩
/-- xs.pop() -/
theorem ev_pop {s t : List Atom} {l : Addr} {d : Dt} (ho : EvV (s ++ lstA l (ds ++ [d]) :: t) ta δ (.ref l)) : EvG (s ++ lstA l (ds ++ [d]) :: t) (tBM0 K "list" rPop ta) δ fun J1 s1 => J1 = s ++ lstA l ds :: t ∧ s1 = .dat d := fun F0 H0 τd σ τ H Q S k => ho _ _ _ _ _ _ _ S fun J1 s1 v H1 ⟨e, es⟩ S1 => by
  subst e es
  obtain ⟨F, _, _, ev⟩ := S1.top
  have ev : v = .ref l := ev
  subst ev
  obtain ⟨F1, _, vs, hl, hs⟩ := S1.atom (A := lstA l (ds ++ [d])) (by simp)
  obtain ⟨ws, v, rfl, h1, h2⟩ := isDs_last hs
  refine ⟨.inl ⟨rfl, _, SqL.of hl⟩, l, _, v, rfl, rfl, hl, by simp, k _ _ v _ ⟨rfl, rfl⟩ ?_⟩
  have S2 : Sta (s ++ lstA l ds :: t) F0 H0 δ τd σ τ (upd H1 l (.lst (ws ++ [v]).dropLast)) := S1.pop.putAt fun F3 ⟨ef, _⟩ => ⟨(ef l).mpr rfl, ef, ws, by rw [List.dropLast_concat]; exact upd_same, IsDs.tk (tk_upd hl) _ _ h1⟩
  exact S2.push fun F _ _ _ _ => IsD.tk (tk_upd hl) _ _ h2
theorem sg_letTG {g : TG} {P : JO} (h : EvG J te δ P) (k : ∀ J1 s, P J1 s → ∃ δ1, EvTg g s δ δ1 ∧ SG J1 u δ1 O) : SG J (tSeq (tAsg te g) u) δ O := fun F0 H0 τd σ τ H D S a b c =>
  h _ _ _ _ _ _ _ S fun J1 s v H1 p S1 => by
    obtain ⟨δ1, hg, hk⟩ := k J1 s p
    exact hg _ _ _ _ _ _ _ _ _ S1 fun σ' S2 => hk F0 H0 τd σ' τ H1 D S2 a b c
/-- x = [] -/
theorem ev_newL {t : TA} (h : EvA J t δ fun ss => ss = ds.map Sl.dat) (hz : ds.length ≤ 100000) : EvG J (tLst t) δ fun J1 s => ∃ l, J1 = lstA l ds :: J ∧ s = .val (.ref l) := fun F0 H0 τd σ τ H Q S k => h _ _ _ _ _ _ _ S fun ss vs H1 p l S1 => by
  subst p
  obtain ⟨F, t⟩ := S1.args l
  refine ⟨by rw [l, List.length_map]; exact Nat.le_trans hz (by decide), fun q hq => k _ (.val (.ref q)) _ _ ⟨q, rfl, rfl⟩ ?_⟩
  exact ((S1.drop l).newA hq t.dats).push fun F _ _ _ _ => rfl
theorem sg_newL {i : Nat} (k : ∀ l, SG (lstA l [] :: J) u (δ.set i (some (.val (.ref l)))) O) : SG J (tSeq (tAsg (tLst tNil) (gName i)) u) δ O :=
  sg_letG (ev_newL (ds := []) ea_d0 (Nat.zero_le _)) fun J1 s ⟨l, e1, e2⟩ => by rw [e1, e2]; exact k l
theorem ev_any_val {v : V} {i : Nat} (h : δ[i]? = some (some (.val v))) : EvV J (tVar i) δ v := ev_val h
/-- return xs, an owned list: it stands still from then on -/
theorem sg_retA {l : Addr} (h : EvV (lstA l ds :: J) te δ (.ref l)) (k : O.rt J (.lst ds)) : SG (lstA l ds :: J) (tRet te) δ O := fun F0 H0 τd σ τ H D S a b c => h _ _ _ _ _ _ _ S fun J1 s v H1 ⟨e, es⟩ S1 => by
  subst e es
  obtain ⟨F, _, _, ev⟩ := S1.top
  have ev : v = .ref l := ev
  subst ev
  exact b J _ _ δ σ H1 k S1.pop.freeL
/-! ### new dicts, fields, new instances -/
theorem ev_newD (g : Int → Dt) : EvG J tDNewK δ fun J1 s => ∃ d, J1 = dictD d [] g :: J ∧ s = .val (.ref d) := fun F0 H0 τd σ τ H Q S k => fun p hp =>
  k _ (.val (.ref p)) _ _ ⟨p, rfl, rfl⟩ ((S.own1 (A := dictD p [] g) hp ⟨fun _ => Iff.rfl, List.nodup_nil, Nat.zero_le _, fun _ => .non, upd_same, fun k hk => by cases hk⟩).push fun F _ _ _ _ => rfl)
theorem sg_fld {s t : List Atom} {x C dx : Addr} {fs : List (Str × V)} {dd : List (Dt × V)} {f : Str} {v : V} {P : JO} (hv : EvG J tv δ P) (ho : ∀ J1 sl, P J1 sl → J1 = s ++ insA x C dx fs dd :: t ∧ sl = .val v ∧ EvV (s ++ insA x C dx fs dd :: t) te δ (.ref x))
    (c : Cls K C) (n : NoAttr K C f) (hz : fs.length < 1000) (q : O.nx (s ++ insA x C dx (putF f v fs) dd :: t) δ) : SG J (sFld K te tv f) δ O := fun F0 H0 τd σ τ H D S a b k => hv _ _ _ _ _ _ _ S fun J1 sl v1 H1 p S1 => by
  obtain ⟨e1, e2, hx⟩ := ho J1 sl p
  subst e1 e2
  refine hx _ _ _ _ _ _ _ S1 fun J2 s2 v2 H2 ⟨e3, es2⟩ S2 => ?_
  subst e3 es2
  obtain ⟨F, _, _, ev2⟩ := S2.top
  have ev2 : v2 = .ref x := ev2
  obtain ⟨F', _, _, ev1⟩ := S2.pop.top
  have ev1 : v1 = v := ev1
  subst ev1
  obtain ⟨F1, _, hi, hdd⟩ := S2.atom (A := insA x C dx fs dd) (by simp)
  refine ⟨x, C, dx, fs, ev2, hi, c, n, hz, a _ δ σ _ q ?_⟩
  refine S2.pop.pop.putAt fun F2 ⟨ef, _⟩ => ⟨(ef x).mpr rfl, ef, upd_same, fun q hq => IsD.tk ?_ _ _ (hdd q hq)⟩
  intro b xs hb
  rw [upd_ne (fun z => by rw [z, hi] at hb; cases hb)]
  exact hb
/-- self.f = data -/
theorem sg_fldD {s t : List Atom} {x C dx : Addr} {fs : List (Str × V)} {dd : List (Dt × V)} {f : Str} {d : Dt} (hv : EvD (s ++ insA x C dx fs dd :: t) tv δ d) (ho : EvV (s ++ insA x C dx fs dd :: t) te δ (.ref x))
    (c : Cls K C) (n : NoAttr K C f) (hz : fs.length < 1000) (q : ∀ v, (d.flat = true → v = d.val) → O.nx (s ++ insA x C dx (putF f v fs) ((d, v) :: dd) :: t) δ) : SG (s ++ insA x C dx fs dd :: t) (sFld K te tv f) δ O := fun F0 H0 τd σ τ H D S a b k => hv _ _ _ _ _ _ _ S fun J1 sl v1 H1 ⟨e1, d1, e2, e3⟩ S1 => by
  subst e1 e2 e3
  refine ho _ _ _ _ _ _ _ S1 fun J2 s2 v2 H2 ⟨e3, es2⟩ S2 => ?_
  subst e3 es2
  obtain ⟨F, _, _, ev2⟩ := S2.top
  have ev2 : v2 = .ref x := ev2
  have hd := S2.pop.dat
  obtain ⟨F1, _, hi, hdd⟩ := S2.atom (A := insA x C dx fs dd) (by simp)
  refine ⟨x, C, dx, fs, ev2, hi, c, n, hz, a _ δ σ _ (q v1 fun f => hd.val f) ?_⟩
  have tk : Tk H2 (upd H2 x (.ins C dx (putF f v1 fs))) := fun b xs hb => by
    rw [upd_ne (fun z => by rw [z, hi] at hb; cases hb)]
    exact hb
  refine S2.pop.pop.putAt fun F2 ⟨ef, _⟩ => ⟨(ef x).mpr rfl, ef, upd_same, fun q hq => ?_⟩
  rcases List.mem_cons.mp hq with e | hq
  · rw [e]; exact IsD.tk tk _ _ hd
  · exact IsD.tk tk _ _ (hdd q hq)
/-- C(..) -/
theorem ev_make {C : Addr} {Pre : List Atom → List Sl → JO → Prop} {E : XK} {t : TA} {Ps : List Sl → Prop} {P : JO} (h : EvA J t δ Ps)
    (hp : ∀ ss x dx, Ps ss → ∃ R, Pre (insA x C dx [] [] :: J) (.val (.ref x) :: ss) R ∧ ∀ J1 s, R J1 s → s = .dat .non ∧ P J1 (.val (.ref x))) : EvG J (tMake C (spG Pre) [] E t) δ P := fun F0 H0 τd σ τ H Q S k =>
  h _ _ _ _ _ _ _ S fun ss vs H1 p l S1 x dx hx hdx hne => by
    obtain ⟨R, pre, hR⟩ := hp ss x dx p
    have S2 : Sta J F0 H0 δ (.any :: (ss ++ τd)) σ (.ref dx :: (vs ++ τ)) (upd H1 dx (.own x)) := S1.new hdx fun _ _ _ => trivial
    have hx2 : (upd H1 dx (.own x)) x = none := by rw [upd_ne hne.symm]; exact hx
    have S3 : Sta (insA x C dx [] [] :: J) F0 H0 δ (ss ++ τd) σ (vs ++ τ) (upd (upd H1 dx (.own x)) x (.ins C dx [])) := S2.pop.own1 hx2 ⟨fun _ => Iff.rfl, upd_same, fun q hq => by cases hq⟩
    obtain ⟨F, y, o, d, t⟩ := S3.ex
    obtain ⟨t1, t2⟩ := TmpD.splitL l t
    refine ⟨_, F, .val (.ref x) :: ss, R, o, ⟨_, vs ++ [], rfl, rfl, by rw [List.append_nil]; exact t1⟩, pre, fun J1 s v F1 H3 r f o1 hv => ?_⟩
    obtain ⟨es, pj⟩ := hR _ _ r
    subst es
    have ev : v = .non := hv
    exact ⟨ev, k J1 (.val (.ref x)) (.ref x) H3 pj ⟨F1, y.trans f, o1, d.fr f, _, τ, rfl, rfl, t2.fr f⟩⟩
end
theorem lk_eq {f : Str} {v : V} {r : List (Str × V)} : List.lookup f ((f, v) :: r) = some v := by simp [List.lookup]
theorem lk_ne {f g : Str} {v : V} {r : List (Str × V)} (h : ¬ f = g) : List.lookup f ((g, v) :: r) = List.lookup f r := by
  have hb : (f == g) = false := beq_eq_false_iff_ne.mpr h
  simp only [List.lookup, hb]
theorem pf_eq {f : Str} {v x : V} {r : List (Str × V)} : putF f v ((f, x) :: r) = (f, v) :: r := if_pos rfl
theorem pf_ne {f g : Str} {v x : V} {r : List (Str × V)} (h : ¬ g = f) : putF f v ((g, x) :: r) = (g, x) :: putF f v r := if_neg h
theorem pf_nil {f : Str} {v : V} : putF f v [] = [(f, v)] := rfl
end LK

namespace LK
open PySem PySem.Spec PyProof.Rows L2
abbrev FunM (K : PySem.W.Frag) (x qual : Str) (st : Stmt) (f : Addr) (fd : FuncData) : Prop := FunD K x qual (defArgs st) (defBody st) (defScope st) [] [] f fd
theorem pe_at {X : Cx} {e : Expr} {te te' : TE} (h : PE X e te) (q : te = te') : PE X e te' := by rw [← q]; exact h
theorem pts_at {X : Cx} {es : List Expr} {te te' : TT} (h : PTs X es te) (q : te = te') : PTs X es te' := by rw [← q]; exact h
/-! ### a warp's state, as mathematics -/
structure Ent where
  at_ : Int
  join : Int
  lanes : List Int
def Ent.toD (e : Ent) : Dt := .tup [.int e.at_, .int e.join, .tup (e.lanes.map Dt.int)]
structure WSt where
  p : Prg
  base : Int
  first : Int
  ks : List Int
  st : Int → Lane
  wk : List Int
  gk : List Int
  stack : List Ent
structure WSt.Ok (W : WSt) : Prop where
  p : W.p.Ok
  asc : W.ks.Pairwise (· < ·)
  len : W.ks.length ≤ 6
  st : ∀ k ∈ W.ks, (W.st k).Ok W.p
  thr : ∀ k ∈ W.ks, 0 ≤ W.base + k ∧ W.base + k ≤ 1000
  wn : W.wk.Nodup
  gn : W.gk.Nodup
  ws : ∀ k ∈ W.wk, k ∈ W.ks
  gs : ∀ k ∈ W.gk, k ∈ W.ks
def runN (W : WSt) : List Int := W.ks.filter fun k => !decide (k ∈ W.wk) && !decide (k ∈ W.gk)
def plc (W : WSt) (k : Int) : Int := ((W.st k).at_ : Int)
def placeN (W : WSt) : List Int := ascI ((runN W).map (plc W))
def actF (W : WSt) (g : Nat) : List Int := (runN W).filter fun k => decide (plc W k = (placeN W).getD g 0)
def insOf (W : WSt) (k : Int) : Ins := (W.st k).ins W.p
def reqW (W : WSt) (k : Int) : Dt := reqD (W.st k) (insOf W k)
def askD (W : WSt) (k : Int) : Dt := .tup [.int k, reqW W k]
def Ins.isWait : Ins → Bool
  | .barrier _ => true
  | .collect .. => true
  | _ => false
def Ins.isExit : Ins → Bool
  | .exit => true
  | _ => false
def WSt.wait (W : WSt) (k : Int) : WSt := { W with wk := addK W.wk k }
def WSt.leave (W : WSt) (k : Int) : WSt := { W with gk := addK W.gk k }
def WSt.go (W : WSt) (k w : Int) : WSt := { W with st := upF W.st k (behindN W.p (W.base + k) (W.st k) w) }
def adv1 (W : WSt) (k w : Int) : WSt := if (insOf W k).isWait then W.wait k else if (insOf W k).isExit then W.leave k else W.go k w
def adv (W : WSt) (ps : List (Int × Int)) : WSt := ps.foldl (fun W p => adv1 W p.1 p.2) W
def goes (W : WSt) (ps : List (Int × Int)) : WSt := ps.foldl (fun W p => W.go p.1 p.2) W
theorem sub_len : ∀ {a b : List Int}, a.Nodup → (∀ k ∈ a, k ∈ b) → a.length ≤ b.length
  | [], _, _, _ => Nat.zero_le _
  | x :: r, b, n, h => by
    obtain ⟨n1, n2⟩ := List.nodup_cons.mp n
    have hx : x ∈ b := h x (List.mem_cons_self ..)
    have ih := sub_len (b := b.erase x) n2 fun k hk => (List.mem_erase_of_ne fun e => n1 (by rw [← e]; exact hk)).mpr (h k (List.mem_cons_of_mem _ hk))
    rw [List.length_erase_of_mem hx] at ih
    have := List.length_pos_of_mem hx
    rw [List.length_cons]
    omega
theorem WSt.Ok.wait {W : WSt} (h : W.Ok) {k : Int} (hk : k ∈ W.ks) : (W.wait k).Ok := { h with wn := addK_nodup h.wn, ws := fun j hj => (mem_addK.mp hj).elim (h.ws j) fun e => by rw [e]; exact hk }
theorem WSt.Ok.leave {W : WSt} (h : W.Ok) {k : Int} (hk : k ∈ W.ks) : (W.leave k).Ok := { h with gn := addK_nodup h.gn, gs := fun j hj => (mem_addK.mp hj).elim (h.gs j) fun e => by rw [e]; exact hk }
theorem go_st {W : WSt} (h : W.Ok) {k w : Int} (hk : k ∈ W.ks) (hw : Wd w) : ∀ j ∈ W.ks, ((W.go k w).st j).Ok W.p := fun j hj => by
  show (upF W.st k (behindN W.p (W.base + k) (W.st k) w) j).Ok W.p
  by_cases e : j = k
  · subst e
    rw [upF_same]
    exact behindN_ok h.p (h.st j hk) (h.thr j hk).1 (h.thr j hk).2 hw
  · rw [upF_ne e]
    exact h.st j hj
theorem WSt.Ok.go {W : WSt} (h : W.Ok) {k w : Int} (hk : k ∈ W.ks) (hw : Wd w) : (W.go k w).Ok := { h with st := go_st h hk hw }
theorem adv1_ok {W : WSt} (h : W.Ok) {k w : Int} (hk : k ∈ W.ks) (hw : Wd w) : (adv1 W k w).Ok := by
  unfold adv1
  split
  · exact h.wait hk
  · split
    · exact h.leave hk
    · exact h.go hk hw
theorem adv1_ks {W : WSt} {k w : Int} : (adv1 W k w).ks = W.ks := by
  unfold adv1
  split
  · rfl
  · split <;> rfl
theorem adv1_p {W : WSt} {k w : Int} : (adv1 W k w).p = W.p := by
  unfold adv1
  split
  · rfl
  · split <;> rfl
theorem adv1_base {W : WSt} {k w : Int} : (adv1 W k w).base = W.base := by
  unfold adv1
  split
  · rfl
  · split <;> rfl
theorem adv1_st {W : WSt} {k w j : Int} (h : j ≠ k) : (adv1 W k w).st j = W.st j := by
  unfold adv1
  split
  · rfl
  · split
    · rfl
    · exact upF_ne h
theorem wk_len {W : WSt} (h : W.Ok) : W.wk.length ≤ 6 := Nat.le_trans (sub_len h.wn h.ws) h.len
theorem gk_len {W : WSt} (h : W.Ok) : W.gk.length ≤ 6 := Nat.le_trans (sub_len h.gn h.gs) h.len
theorem run_mem {W : WSt} {k : Int} : k ∈ runN W ↔ k ∈ W.ks ∧ ¬ k ∈ W.wk ∧ ¬ k ∈ W.gk := by
  unfold runN
  rw [List.mem_filter, Bool.and_eq_true, Bool.not_eq_true', Bool.not_eq_true', decide_eq_false_iff_not, decide_eq_false_iff_not]
theorem run_len {W : WSt} (h : W.Ok) : (runN W).length ≤ 6 := Nat.le_trans (List.length_filter_le _ _) h.len
theorem run_nodup {W : WSt} (h : W.Ok) : (runN W).Nodup := (asc_nodup h.asc).filter _
/-- the word that a request begins with -/
def rkind : Ins → Str
  | .load .. => "load" | .store .. => "store" | .atomic .. => "atomic" | .barrier .. => "barrier" | .exit => "exit" | .collect .. => "collect" | _ => "none"
theorem reqD_head (l : Lane) (i : Ins) : ∃ r, reqD l i = .tup (.str (rkind i) :: r) := by
  cases i <;> exact ⟨_, rfl⟩
theorem rk1_load : (decide (("load" : Str) = "barrier") || decide (("load" : Str) = "collect")) = false := by decide +kernel
theorem rk2_load : decide (("load" : Str) = "exit") = false := by decide +kernel
theorem rk1_store : (decide (("store" : Str) = "barrier") || decide (("store" : Str) = "collect")) = false := by decide +kernel
theorem rk2_store : decide (("store" : Str) = "exit") = false := by decide +kernel
theorem rk1_atomic : (decide (("atomic" : Str) = "barrier") || decide (("atomic" : Str) = "collect")) = false := by decide +kernel
theorem rk2_atomic : decide (("atomic" : Str) = "exit") = false := by decide +kernel
theorem rk1_barrier : (decide (("barrier" : Str) = "barrier") || decide (("barrier" : Str) = "collect")) = true := by decide +kernel
theorem rk2_barrier : decide (("barrier" : Str) = "exit") = false := by decide +kernel
theorem rk1_exit : (decide (("exit" : Str) = "barrier") || decide (("exit" : Str) = "collect")) = false := by decide +kernel
theorem rk2_exit : decide (("exit" : Str) = "exit") = true := by decide +kernel
theorem rk1_collect : (decide (("collect" : Str) = "barrier") || decide (("collect" : Str) = "collect")) = true := by decide +kernel
theorem rk2_collect : decide (("collect" : Str) = "exit") = false := by decide +kernel
theorem rk1_none : (decide (("none" : Str) = "barrier") || decide (("none" : Str) = "collect")) = false := by decide +kernel
theorem rk2_none : decide (("none" : Str) = "exit") = false := by decide +kernel
theorem rk_wait (i : Ins) : (decide (rkind i = "barrier") || decide (rkind i = "collect")) = i.isWait := by
  cases i <;> first | exact rk1_none | exact rk1_load | exact rk1_store | exact rk1_atomic | exact rk1_barrier | exact rk1_exit | exact rk1_collect
theorem rk_exit (i : Ins) : decide (rkind i = "exit") = i.isExit := by
  cases i <;> first | exact rk2_none | exact rk2_load | exact rk2_store | exact rk2_atomic | exact rk2_barrier | exact rk2_exit | exact rk2_collect
/-! ### its objects -/
structure WA where
  dx : Addr
  ds : Addr
  dw : Addr
  dg : Addr
  dk : Addr
  cv : V
  lv : V
def fldW (m : Bool) (base first : Int) (A : WA) : List (Str × V) :=
  ("code", A.cv) :: ("launch", A.lv) :: ("base", .int base) :: ("first", .int first) :: ("states", .ref A.ds) :: ("waiting", .ref A.dw) :: ("gone", .ref A.dg) :: (if m then [("stack", .ref A.dk)] else [])
def stk (m : Bool) (A : WA) (W : WSt) : List Atom := if m then [lstA A.dk (W.stack.map Ent.toD)] else []
abbrev insW (C x : Addr) (m : Bool) (A : WA) (W : WSt) : Atom := insA x C A.dx (fldW m W.base W.first A) [(W.p.code, A.cv), (W.p.launch, A.lv), (.int W.base, .int W.base), (.int W.first, .int W.first)]
def wpB (C x : Addr) (m : Bool) (A : WA) (W : WSt) : List Atom := [insW C x m A W, dictD A.ds W.ks (fun k => (W.st k).toD), dictD A.dw W.wk (fun _ => .bl true), dictD A.dg W.gk (fun _ => .bl true)]
def wpJ (C x : Addr) (m : Bool) (A : WA) (W : WSt) : List Atom := wpB C x m A W ++ stk m A W
structure ClsF (K : PySem.W.Frag) (C : Addr) : Prop where
  cl : Cls K C
  n_code : NoAttr K C "code"
  n_launch : NoAttr K C "launch"
  n_base : NoAttr K C "base"
  n_first : NoAttr K C "first"
  n_states : NoAttr K C "states"
  n_waiting : NoAttr K C "waiting"
  n_gone : NoAttr K C "gone"
  n_stack : NoAttr K C "stack"
section
variable {m : Bool} {b f : Int} {A : WA}
theorem lk_code : (fldW m b f A).lookup ("code" : Str) = some A.cv := lk_eq
theorem lk_launch : (fldW m b f A).lookup ("launch" : Str) = some A.lv := (lk_ne (by decide +kernel)).trans lk_eq
theorem lk_base : (fldW m b f A).lookup ("base" : Str) = some (.int b) := (lk_ne (by decide +kernel)).trans ((lk_ne (by decide +kernel)).trans lk_eq)
theorem lk_states : (fldW m b f A).lookup ("states" : Str) = some (.ref A.ds) := (lk_ne (by decide +kernel)).trans ((lk_ne (by decide +kernel)).trans ((lk_ne (by decide +kernel)).trans ((lk_ne (by decide +kernel)).trans lk_eq)))
theorem lk_waiting : (fldW m b f A).lookup ("waiting" : Str) = some (.ref A.dw) := (lk_ne (by decide +kernel)).trans ((lk_ne (by decide +kernel)).trans ((lk_ne (by decide +kernel)).trans ((lk_ne (by decide +kernel)).trans ((lk_ne (by decide +kernel)).trans lk_eq))))
theorem lk_gone : (fldW m b f A).lookup ("gone" : Str) = some (.ref A.dg) := (lk_ne (by decide +kernel)).trans ((lk_ne (by decide +kernel)).trans ((lk_ne (by decide +kernel)).trans ((lk_ne (by decide +kernel)).trans ((lk_ne (by decide +kernel)).trans ((lk_ne (by decide +kernel)).trans lk_eq)))))
theorem lk_stack : (fldW true b f A).lookup ("stack" : Str) = some (.ref A.dk) := (lk_ne (by decide +kernel)).trans ((lk_ne (by decide +kernel)).trans ((lk_ne (by decide +kernel)).trans ((lk_ne (by decide +kernel)).trans ((lk_ne (by decide +kernel)).trans ((lk_ne (by decide +kernel)).trans ((lk_ne (by decide +kernel)).trans lk_eq))))))
def fldN : List Str := ["code", "launch", "base", "first", "states", "waiting", "gone", "stack"]
theorem lk_no {n : Str} (h : fldN.all (fun g => !decide (n = g)) = true) : (fldW m b f A).lookup n = none := by
  have q : ∀ g ∈ fldN, ¬ n = g := fun g hg => by
    have z := List.all_eq_true.mp h g hg
    rw [Bool.not_eq_true', decide_eq_false_iff_not] at z
    exact z
  unfold fldW
  rw [lk_ne (q _ (by simp [fldN])), lk_ne (q _ (by simp [fldN])), lk_ne (q _ (by simp [fldN])), lk_ne (q _ (by simp [fldN])), lk_ne (q _ (by simp [fldN])), lk_ne (q _ (by simp [fldN])), lk_ne (q _ (by simp [fldN]))]
  cases m with
  | false => rfl
  | true => exact (lk_ne (q _ (by simp [fldN]))).trans rfl
theorem pf_waiting {d : Addr} : putF "waiting" (.ref d) (fldW m b f A) = fldW m b f { A with dw := d } := by
  unfold fldW
  rw [pf_ne (by decide +kernel), pf_ne (by decide +kernel), pf_ne (by decide +kernel), pf_ne (by decide +kernel), pf_ne (by decide +kernel), pf_eq]
theorem pf_stack {d : Addr} : putF "stack" (.ref d) (fldW true b f A) = fldW true b f { A with dk := d } := by
  unfold fldW
  rw [pf_ne (by decide +kernel), pf_ne (by decide +kernel), pf_ne (by decide +kernel), pf_ne (by decide +kernel), pf_ne (by decide +kernel), pf_ne (by decide +kernel), pf_ne (by decide +kernel), if_pos rfl, pf_eq]
  rfl
end
section
variable {J J0 : List Atom} {δ : SE} {te ty ta tb tc : TE} {K : PySem.W.Frag} {C x : Addr} {m : Bool} {A : WA} {W : WSt} {O : Outs}
/-- J has the warp among what it owns -/
def HasW (J : List Atom) (C x : Addr) (m : Bool) (A : WA) (W : WSt) : Prop := ∀ a ∈ wpB C x m A W, a ∈ J
theorem hasW_self : HasW (wpJ C x m A W ++ J0) C x m A W := fun a h => List.mem_append_left _ (List.mem_append_left _ h)
theorem hasW_perm (p : J.Perm (wpJ C x m A W ++ J0)) : HasW J C x m A W := fun a h => p.mem_iff.mpr (hasW_self a h)
theorem hasW_cons {B : Atom} (h : HasW J C x m A W) : HasW (B :: J) C x m A W := fun a ha => List.mem_cons_of_mem _ (h a ha)
theorem mem_ins (h : HasW J C x m A W) : insW C x m A W ∈ J := h _ (by simp [wpB])
theorem ev_wcode (h : HasW J C x m A W) (q : ClsF K C) (ho : EvV J te δ (.ref x)) : EvD J (tFld K te "code") δ W.p.code := ev_fldD ho (mem_ins h) q.cl q.n_code lk_code (by simp)
theorem ev_wlaunch (h : HasW J C x m A W) (q : ClsF K C) (ho : EvV J te δ (.ref x)) : EvD J (tFld K te "launch") δ W.p.launch := ev_fldD ho (mem_ins h) q.cl q.n_launch lk_launch (by simp)
theorem ev_wbase (h : HasW J C x m A W) (q : ClsF K C) (ho : EvV J te δ (.ref x)) : EvD J (tFld K te "base") δ (.int W.base) := ev_fldD ho (mem_ins h) q.cl q.n_base lk_base (by simp)
theorem ev_wstates (h : HasW J C x m A W) (q : ClsF K C) (ho : EvV J te δ (.ref x)) : EvV J (tFld K te "states") δ (.ref A.ds) := ev_fldV ho (mem_ins h) q.cl q.n_states lk_states
theorem ev_wwaiting (h : HasW J C x m A W) (q : ClsF K C) (ho : EvV J te δ (.ref x)) : EvV J (tFld K te "waiting") δ (.ref A.dw) := ev_fldV ho (mem_ins h) q.cl q.n_waiting lk_waiting
theorem ev_wgone (h : HasW J C x m A W) (q : ClsF K C) (ho : EvV J te δ (.ref x)) : EvV J (tFld K te "gone") δ (.ref A.dg) := ev_fldV ho (mem_ins h) q.cl q.n_gone lk_gone
theorem ev_wstack (h : HasW J C x true A W) (q : ClsF K C) (ho : EvV J te δ (.ref x)) : EvV J (tFld K te "stack") δ (.ref A.dk) := ev_fldV ho (mem_ins h) q.cl q.n_stack lk_stack
theorem mem_st (h : HasW J C x m A W) : dictD A.ds W.ks (fun k => (W.st k).toD) ∈ J := h _ (by simp [wpB])
theorem mem_wk (h : HasW J C x m A W) : dictD A.dw W.wk (fun _ => .bl true) ∈ J := h _ (by simp [wpB])
theorem mem_gk (h : HasW J C x m A W) : dictD A.dg W.gk (fun _ => .bl true) ∈ J := h _ (by simp [wpB])
theorem mem_stk (p : J.Perm (wpJ C x true A W ++ J0)) : lstA A.dk (W.stack.map Ent.toD) ∈ J := p.mem_iff.mpr (by simp [wpJ, stk])
/-- self.states[tid] -/
theorem ev_wst (h : HasW J C x m A W) (q : ClsF K C) (ho : EvV J te δ (.ref x)) {k : Int} (hk : EvD J ty δ (.int k)) (hm : k ∈ W.ks) : EvD J (tDGet (tFld K te "states") ty) δ (W.st k).toD :=
  ev_dget (g := fun k => (W.st k).toD) (ev_wstates h q ho) hk (mem_st h) hm
/-- self.states[tid][0] -/
theorem ev_wat (h : HasW J C x m A W) (q : ClsF K C) (ho : EvV J te δ (.ref x)) {k : Int} (hk : EvD J ty δ (.int k)) (hm : k ∈ W.ks) : EvD J (tOp (rIxT K) (tDGet (tFld K te "states") ty) (tC (.int 0))) δ (.int (plc W k)) :=
  ev_op (ev_wst h q ho hk hm) ev_int rr_head
theorem et_chain {p p' : Int → Int → Bool} {a b c : Int} (ha : EvD J ta δ (.int a)) (hb : EvD J tb δ (.int b)) (hc : EvD J tc δ (.int c)) : EvB J (tTest (tChain (rI0 fun i j => .bl (p i j)) (rI0 fun i j => .bl (p' i j)) ta tb tc)) δ (p a b && p' b c) := fun F0 H0 τd σ τ H Q S k =>
  ha _ _ _ _ _ _ _ S fun J1 s v H1 ⟨e, d, es, ed⟩ S1 => by
    subst e es ed
    refine hb _ _ _ _ _ _ _ S1 fun J2 s2 v2 H2 ⟨e2, d2, es2, ed2⟩ S2 => ?_
    subst e2 es2 ed2
    have ev : v = .int a := S2.pop.dat
    have ev2 : v2 = .int b := S2.dat
    subst ev ev2
    refine ⟨a, b, rfl, rfl, p a b, rfl, ?_⟩
    cases e : p a b with
    | false => exact ⟨false, rfl, k _ H2 (by rw [e]; rfl) S2.pop.pop⟩
    | true =>
      refine hc _ _ _ _ _ _ _ S2.pop.pop fun J3 s3 v3 H3 ⟨e3, d3, es3, ed3⟩ S3 => ?_
      subst e3 es3 ed3
      have ev3 : v3 = .int c := S3.dat
      subst ev3
      exact ⟨b, c, rfl, rfl, p' b c, rfl, k _ H3 (by rw [e, Bool.true_and]) S3.pop⟩
/-- comprehensions over ints -/
theorem ev_lcI {tl : TE} {tt : TT} {j : Nat} {ns : List Int} {f : Int → Bool} {g : Int → Dt} (hl : EvL J tl δ (ns.map Dt.int)) (hz : ns.length ≤ 40000) (ht : ∀ A k, k ∈ ns → EvB (A :: J) tt (δ.set j (some (.dat (.int k)))) (f k)) (he : ∀ A k, k ∈ ns → f k = true → EvD (A :: J) te (δ.set j (some (.dat (.int k)))) (g k)) :
    EvL J (tLc (iList K tl) (gName j) tt te [j]) δ ((ns.filter f).map g) := by
  have e : ((ns.filter f).map g) = ((ns.map Dt.int).filter fun d => match d with | .int k => f k | _ => false).map fun d => match d with | .int k => g k | _ => .non := by
    rw [List.filter_map, List.map_map]
    rfl
  rw [e]
  refine ev_lcL hl (by rw [List.length_map]; exact hz) (fun A d hd => ?_) fun A d hd hf => ?_
  · obtain ⟨k, hk, rfl⟩ := List.mem_map.mp hd
    exact ht A k hk
  · obtain ⟨k, hk, rfl⟩ := List.mem_map.mp hd
    exact he A k hk hf
theorem EvG.permJ {P : Sl → Prop} (h : EvG J te δ fun J1 s => J1.Perm J ∧ P s) : EvP J te δ P := fun F0 H0 τd σ τ H Q S k => h _ _ _ _ _ _ _ S fun J1 s v H1 ⟨e, p⟩ S1 => k J s v H1 ⟨rfl, p⟩ (S1.perm e)
theorem sg_retL {ds : List Dt} (h : EvL J te δ ds) (k : O.rt J (.lst ds)) : SG J (tRet te) δ O := sg_retG h fun J1 s ⟨e, es⟩ => by rw [e, es]; exact k
end
/-- a method that only reads -/
def rdP (C : Addr) (m : Bool) (G : WSt → List Sl → Sl → Prop) : List Atom → List Sl → JO → Prop := fun J ss R => ∃ x A W J0 as s0, J.Perm (wpJ C x m A W ++ J0) ∧ W.Ok ∧ ss = .val (.ref x) :: as ∧ G W as s0 ∧ R = fun J1 s => J1.Perm J ∧ s = s0
structure CalM (P : Program) (w : World) (K : PySem.W.Frag) (mg : Str → Option Value) (base : Heap) (C : Addr) (k : Nat) (x : Str) (ps : List Str) (sp : Sp) where
  f : Addr
  fd : FuncData
  mt : Meth K C x f
  hb : Binds K fd ps []
  ok : FnOk P w K mg base CX0 k f fd ps sp
section
variable {J J0 : List Atom} {δ : SE} {te : TE} {t : TA} {K : PySem.W.Frag} {C x : Addr} {m : Bool} {A : WA} {W : WSt} {O : Outs}
theorem own_ins {F : AS} {H : Hp} (h : HasW J C x m A W) (o : Own J F H) : H x = some (.ins C A.dx (fldW m W.base W.first A)) := by
  obtain ⟨F1, _, _, hx, _⟩ := o.atom (mem_ins h)
  exact hx
theorem ev_rd {nm : Str} {G : WSt → List Sl → Sl → Prop} {E : XK} {as : List Sl} {s0 : Sl} (p : J.Perm (wpJ C x m A W ++ J0)) (ok : W.Ok) (ho : EvV J te δ (.ref x)) (hn : fldN.all (fun g => !decide (nm = g)) = true) (ha : EvA J t δ fun ss => ss = as) (g : G W as s0) :
    EvP J (tMeth C nm (spG (rdP C m G)) [] E te t) δ fun s => s = s0 :=
  (ev_meth (P := fun J1 s => J1.Perm J ∧ s = s0) ho (fun F H o => ⟨A.dx, _, own_ins (hasW_perm p) o, lk_no hn⟩) ha fun ss e => ⟨_, ⟨x, A, W, J0, as, s0, p, ok, by rw [e], g, rfl⟩, fun J1 s h => h⟩).permJ
end
end LK

namespace LK
open PySem PySem.Spec PyProof.Rows L2
local macro_rules | `(tactic| walk_at "rr") => `(tactic| first
  | (with_reducible exact rr_head)
  | ((with_reducible refine rr_ixT (d := ?d) ?h); (case h => exact rfl))
  | (with_reducible exact rr_eqS)
  | (with_reducible exact rr_eqI)
  | (with_reducible exact rr_neI)
  | (with_reducible exact rr_II)
  | (with_reducible exact rr_IB))
local macro_rules | `(tactic| walk_at "ev") => `(tactic| first
  | (with_reducible exact ev_int)
  | (with_reducible exact ev_str)
  | (with_reducible exact ev_non)
  | (with_reducible exact ev_bl)
  | ((with_reducible refine ev_dat (d := ?d) ?h); (case h => exact rfl))
  | (with_reducible exact ea_d0)
  | ((with_reducible refine ea_d (d := ?d) (ds := ?ds) ?h1 ?h2); (case h1 => walk_at "ev"); (case h2 => walk_at "ev"))
  | ((with_reducible refine ev_op (da := ?da) (db := ?db) (dc := ?dc) ?h1 ?h2 ?h3); (case h1 => walk_at "ev"); (case h2 => walk_at "ev"); (case h3 => walk_at "rr"))
  | ((with_reducible refine ev_tup (ds := ?ds) ?h1 ?h2); (case h1 => walk_at "ev"); (case h2 => exact Nat.le_of_ble_eq_true rfl))
  | ((with_reducible refine et_b (b := ?b) ?h1); (case h1 => walk_at "ev")))

section
variable {P : Program} {w : World} {K : PySem.W.Frag} {mg : Str → Option Value} {base : Heap} {f : Addr} {fd : FuncData} {C : Addr} {m : Bool}
theorem sorted_ok {te : TE} {J : List Atom} {δ : SE} {d : Addr} {ks : List Int} {g : Int → Dt} (ho : EvV J te δ (.ref d)) (mm : dictD d ks g ∈ J) :
    EvL J (tCB (fun xs H Q => ∃ (a : Addr) (kvs : List (L2.Key × V)) (is : List Int), xs = [.ref a] ∧ Rd H a (.dK kvs) ∧ kvs.map (·.1) = is.map Sum.inl ∧ is.length < 64 ∧ ∀ (ys : List Int) (p : Addr), ys.Perm is → ys.Pairwise (· ≤ ·) → H p = none → Q (.ref p) (upd H p (.lst (ys.map V.int)))) (tCons te tNil)) δ ((ascI ks).map Dt.int) :=
  ev_sortedD ho mm fun a kvs is H Q h1 h2 h3 h4 => ⟨a, kvs, is, rfl, h1, h2, h3, h4⟩
theorem scFWrunning : FnScope ["self", "tid"] ["self"] (defScope sFWrunning) := ⟨rfl, rfl, rfl, by decide +kernel, rfl, by decide +kernel, by decide +kernel⟩
def gRunning (W : WSt) (as : List Sl) (s : Sl) : Prop := as = [] ∧ s = .lst ((runN W).map Dt.int)
theorem ok_running (F : FunM K "running" "FreeWarp.running" sFWrunning f fd) (T : Txt K mg) (q : ClsF K C) : FnOk P w K mg base CX0 1 f fd ["self"] (spG (rdP C m gRunning)) := by
  have sc := scFWrunning
  refine fn_sg F sc (fun J ss R h => ?_) (fun cdv A outer s H E hr => ⟨_, (pss_one (ps_ret (pe_lc (own := [("tid", 1)]) (g := gName 1) (tt := _) (by rfl) sc.nd (pi_list (pe_callB (call_sortedDI rfl) (by rfl) T.n_sorted (by decide +kernel) (pa_cons (pe_fld (pv 0) rfl) pa_nil))) (blkOk_by (own := [("tid", 1)]) (N := ["self", "tid"]) (sc := defScope sFWrunning) (by decide +kernel)) (fun _ _ _ _ _ => pg_name (i := 1) sc.nd rfl (Or.inl rfl)) (fun _ _ _ _ _ => by apply pts_at; (exact (pts_one (PW.pt (pw_and (pt_cmp (pc_dnotin (hu_of hr) (pv 1) (pe_fld (pv 0) rfl)) (by rfl)) (pw_and1 (pt_cmp (pc_dnotin (hu_of hr) (pv 1) (pe_fld (pv 0) rfl)) (by rfl))))))); (try dsimp only [Cx.blk]); try exact rfl) (fun _ _ _ _ _ => by apply pe_at; (exact (pv 1)); (try dsimp only [Cx.blk]); try exact rfl)))), fun J ss R h => ?_⟩)
  · obtain ⟨x, A, W, J0, as, s0, p, ok, rfl, ⟨rfl, rfl⟩, rfl⟩ := h
    rfl
  · obtain ⟨x, A, W, J0, as, s0, p, ok, rfl, ⟨rfl, rfl⟩, rfl⟩ := h
    have hw := hasW_perm p
    have e : (runN W).map Dt.int = ((ascI W.ks).filter fun k => !decide (k ∈ W.wk) && !decide (k ∈ W.gk)).map Dt.int := by rw [asc_self ok.asc]; rfl
    rw [e]
    refine sg_retL (ev_lcI (sorted_ok (ev_wstates hw q (ev_val rfl)) (mem_st hw)) ?_ (fun A k hk => ?_) fun A k hk hf => ev_dat rfl) ⟨List.Perm.refl _, rfl⟩
    · rw [asc_self ok.asc]
      have := ok.len
      omega
    · have hw2 := hasW_cons (B := A) hw
      exact et_andB (et_b (ev_dnotin (ev_wwaiting hw2 q (ev_val rfl)) (ev_dat rfl) (mem_wk hw2))) fun _ => et_b (ev_dnotin (ev_wgone hw2 q (ev_val rfl)) (ev_dat rfl) (mem_gk hw2))
theorem mem_runks {W : WSt} {k : Int} (h : k ∈ runN W) : k ∈ W.ks := (run_mem.mp h).1
/-- self.running() and the like, the warp under one more owned thing -/
theorem slf {J : List Atom} {v : V} {δ : SE} (i : Nat) (h : δ[i]? = some (some (.val v)) := by rfl) : EvV J (tVar i) δ v := ev_val h
theorem scFWplaces : FnScope ["self", "tid"] ["self"] (defScope sFWplaces) := ⟨rfl, rfl, rfl, by decide +kernel, rfl, by decide +kernel, by decide +kernel⟩
def gPlaces (W : WSt) (as : List Sl) (s : Sl) : Prop := as = [] ∧ s = .lst ((placeN W).map Dt.int)
theorem ok_places (F : FunM K "places" "FreeWarp.places" sFWplaces f fd) (T : Txt K mg) (q : ClsF K C) (m_running : CalM P w K mg base C 1 "running" ["self"] (spG (rdP C m gRunning))) : FnOk P w K mg base CX0 2 f fd ["self"] (spG (rdP C m gPlaces)) := by
  have sc := scFWplaces
  refine fn_sg F sc (fun J ss R h => ?_) (fun cdv A outer s H E hr => ⟨_, (pss_one (ps_ret (pe_callB (cr_sortedSet rfl) (by rfl) T.n_sorted (by decide +kernel) (pa_cons (pe_callTy (cr_setIts rfl) (by rfl) T.n_set (by decide +kernel) (pa_cons (pe_lc (own := [("tid", 1)]) (g := gName 1) (tt := tYes) (by rfl) sc.nd (pi_list (pe_meth0 (pv 0) q.cl m_running.mt m_running.ok (hr.mono (by decide)) m_running.hb .nil pass0)) (blkOk_by (own := [("tid", 1)]) (N := ["self", "tid"]) (sc := defScope sFWplaces) (by decide +kernel)) (fun _ _ _ _ _ => pg_name (i := 1) sc.nd rfl (Or.inl rfl)) (fun _ _ _ _ _ => pts_nil) (fun _ _ _ _ _ => by apply pe_at; (exact (pe_ix ix_tup (pe_dget (hu_of hr) (pe_fld (pv 0) rfl) (pv 1) (fun _ _ => rfl)) pe_int (fun _ _ => rfl))); (try dsimp only [Cx.blk]); try exact rfl)) pa_nil)) pa_nil)))), fun J ss R h => ?_⟩)
  · obtain ⟨x, A, W, J0, as, s0, p, ok, rfl, ⟨rfl, rfl⟩, rfl⟩ := h
    rfl
  · obtain ⟨x, A, W, J0, as, s0, p, ok, rfl, ⟨rfl, rfl⟩, rfl⟩ := h
    have hw := hasW_perm p
    refine sg_retL (ev_sortedSet ?_ ?_) ⟨List.Perm.refl _, rfl⟩
    · have e : (List.map Dt.int (List.map (plc W) (runN W))) = ((runN W).filter fun _ => true).map fun k => Dt.int (plc W k) := by
        rw [List.filter_eq_self.mpr (fun _ _ => rfl), List.map_map]
        rfl
      rw [e]
      refine ev_lcI (ns := runN W) (g := fun k => Dt.int (plc W k)) (ev_rd p ok (slf 0) (by decide +kernel) ea_nil ⟨rfl, rfl⟩) ?_ (fun A k hk => et_yes) fun A k hk hf => ?_
      · have := run_len ok
        omega
      · exact ev_wat (hasW_cons (B := A) hw) q (slf 0) (ev_dat rfl) (mem_runks hk)
    · rw [List.length_map]
      have := run_len ok
      omega
theorem scFWgroups : FnScope ["self"] ["self"] (defScope sFWgroups) := ⟨rfl, rfl, rfl, by decide +kernel, rfl, by decide +kernel, by decide +kernel⟩
def gGroupsF (W : WSt) (as : List Sl) (s : Sl) : Prop := as = [] ∧ s = .dat (.int (placeN W).length)
theorem ok_groupsF (F : FunM K "groups" "FreeWarp.groups" sFWgroups f fd) (T : Txt K mg) (q : ClsF K C) (m_places : CalM P w K mg base C 2 "places" ["self"] (spG (rdP C m gPlaces))) : FnOk P w K mg base CX0 3 f fd ["self"] (spG (rdP C m gGroupsF)) := by
  have sc := scFWgroups
  refine fn_sg F sc (fun J ss R h => ?_) (fun cdv A outer s H E hr => ⟨_, (pss_one (ps_ret (pe_callB call_len_seq (by rfl) T.n_len (by decide +kernel) (pa_cons (pe_meth0 (pv 0) q.cl m_places.mt m_places.ok (hr.mono (by decide)) m_places.hb .nil pass0) pa_nil)))), fun J ss R h => ?_⟩)
  · obtain ⟨x, A, W, J0, as, s0, p, ok, rfl, ⟨rfl, rfl⟩, rfl⟩ := h
    rfl
  · obtain ⟨x, A, W, J0, as, s0, p, ok, rfl, ⟨rfl, rfl⟩, rfl⟩ := h
    have hw := hasW_perm p
    refine sg_retD (d := .int (placeN W).length) ?_ ⟨List.Perm.refl _, rfl⟩
    refine ev_is (ev_lenL (ds := (placeN W).map Dt.int) (ev_rd p ok (slf 0) (by decide +kernel) ea_nil ⟨rfl, rfl⟩)) ?_
    rw [List.length_map]
theorem place_ne {W : WSt} {g : Nat} (h : g < (placeN W).length) : atI ((placeN W).map Dt.int) (g : Int) = some (.int ((placeN W).getD g 0)) := at_int h
theorem scFWactive : FnScope ["self", "group", "rows", "tid"] ["self", "group"] (defScope sFWactive) := ⟨rfl, rfl, rfl, by decide +kernel, rfl, by decide +kernel, by decide +kernel⟩
def gActiveF (W : WSt) (as : List Sl) (s : Sl) : Prop := ∃ g : Nat, g < (placeN W).length ∧ as = [.dat (.int g)] ∧ s = .lst ((actF W g).map Dt.int)
theorem ok_activeF (F : FunM K "active" "FreeWarp.active" sFWactive f fd) (T : Txt K mg) (q : ClsF K C) (m_running : CalM P w K mg base C 1 "running" ["self"] (spG (rdP C m gRunning))) (m_places : CalM P w K mg base C 2 "places" ["self"] (spG (rdP C m gPlaces))) : FnOk P w K mg base CX0 3 f fd ["self", "group"] (spG (rdP C m gActiveF)) := by
  have sc := scFWactive
  refine fn_sg F sc (fun J ss R h => ?_) (fun cdv A outer s H E hr => ⟨_, (pss_cons (ps_set (i := 2) sc.nd rfl (.inr rfl) (pe_meth0 (pv 0) q.cl m_places.mt m_places.ok (hr.mono (by decide)) m_places.hb .nil pass0))
    (pss_cons (ps_if (pt_not (pt_chain op_le op_lt pe_int (pv 1) (pe_callB call_len_seq (by rfl) T.n_len (by decide +kernel) (pa_cons (pv 2) pa_nil)))) (pss_one (ps_ret (pe_lst pa_nil))) pss_nil)
    (pss_one (ps_ret (pe_lc (own := [("tid", 3)]) (g := gName 3) (tt := _) (by rfl) sc.nd (pi_list (pe_meth0 (pv 0) q.cl m_running.mt m_running.ok (hr.mono (by decide)) m_running.hb .nil pass0)) (blkOk_by (own := [("tid", 3)]) (N := ["self", "group", "rows", "tid"]) (sc := defScope sFWactive) (by decide +kernel)) (fun _ _ _ _ _ => pg_name (i := 3) sc.nd rfl (Or.inl rfl)) (fun _ _ _ _ _ => by apply pts_at; (exact (pts_one (pt_cmpR op_eq (pe_ix ix_tup (pe_dget (hu_of hr) (pe_fld (pv 0) rfl) (pv 3) (fun _ _ => rfl)) pe_int (fun _ _ => rfl)) (pe_ix ix_list (pv 2) (pv 1) (fun _ _ => rfl)) (nomark _)))); (try dsimp only [Cx.blk]); try exact rfl) (fun _ _ _ _ _ => by apply pe_at; (exact (pv 3)); (try dsimp only [Cx.blk]); try exact rfl)))))), fun J ss R h => ?_⟩)
  · obtain ⟨x, A, W, J0, as, s0, p, ok, rfl, ⟨g, hg, rfl, rfl⟩, rfl⟩ := h
    rfl
  · obtain ⟨x, A, W, J0, as, s0, p, ok, rfl, ⟨g, hg, rfl, rfl⟩, rfl⟩ := h
    have hw := hasW_perm p
    refine sg_letG (ev_rd (s0 := .lst ((placeN W).map Dt.int)) p ok (slf 0) (by decide +kernel) ea_nil ⟨rfl, rfl⟩) fun J1 s ⟨e1, e2⟩ => ?_
    subst e1 e2
    refine sg_when (et_notB (et_chain (p := fun i j => decide (i ≤ j)) (p' := fun i j => decide (i < j)) ev_int (ev_dat rfl) (ev_lenL (ev_lst rfl)))) (fun e => ?_) fun _ => ?_
    · rw [List.length_map, decide_eq_true (show (0 : Int) ≤ (g : Int) by omega), decide_eq_true (show (g : Int) < ((placeN W).length : Int) by omega)] at e
      cases e
    · refine sg_retL (ev_lcI (ns := runN W) (g := Dt.int) (ev_rd p ok (slf 0) (by decide +kernel) ea_nil ⟨rfl, rfl⟩) ?_ (fun A k hk => ?_) fun A k hk hf => ev_dat rfl) ⟨List.Perm.refl _, rfl⟩
      · have := run_len ok
        omega
      · exact et_b (ev_op (ev_wat (hasW_cons (B := A) hw) q (slf 0) (ev_dat rfl) (mem_runks hk)) (EvI.toD ((ev_ixL (Pd := fun d => d = .int ((placeN W).getD g 0)) (ev_lst rfl) ((ev_dat (d := .int g) rfl).toI (P := fun i => i = g) rfl) fun i e => ⟨_, by rw [e]; exact place_ne hg, rfl⟩).imp fun d e => ⟨_, e, rfl⟩)) rr_eqI)
theorem scFWasks : FnScope ["self", "group", "tid"] ["self", "group"] (defScope sFWasks) := ⟨rfl, rfl, rfl, by decide +kernel, rfl, by decide +kernel, by decide +kernel⟩
def gAsksF (W : WSt) (as : List Sl) (s : Sl) : Prop := ∃ g : Nat, g < (placeN W).length ∧ as = [.dat (.int g)] ∧ s = .lst ((actF W g).map (askD W))
theorem act_mem {W : WSt} {g : Nat} {k : Int} (h : k ∈ actF W g) : k ∈ runN W := (List.mem_filter.mp h).1
theorem act_len {W : WSt} (h : W.Ok) (g : Nat) : (actF W g).length ≤ 6 := Nat.le_trans (List.length_filter_le _ _) (run_len h)
theorem filter_yes {α : Type} (l : List α) : l.filter (fun _ => true) = l := List.filter_eq_self.mpr fun _ _ => rfl
/-- [(tid, request(self.code, self.states[tid])) for tid in ..] -/
theorem ev_ask {J : List Atom} {δ : SE} {x : Addr} {A : WA} {W : WSt} {E : XK} {j : Nat} {k : Int} (ok : W.Ok) (h : HasW J C x m A W) (q : ClsF K C) (h0 : δ[0]? = some (some (.val (.ref x)))) (hj : δ[j]? = some (some (.dat (.int k)))) (hk : k ∈ W.ks) :
    EvD J (tTup (tCons (tVar j) (tCons (tCall (spG (pureP rRequest)) [] E (tCons (tFld K (tVar 0) "code") (tCons (tDGet (tFld K (tVar 0) "states") (tVar j)) tNil))) tNil))) δ (askD W k) :=
  ev_tup (ea_d (ev_dat hj) (ea_d (ev_pure (ea_d (ev_wcode h q (slf 0 h0)) (ea_d (ev_wst h q (slf 0 h0) (ev_dat hj) hk) ea_d0)) ⟨W.p, W.st k, ok.p, ok.st k hk, rfl, rfl⟩) ea_d0))
theorem ok_asksF (F : FunM K "asks" "FreeWarp.asks" sFWasks f fd) (T : Txt K mg) (q : ClsF K C) (m_active : CalM P w K mg base C 3 "active" ["self", "group"] (spG (rdP C m gActiveF))) (c_Frequest : Cal P w K mg base 1 "request" ["code", "lane"] (spG (pureP rRequest))) : FnOk P w K mg base CX0 4 f fd ["self", "group"] (spG (rdP C m gAsksF)) := by
  have sc := scFWasks
  refine fn_sg F sc (fun J ss R h => ?_) (fun cdv A outer s H E hr => ⟨_, (pss_one (ps_ret (pe_lc (own := [("tid", 2)]) (g := gName 2) (tt := tYes) (by rfl) sc.nd (pi_list (pe_meth (pv 0) q.cl m_active.mt m_active.ok (hr.mono (by decide)) m_active.hb .nil pass0 (pa_cons (pv 1) pa_nil))) (blkOk_by (own := [("tid", 2)]) (N := ["self", "group", "tid"]) (sc := defScope sFWasks) (by decide +kernel)) (fun _ _ _ _ _ => pg_name (i := 2) sc.nd rfl (Or.inl rfl)) (fun _ _ _ _ _ => pts_nil) (fun _ _ _ _ _ => by apply pe_at; (exact (pe_tup (pa_cons (pv 2) (pa_cons (pe_call c_Frequest.ok (hr.mono (by decide)) (by rfl) c_Frequest.hm c_Frequest.hk c_Frequest.hb .nil pass0 (pa_cons (pe_fld (pv 0) rfl) (pa_cons (pe_dget (hu_of hr) (pe_fld (pv 0) rfl) (pv 2) (fun _ _ => rfl)) pa_nil))) pa_nil)))); (try dsimp only [Cx.blk]); try exact rfl)))), fun J ss R h => ?_⟩)
  · obtain ⟨x, A, W, J0, as, s0, p, ok, rfl, ⟨g, hg, rfl, rfl⟩, rfl⟩ := h
    rfl
  · obtain ⟨x, A, W, J0, as, s0, p, ok, rfl, ⟨g, hg, rfl, rfl⟩, rfl⟩ := h
    have hw := hasW_perm p
    have e : (actF W g).map (askD W) = ((actF W g).filter fun _ => true).map (askD W) := by rw [filter_yes]
    rw [e]
    refine sg_retL (ev_lcI (ns := actF W g) (g := askD W) (ev_rd p ok (slf 0) (by decide +kernel) (ea_d (ds := []) (ev_dat rfl) ea_d0) ⟨g, hg, rfl, rfl⟩) ?_ (fun A k hk => et_yes) fun A k hk hf => ?_) ⟨List.Perm.refl _, rfl⟩
    · have := act_len ok g
      omega
    · exact ev_ask (x := x) ok (hasW_cons (B := A) hw) q rfl rfl (mem_runks (act_mem hk))
def gWaits (W : WSt) (as : List Sl) (s : Sl) : Prop := as = [] ∧ s = .lst ((ascI W.wk).map (askD W))
def gEnded (W : WSt) (as : List Sl) (s : Sl) : Prop := as = [] ∧ s = .lst ((ascI W.gk).map Dt.int)
def gLanes (W : WSt) (as : List Sl) (s : Sl) : Prop := as = [] ∧ s = .lst (W.ks.map fun k => (W.st k).toD)
theorem wk_ks {W : WSt} (ok : W.Ok) {k : Int} (h : k ∈ ascI W.wk) : k ∈ W.ks := ok.ws k (mem_ascI.mp h)
theorem scFWwaits : FnScope ["self", "tid"] ["self"] (defScope sFWwaits) := ⟨rfl, rfl, rfl, by decide +kernel, rfl, by decide +kernel, by decide +kernel⟩
theorem ok_waitsFW (F : FunM K "waits" "FreeWarp.waits" sFWwaits f fd) (T : Txt K mg) (q : ClsF K C) (c_Frequest : Cal P w K mg base 1 "request" ["code", "lane"] (spG (pureP rRequest))) : FnOk P w K mg base CX0 2 f fd ["self"] (spG (rdP C m gWaits)) := by
  have sc := scFWwaits
  refine fn_sg F sc (fun J ss R h => ?_) (fun cdv A outer s H E hr => ⟨_, (pss_one (ps_ret (pe_lc (own := [("tid", 1)]) (g := gName 1) (tt := tYes) (by rfl) sc.nd (pi_list (pe_callB (call_sortedDI rfl) (by rfl) T.n_sorted (by decide +kernel) (pa_cons (pe_fld (pv 0) rfl) pa_nil))) (blkOk_by (own := [("tid", 1)]) (N := ["self", "tid"]) (sc := defScope sFWwaits) (by decide +kernel)) (fun _ _ _ _ _ => pg_name (i := 1) sc.nd rfl (Or.inl rfl)) (fun _ _ _ _ _ => pts_nil) (fun _ _ _ _ _ => by apply pe_at; (exact (pe_tup (pa_cons (pv 1) (pa_cons (pe_call c_Frequest.ok (hr.mono (by decide)) (by rfl) c_Frequest.hm c_Frequest.hk c_Frequest.hb .nil pass0 (pa_cons (pe_fld (pv 0) rfl) (pa_cons (pe_dget (hu_of hr) (pe_fld (pv 0) rfl) (pv 1) (fun _ _ => rfl)) pa_nil))) pa_nil)))); (try dsimp only [Cx.blk]); try exact rfl)))), fun J ss R h => ?_⟩)
  · obtain ⟨x, A, W, J0, as, s0, p, ok, rfl, ⟨rfl, rfl⟩, rfl⟩ := h
    rfl
  · obtain ⟨x, A, W, J0, as, s0, p, ok, rfl, ⟨rfl, rfl⟩, rfl⟩ := h
    have hw := hasW_perm p
    have e : (ascI W.wk).map (askD W) = ((ascI W.wk).filter fun _ => true).map (askD W) := by rw [filter_yes]
    rw [e]
    refine sg_retL (ev_lcI (ns := ascI W.wk) (g := askD W) (sorted_ok (ev_wwaiting hw q (slf 0)) (mem_wk hw)) ?_ (fun A k hk => et_yes) fun A k hk hf => ?_) ⟨List.Perm.refl _, rfl⟩
    · have := wk_len ok
      rw [ascI_len ok.wn]
      omega
    · exact ev_ask (x := x) ok (hasW_cons (B := A) hw) q rfl rfl (wk_ks ok hk)
theorem scFWended : FnScope ["self"] ["self"] (defScope sFWended) := ⟨rfl, rfl, rfl, by decide +kernel, rfl, by decide +kernel, by decide +kernel⟩
theorem ok_endedFW (F : FunM K "ended" "FreeWarp.ended" sFWended f fd) (T : Txt K mg) (q : ClsF K C) : FnOk P w K mg base CX0 1 f fd ["self"] (spG (rdP C m gEnded)) := by
  have sc := scFWended
  refine fn_sg F sc (fun J ss R h => ?_) (fun cdv A outer s H E hr => ⟨_, (pss_one (ps_ret (pe_callB (call_sortedDI rfl) (by rfl) T.n_sorted (by decide +kernel) (pa_cons (pe_fld (pv 0) rfl) pa_nil)))), fun J ss R h => ?_⟩)
  · obtain ⟨x, A, W, J0, as, s0, p, ok, rfl, ⟨rfl, rfl⟩, rfl⟩ := h
    rfl
  · obtain ⟨x, A, W, J0, as, s0, p, ok, rfl, ⟨rfl, rfl⟩, rfl⟩ := h
    have hw := hasW_perm p
    exact sg_retL (sorted_ok (ev_wgone hw q (slf 0)) (mem_gk hw)) ⟨List.Perm.refl _, rfl⟩
theorem scFWlanes : FnScope ["self", "tid"] ["self"] (defScope sFWlanes) := ⟨rfl, rfl, rfl, by decide +kernel, rfl, by decide +kernel, by decide +kernel⟩
theorem ok_lanesFW (F : FunM K "lanes" "FreeWarp.lanes" sFWlanes f fd) (T : Txt K mg) (q : ClsF K C) : FnOk P w K mg base CX0 1 f fd ["self"] (spG (rdP C m gLanes)) := by
  have sc := scFWlanes
  refine fn_sg F sc (fun J ss R h => ?_) (fun cdv A outer s H E hr => ⟨_, (pss_one (ps_ret (pe_lc (own := [("tid", 1)]) (g := gName 1) (tt := tYes) (by rfl) sc.nd (pi_list (pe_callB (call_sortedDI rfl) (by rfl) T.n_sorted (by decide +kernel) (pa_cons (pe_fld (pv 0) rfl) pa_nil))) (blkOk_by (own := [("tid", 1)]) (N := ["self", "tid"]) (sc := defScope sFWlanes) (by decide +kernel)) (fun _ _ _ _ _ => pg_name (i := 1) sc.nd rfl (Or.inl rfl)) (fun _ _ _ _ _ => pts_nil) (fun _ _ _ _ _ => by apply pe_at; (exact (pe_dget (hu_of hr) (pe_fld (pv 0) rfl) (pv 1) (fun _ _ => rfl))); (try dsimp only [Cx.blk]); try exact rfl)))), fun J ss R h => ?_⟩)
  · obtain ⟨x, A, W, J0, as, s0, p, ok, rfl, ⟨rfl, rfl⟩, rfl⟩ := h
    rfl
  · obtain ⟨x, A, W, J0, as, s0, p, ok, rfl, ⟨rfl, rfl⟩, rfl⟩ := h
    have hw := hasW_perm p
    have e : W.ks.map (fun k => (W.st k).toD) = ((ascI W.ks).filter fun _ => true).map (fun k => (W.st k).toD) := by rw [filter_yes, asc_self ok.asc]
    rw [e]
    refine sg_retL (ev_lcI (ns := ascI W.ks) (g := fun k => (W.st k).toD) (sorted_ok (ev_wstates hw q (slf 0)) (mem_st hw)) ?_ (fun A k hk => et_yes) fun A k hk hf => ?_) ⟨List.Perm.refl _, rfl⟩
    · have := ok.len
      rw [asc_self ok.asc]
      omega
    · exact ev_wst (hasW_cons (B := A) hw) q (slf 0) (ev_dat rfl) (by rw [asc_self ok.asc] at hk; exact hk)
theorem scWPwaits : FnScope ["self", "tid"] ["self"] (defScope sWPwaits) := ⟨rfl, rfl, rfl, by decide +kernel, rfl, by decide +kernel, by decide +kernel⟩
theorem ok_waitsWP (F : FunM K "waits" "Warp.waits" sWPwaits f fd) (T : Txt K mg) (q : ClsF K C) (c_Frequest : Cal P w K mg base 1 "request" ["code", "lane"] (spG (pureP rRequest))) : FnOk P w K mg base CX0 2 f fd ["self"] (spG (rdP C m gWaits)) := by
  have sc := scWPwaits
  refine fn_sg F sc (fun J ss R h => ?_) (fun cdv A outer s H E hr => ⟨_, (pss_one (ps_ret (pe_lc (own := [("tid", 1)]) (g := gName 1) (tt := tYes) (by rfl) sc.nd (pi_list (pe_callB (call_sortedDI rfl) (by rfl) T.n_sorted (by decide +kernel) (pa_cons (pe_fld (pv 0) rfl) pa_nil))) (blkOk_by (own := [("tid", 1)]) (N := ["self", "tid"]) (sc := defScope sWPwaits) (by decide +kernel)) (fun _ _ _ _ _ => pg_name (i := 1) sc.nd rfl (Or.inl rfl)) (fun _ _ _ _ _ => pts_nil) (fun _ _ _ _ _ => by apply pe_at; (exact (pe_tup (pa_cons (pv 1) (pa_cons (pe_call c_Frequest.ok (hr.mono (by decide)) (by rfl) c_Frequest.hm c_Frequest.hk c_Frequest.hb .nil pass0 (pa_cons (pe_fld (pv 0) rfl) (pa_cons (pe_dget (hu_of hr) (pe_fld (pv 0) rfl) (pv 1) (fun _ _ => rfl)) pa_nil))) pa_nil)))); (try dsimp only [Cx.blk]); try exact rfl)))), fun J ss R h => ?_⟩)
  · obtain ⟨x, A, W, J0, as, s0, p, ok, rfl, ⟨rfl, rfl⟩, rfl⟩ := h
    rfl
  · obtain ⟨x, A, W, J0, as, s0, p, ok, rfl, ⟨rfl, rfl⟩, rfl⟩ := h
    have hw := hasW_perm p
    have e : (ascI W.wk).map (askD W) = ((ascI W.wk).filter fun _ => true).map (askD W) := by rw [filter_yes]
    rw [e]
    refine sg_retL (ev_lcI (ns := ascI W.wk) (g := askD W) (sorted_ok (ev_wwaiting hw q (slf 0)) (mem_wk hw)) ?_ (fun A k hk => et_yes) fun A k hk hf => ?_) ⟨List.Perm.refl _, rfl⟩
    · have := wk_len ok
      rw [ascI_len ok.wn]
      omega
    · exact ev_ask (x := x) ok (hasW_cons (B := A) hw) q rfl rfl (wk_ks ok hk)
theorem scWPended : FnScope ["self"] ["self"] (defScope sWPended) := ⟨rfl, rfl, rfl, by decide +kernel, rfl, by decide +kernel, by decide +kernel⟩
theorem ok_endedWP (F : FunM K "ended" "Warp.ended" sWPended f fd) (T : Txt K mg) (q : ClsF K C) : FnOk P w K mg base CX0 1 f fd ["self"] (spG (rdP C m gEnded)) := by
  have sc := scWPended
  refine fn_sg F sc (fun J ss R h => ?_) (fun cdv A outer s H E hr => ⟨_, (pss_one (ps_ret (pe_callB (call_sortedDI rfl) (by rfl) T.n_sorted (by decide +kernel) (pa_cons (pe_fld (pv 0) rfl) pa_nil)))), fun J ss R h => ?_⟩)
  · obtain ⟨x, A, W, J0, as, s0, p, ok, rfl, ⟨rfl, rfl⟩, rfl⟩ := h
    rfl
  · obtain ⟨x, A, W, J0, as, s0, p, ok, rfl, ⟨rfl, rfl⟩, rfl⟩ := h
    have hw := hasW_perm p
    exact sg_retL (sorted_ok (ev_wgone hw q (slf 0)) (mem_gk hw)) ⟨List.Perm.refl _, rfl⟩
theorem scWPlanes : FnScope ["self", "tid"] ["self"] (defScope sWPlanes) := ⟨rfl, rfl, rfl, by decide +kernel, rfl, by decide +kernel, by decide +kernel⟩
theorem ok_lanesWP (F : FunM K "lanes" "Warp.lanes" sWPlanes f fd) (T : Txt K mg) (q : ClsF K C) : FnOk P w K mg base CX0 1 f fd ["self"] (spG (rdP C m gLanes)) := by
  have sc := scWPlanes
  refine fn_sg F sc (fun J ss R h => ?_) (fun cdv A outer s H E hr => ⟨_, (pss_one (ps_ret (pe_lc (own := [("tid", 1)]) (g := gName 1) (tt := tYes) (by rfl) sc.nd (pi_list (pe_callB (call_sortedDI rfl) (by rfl) T.n_sorted (by decide +kernel) (pa_cons (pe_fld (pv 0) rfl) pa_nil))) (blkOk_by (own := [("tid", 1)]) (N := ["self", "tid"]) (sc := defScope sWPlanes) (by decide +kernel)) (fun _ _ _ _ _ => pg_name (i := 1) sc.nd rfl (Or.inl rfl)) (fun _ _ _ _ _ => pts_nil) (fun _ _ _ _ _ => by apply pe_at; (exact (pe_dget (hu_of hr) (pe_fld (pv 0) rfl) (pv 1) (fun _ _ => rfl))); (try dsimp only [Cx.blk]); try exact rfl)))), fun J ss R h => ?_⟩)
  · obtain ⟨x, A, W, J0, as, s0, p, ok, rfl, ⟨rfl, rfl⟩, rfl⟩ := h
    rfl
  · obtain ⟨x, A, W, J0, as, s0, p, ok, rfl, ⟨rfl, rfl⟩, rfl⟩ := h
    have hw := hasW_perm p
    have e : W.ks.map (fun k => (W.st k).toD) = ((ascI W.ks).filter fun _ => true).map (fun k => (W.st k).toD) := by rw [filter_yes, asc_self ok.asc]
    rw [e]
    refine sg_retL (ev_lcI (ns := ascI W.ks) (g := fun k => (W.st k).toD) (sorted_ok (ev_wstates hw q (slf 0)) (mem_st hw)) ?_ (fun A k hk => et_yes) fun A k hk hf => ?_) ⟨List.Perm.refl _, rfl⟩
    · have := ok.len
      rw [asc_self ok.asc]
      omega
    · exact ev_wst (hasW_cons (B := A) hw) q (slf 0) (ev_dat rfl) (by rw [asc_self ok.asc] at hk; exact hk)
end
end LK

namespace LK
open PySem PySem.Spec PyProof.Rows L2
local macro_rules | `(tactic| walk_at "rr") => `(tactic| first
  | (with_reducible exact rr_head)
  | ((with_reducible refine rr_ixT (d := ?d) ?h); (case h => exact rfl))
  | (with_reducible exact rr_eqS)
  | (with_reducible exact rr_eqI)
  | (with_reducible exact rr_neI)
  | (with_reducible exact rr_II)
  | (with_reducible exact rr_IB))
local macro_rules | `(tactic| walk_at "ev") => `(tactic| first
  | (with_reducible exact ev_int)
  | (with_reducible exact ev_str)
  | (with_reducible exact ev_non)
  | (with_reducible exact ev_bl)
  | ((with_reducible refine ev_dat (d := ?d) ?h); (case h => exact rfl))
  | (with_reducible exact ea_d0)
  | ((with_reducible refine ea_d (d := ?d) (ds := ?ds) ?h1 ?h2); (case h1 => walk_at "ev"); (case h2 => walk_at "ev"))
  | ((with_reducible refine ev_op (da := ?da) (db := ?db) (dc := ?dc) ?h1 ?h2 ?h3); (case h1 => walk_at "ev"); (case h2 => walk_at "ev"); (case h3 => walk_at "rr"))
  | ((with_reducible refine ev_tup (ds := ?ds) ?h1 ?h2); (case h1 => walk_at "ev"); (case h2 => exact Nat.le_of_ble_eq_true rfl))
  | ((with_reducible refine et_b (b := ?b) ?h1); (case h1 => walk_at "ev")))

/-- a method that changes the warp -/
def wrP (C : Addr) (m : Bool) (G : WSt → WSt → List Sl → Prop) : List Atom → List Sl → JO → Prop := fun J ss R => ∃ x A W W' J0 as, J.Perm (wpJ C x m A W ++ J0) ∧ W.Ok ∧ ss = .val (.ref x) :: as ∧ G W W' as ∧ R = fun J1 _ => ∃ A', J1.Perm (wpJ C x m A' W' ++ J0)
section
variable {J J0 : List Atom} {δ : SE} {te tv : TE} {t : TA} {u : TS} {K : PySem.W.Frag} {C x : Addr} {m : Bool} {A : WA} {W W' : WSt} {O : Outs}
theorem ev_wr {nm : Str} {G : WSt → WSt → List Sl → Prop} {E : XK} {as : List Sl} (p : J.Perm (wpJ C x m A W ++ J0)) (ok : W.Ok) (ho : EvV J te δ (.ref x)) (hn : fldN.all (fun g => !decide (nm = g)) = true) (ha : EvA J t δ fun ss => ss = as) (g : G W W' as) :
    EvG J (tMeth C nm (spG (wrP C m G)) [] E te t) δ fun J1 _ => ∃ A', J1.Perm (wpJ C x m A' W' ++ J0) :=
  ev_meth ho (fun F H o => ⟨A.dx, _, own_ins (hasW_perm p) o, lk_no hn⟩) ha fun ss e => ⟨_, ⟨x, A, W, W', J0, as, p, ok, by rw [e], g, rfl⟩, fun J1 s h => h⟩
theorem sg_lose {A : Atom} (h : SG J u δ O) : SG (A :: J) u δ O := fun F0 H0 τd σ τ H D S => h F0 H0 τd σ τ H D S.lose
theorem sg_fldG {dx : Addr} {fs : List (Str × V)} {dd : List (Dt × V)} {f : Str} {P : JO} (hv : EvG J tv δ P) (c : Cls K C) (n : NoAttr K C f) (hz : fs.length < 1000)
    (hk : ∀ J1 sl, P J1 sl → ∃ s t v, J1 = s ++ insA x C dx fs dd :: t ∧ sl = .val v ∧ EvV (s ++ insA x C dx fs dd :: t) te δ (.ref x) ∧ O.nx (s ++ insA x C dx (putF f v fs) dd :: t) δ) : SG J (sFld K te tv f) δ O := fun F0 H0 τd σ τ H D S a b k => hv _ _ _ _ _ _ _ S fun J1 sl v1 H1 p S1 => by
  obtain ⟨s, t, v, e1, e2, ho, q⟩ := hk J1 sl p
  subst e1 e2
  obtain ⟨F, _, _, ev⟩ := S1.top
  have ev : v1 = v := ev
  subst ev
  exact sg_fld (tv := fun _ H Q => Q v1 H) (P := fun J' sl' => J' = s ++ insA x C dx fs dd :: t ∧ sl' = .val v1) (fun F0 H0 τd σ τ H Q S k => k _ _ _ H ⟨rfl, rfl⟩ (S.push fun F _ _ _ _ => rfl)) (fun J1 sl ⟨e1, e2⟩ => ⟨e1, e2, ho⟩) c n hz q F0 H0 τd σ τ H1 D S1.pop a b k
theorem fld_len {b f : Int} : (fldW m b f A).length < 1000 := by
  cases m <;> exact Nat.le_of_ble_eq_true rfl
end
theorem snoc_ind {α : Type} {M : List α → Prop} (h0 : M []) (hs : ∀ l a, M l → M (l ++ [a])) (l : List α) : M l := by
  have q : ∀ r : List α, M r.reverse := fun r => by
    induction r with
    | nil => exact h0
    | cons a r ih => rw [List.reverse_cons]; exact hs _ _ ih
  have := q l.reverse
  rw [List.reverse_reverse] at this
  exact this
theorem addK_in {ks : List Int} {k : Int} (h : k ∈ ks) : addK ks k = ks := if_pos h
theorem go_f (W : WSt) (k w : Int) : upF (fun j => (W.st j).toD) k (behindN W.p (W.base + k) (W.st k) w).toD = fun j => ((W.go k w).st j).toD := by
  funext j
  show (if j = k then _ else _) = Lane.toD (if j = k then _ else _)
  split <;> rfl
theorem upF_const {k : Int} {d : Dt} : upF (fun _ => d) k d = fun _ => d := by
  funext j
  unfold upF
  split <;> rfl
theorem adv_snoc {W : WSt} {ps : List (Int × Int)} {q : Int × Int} : adv W (ps ++ [q]) = adv1 (adv W ps) q.1 q.2 := by
  unfold adv
  rw [List.foldl_append]
  rfl
theorem goes_snoc {W : WSt} {ps : List (Int × Int)} {q : Int × Int} : goes W (ps ++ [q]) = (goes W ps).go q.1 q.2 := by
  unfold goes
  rw [List.foldl_append]
  rfl
/-- after some rows: what the others ask has not changed -/
theorem adv_keep {W : WSt} (ok : W.Ok) : ∀ {ps qs : List (Int × Int)}, ((ps ++ qs).map (·.1)).Nodup → (∀ q ∈ ps, q.1 ∈ W.ks ∧ Wd q.2) → (adv W ps).Ok ∧ (adv W ps).ks = W.ks ∧ (adv W ps).p = W.p ∧ (adv W ps).base = W.base ∧ ∀ k, k ∉ ps.map (·.1) → (adv W ps).st k = W.st k := by
  intro ps
  induction ps using snoc_ind with
  | h0 => exact fun _ _ => ⟨ok, rfl, rfl, rfl, fun _ _ => rfl⟩
  | hs ps q ih =>
    intro qs n h
    rw [List.append_assoc] at n
    obtain ⟨h1, h2, h3, h4, h5⟩ := ih (qs := [q] ++ qs) n fun r hr => h r (List.mem_append_left _ hr)
    obtain ⟨hq1, hq2⟩ := h q (List.mem_append_right _ (List.mem_singleton.mpr rfl))
    rw [adv_snoc]
    refine ⟨adv1_ok h1 (by rw [h2]; exact hq1) hq2, adv1_ks.trans h2, adv1_p.trans h3, adv1_base.trans h4, fun k hk => ?_⟩
    rw [List.map_append, List.mem_append] at hk
    rw [adv1_st (fun e => hk (.inr (by rw [e]; exact List.mem_singleton.mpr rfl))), h5 k fun z => hk (.inl z)]
theorem goes_keep {W : WSt} (ok : W.Ok) : ∀ {ps : List (Int × Int)}, (∀ q ∈ ps, q.1 ∈ W.ks ∧ Wd q.2) → (goes W ps).Ok ∧ (goes W ps).ks = W.ks := by
  intro ps
  induction ps using snoc_ind with
  | h0 => exact fun _ => ⟨ok, rfl⟩
  | hs ps q ih =>
    intro h
    obtain ⟨h1, h2⟩ := ih fun r hr => h r (List.mem_append_left _ hr)
    obtain ⟨hq1, hq2⟩ := h q (List.mem_append_right _ (List.mem_singleton.mpr rfl))
    rw [goes_snoc]
    exact ⟨h1.go (by rw [h2]; exact hq1) hq2, h2⟩
section
variable {P : Program} {w : World} {K : PySem.W.Frag} {mg : Str → Option Value} {base : Heap} {f : Addr} {fd : FuncData} {C : Addr} {m : Bool}
theorem scFWgoon : FnScope ["self", "tid", "word"] ["self", "tid", "word"] (defScope sFWgoon) := ⟨rfl, rfl, rfl, by decide +kernel, rfl, by decide +kernel, by decide +kernel⟩
def gGoOn (W W' : WSt) (as : List Sl) : Prop := ∃ k z, k ∈ W.ks ∧ Wd z ∧ as = [.dat (.int k), .dat (.int z)] ∧ W' = W.go k z
theorem ok_go_on (F : FunM K "go_on" "FreeWarp.go_on" sFWgoon f fd) (T : Txt K mg) (q : ClsF K C) (c_Fbehind : Cal P w K mg base 5 "behind" ["code", "launch", "thread", "lane", "word"] (spG (pureP rBehind))) : FnOk P w K mg base CX0 6 f fd ["self", "tid", "word"] (spG (wrP C m gGoOn)) := by
  have sc := scFWgoon
  refine fn_sg F sc (fun J ss R h => ?_) (fun cdv A outer s H E hr => ⟨_, (pss_one (ps_dput (hu_of hr) (pe_fld (pv 0) rfl) (pv 1) (pe_call c_Fbehind.ok (hr.mono (by decide)) (by rfl) c_Fbehind.hm c_Fbehind.hk c_Fbehind.hb .nil pass0 (pa_cons (pe_fld (pv 0) rfl) (pa_cons (pe_fld (pv 0) rfl) (pa_cons (pe_op op_add (pe_fld (pv 0) rfl) (pv 1)) (pa_cons (pe_dget (hu_of hr) (pe_fld (pv 0) rfl) (pv 1) (fun _ _ => rfl)) (pa_cons (pv 2) pa_nil)))))) rfl)), fun J ss R h => ?_⟩)
  · obtain ⟨x, A, W, W', J0, as, p, ok, rfl, ⟨k, z, hk, hz, rfl, rfl⟩, rfl⟩ := h
    rfl
  · obtain ⟨x, A, W, W', J0, as, p, ok, rfl, ⟨k, z, hk, hz, rfl, rfl⟩, rfl⟩ := h
    refine SG.perm p ?_
    have hw : HasW (wpJ C x m A W ++ J0) C x m A W := hasW_self
    refine sg_dput (s := [insW C x m A W]) (t := dictD A.dw W.wk (fun _ => .bl true) :: dictD A.dg W.gk (fun _ => .bl true) :: (stk m A W ++ J0)) (ks := W.ks) (g := fun j => (W.st j).toD) (e := (behindN W.p (W.base + k) (W.st k) z).toD) (k := k) ?_ (ev_wstates hw q (slf 0)) (ev_dat rfl) (by rw [addK_in hk]; have := ok.len; omega) ?_
    · exact ev_pure (ea_d (ev_wcode hw q (slf 0)) (ea_d (ev_wlaunch hw q (slf 0)) (ea_d (ev_op (ev_wbase hw q (slf 0)) (ev_dat (d := .int k) rfl) rr_II) (ea_d (ev_wst hw q (slf 0) (ev_dat rfl) hk) (ea_d (ev_dat rfl) ea_d0))))) ⟨W.p, W.st k, W.base + k, z, ok.p, ok.st k hk, (ok.thr k hk).1, (ok.thr k hk).2, hz, rfl, rfl⟩
    · rw [addK_in hk, go_f]
      exact ⟨A, List.Perm.refl _⟩
theorem scFWadvance : FnScope ["self", "rows", "words", "pair", "word", "tid", "asked"] ["self", "rows", "words"] (defScope sFWadvance) := ⟨rfl, rfl, rfl, by decide +kernel, rfl, by decide +kernel, by decide +kernel⟩
def gAdvance (W W' : WSt) (as : List Sl) : Prop := ∃ ps : List (Int × Int), (ps.map (·.1)).Nodup ∧ (∀ q ∈ ps, q.1 ∈ W.ks ∧ Wd q.2) ∧ as = [.lst (ps.map fun q => askD W q.1), .lst (ps.map fun q => .int q.2)] ∧ W' = adv W ps
theorem ok_advance (F : FunM K "advance" "FreeWarp.advance" sFWadvance f fd) (T : Txt K mg) (q : ClsF K C) (m_goon : CalM P w K mg base C 6 "go_on" ["self", "tid", "word"] (spG (wrP C m gGoOn))) : FnOk P w K mg base CX0 7 f fd ["self", "rows", "words"] (spG (wrP C m gAdvance)) := by
  have sc := scFWadvance
  refine fn_sg F sc (fun J ss R h => ?_) (fun cdv A outer s H E hr => ⟨_, (pss_one (ps_for PassesOwn.never rfl (pi_zip (by rfl) T.n_zip (pa_cons (pv 1) (pa_cons (pv 2) pa_nil))) (pg_tup (by rfl) (pgs_cons (pg_name (i := 3) sc.nd rfl (.inl rfl)) (pgs_cons (pg_name (i := 4) sc.nd rfl (.inl rfl)) pgs_nil))) (pss_cons (ps_asg (pv 3) (pg_tup (by rfl) (pgs_cons (pg_name (i := 5) sc.nd rfl (.inl rfl)) (pgs_cons (pg_name (i := 6) sc.nd rfl (.inl rfl)) pgs_nil))))
    (pss_one (ps_if (pt_cmpR op_in_seq (pe_ix ix_tup (pv 6) pe_int (fun _ _ => rfl)) (pe_tup (pa_cons pe_str (pa_cons pe_str pa_nil))) (by rfl)) (pss_one (ps_dput (hu_of hr) (pe_fld (pv 0) rfl) (pv 5) pe_bl rfl)) (pss_one (ps_if (pt_cmpR op_eq (pe_ix ix_tup (pv 6) pe_int (fun _ _ => rfl)) pe_str (nomark _)) (pss_one (ps_dput (hu_of hr) (pe_fld (pv 0) rfl) (pv 5) pe_bl rfl)) (pss_one (ps_expr (pe_meth (pv 0) q.cl m_goon.mt m_goon.ok (hr.mono (by decide)) m_goon.hb .nil pass0 (pa_cons (pv 5) (pa_cons (pv 4) pa_nil)))))))))))), fun J ss R h => ?_⟩)
  · obtain ⟨x, A, W, W', J0, as, p, ok, rfl, ⟨ps, hn, hp, rfl, rfl⟩, rfl⟩ := h
    rfl
  · obtain ⟨x, A, W, W', J0, as, p, ok, rfl, ⟨ps, hn, hp, rfl, rfl⟩, rfl⟩ := h
    refine sg_forZ (Iv := fun i J1 δ1 => (∃ A', J1.Perm (wpJ C x m A' (adv W (ps.take i)) ++ J0)) ∧ ∃ a b c d, δ1 = [some (.val (.ref x)), some (.lst (ps.map fun q => askD W q.1)), some (.lst (ps.map fun q => .int q.2)), a, b, c, d])
      (ea_consP (Ps := fun ss => ss = [.lst (ps.map fun q => .int q.2)]) (ev_lst rfl) (ea_consP (Ps := fun ss => ss = []) (ev_lst rfl) ea_nil fun s ss e1 e2 => by rw [e1, e2]) fun s ss e1 e2 => by rw [e1, e2]) (by rw [List.length_map, List.length_map]) ⟨⟨A, p⟩, _, _, _, _, rfl⟩ ?_ ?_
    · rintro i d e J1 δ1 hd he ⟨⟨A1, p1⟩, a, b, c, dd, rfl⟩
      rw [List.getElem?_map] at hd he
      cases hi : ps[i]? with
      | none => rw [hi] at hd; cases hd
      | some qq =>
        rw [hi] at hd he
        obtain ⟨k, z⟩ := qq
        cases hd
        cases he
        have et : ps.take (i + 1) = ps.take i ++ [(k, z)] := by rw [List.take_add_one, hi]; rfl
        have hpe : ps.take (i + 1) ++ ps.drop (i + 1) = ps := List.take_append_drop ..
        have hpe2 : ps.take i ++ ([(k, z)] ++ ps.drop (i + 1)) = ps := by rw [← List.append_assoc, ← et, hpe]
        obtain ⟨ok1, k1, kp, kb, kst⟩ := adv_keep ok (ps := ps.take i) (qs := [(k, z)] ++ ps.drop (i + 1)) (by rw [hpe2]; exact hn) fun r hr => hp r (List.mem_of_mem_take hr)
        obtain ⟨hk, hz⟩ := hp _ (List.mem_of_getElem? hi)
        have hk : k ∈ W.ks := hk
        have hnk : k ∉ (ps.take i).map (·.1) := fun hm => by
          rw [← hpe2, List.map_append, List.nodup_append] at hn
          exact hn.2.2 k hm k (by simp) rfl
        have eins : insOf (adv W (ps.take i)) k = insOf W k := by
          unfold insOf
          rw [kst k hnk, kp]
        rw [et, adv_snoc]
        generalize adv W (ps.take i) = Wi at p1 ok1 k1 kp kst eins ⊢
        refine ⟨_, tg_tup (tgs_cons tg_name (tgs_cons tg_name tgs_nil)), ?_⟩
        refine SG.perm p1 ?_
        have hw : HasW (wpJ C x m A1 Wi ++ J0) C x m A1 Wi := hasW_self
        obtain ⟨r, hr⟩ := reqD_head (W.st k) (insOf W k)
        have hask : askD W k = .tup [.int k, .tup (.str (rkind (insOf W k)) :: r)] := by
          unfold askD reqW
          rw [hr]
        refine sg_letT (d := .tup [.int k, .tup (.str (rkind (insOf W k)) :: r)]) (ev_dat (by rw [← hask]; rfl)) (tg_tup (tgs_cons tg_name (tgs_cons tg_name tgs_nil))) ?_
        have hk1 : k ∈ Wi.ks := by rw [k1]; exact hk
        refine sg_ifB (et_b (ev_in2 (x := rkind (insOf W k)) (ev_op (da := .tup (.str (rkind (insOf W k)) :: r)) (ev_dat rfl) ev_int rr_head) (by walk_at "ev"))) (fun e => ?_) fun e1 => ?_
        · rw [rk_wait] at e
          have ea : adv1 Wi k z = Wi.wait k := by
            unfold adv1
            rw [eins, if_pos e]
          refine sg_dput (s := [insW C x m A1 Wi, dictD A1.ds Wi.ks (fun k => (Wi.st k).toD)]) (t := dictD A1.dg Wi.gk (fun _ => .bl true) :: (stk m A1 Wi ++ J0)) (ks := Wi.wk) (g := fun _ => .bl true) (e := .bl true) (k := k) ev_bl (ev_wwaiting hw q (slf 0)) (ev_dat rfl) (by have := wk_len (ok1.wait hk1); exact Nat.le_trans this (by decide)) ?_
          rw [upF_const]
          exact ⟨⟨A1, by rw [ea]; exact List.Perm.refl _⟩, _, _, _, _, rfl⟩
        rw [rk_wait] at e1
        refine sg_ifB (et_b (ev_op (ev_op (da := .tup (.str (rkind (insOf W k)) :: r)) (ev_dat rfl) ev_int rr_head) ev_str rr_eqS)) (fun e => ?_) fun e2 => ?_
        · rw [rk_exit] at e
          have ea : adv1 Wi k z = Wi.leave k := by
            unfold adv1
            rw [eins, e1, if_neg Bool.false_ne_true, if_pos e]
          refine sg_dput (s := [insW C x m A1 Wi, dictD A1.ds Wi.ks (fun k => (Wi.st k).toD), dictD A1.dw Wi.wk (fun _ => .bl true)]) (t := stk m A1 Wi ++ J0) (ks := Wi.gk) (g := fun _ => .bl true) (e := .bl true) (k := k) ev_bl (ev_wgone hw q (slf 0)) (ev_dat rfl) (by have := gk_len (ok1.leave hk1); exact Nat.le_trans this (by decide)) ?_
          rw [upF_const]
          exact ⟨⟨A1, by rw [ea]; exact List.Perm.refl _⟩, _, _, _, _, rfl⟩
        rw [rk_exit] at e2
        have ea : adv1 Wi k z = Wi.go k z := by
          unfold adv1
          rw [eins, e1, e2]
          rfl
        refine sg_dropG (ev_wr (W' := Wi.go k z) (List.Perm.refl _) ok1 (slf 0) (by decide +kernel) (ea_d (ev_dat rfl) (ea_d (ev_dat rfl) ea_d0)) ⟨k, z, hk1, hz, rfl, rfl⟩) fun J2 s ⟨A2, p2⟩ => ?_
        exact ⟨⟨A2, by rw [ea]; exact p2⟩, _, _, _, _, rfl⟩
    · rintro J1 δ1 ⟨⟨A1, p1⟩, _⟩
      rw [List.length_map, List.take_length] at p1
      exact ⟨A1, p1⟩
end
end LK

namespace LK
open PySem PySem.Spec PyProof.Rows L2
local macro_rules | `(tactic| walk_at "rr") => `(tactic| first
  | (with_reducible exact rr_head)
  | ((with_reducible refine rr_ixT (d := ?d) ?h); (case h => exact rfl))
  | (with_reducible exact rr_eqS)
  | (with_reducible exact rr_eqI)
  | (with_reducible exact rr_neI)
  | (with_reducible exact rr_II)
  | (with_reducible exact rr_IB))
local macro_rules | `(tactic| walk_at "ev") => `(tactic| first
  | (with_reducible exact ev_int)
  | (with_reducible exact ev_str)
  | (with_reducible exact ev_non)
  | (with_reducible exact ev_bl)
  | ((with_reducible refine ev_dat (d := ?d) ?h); (case h => exact rfl))
  | (with_reducible exact ea_d0)
  | ((with_reducible refine ea_d (d := ?d) (ds := ?ds) ?h1 ?h2); (case h1 => walk_at "ev"); (case h2 => walk_at "ev"))
  | ((with_reducible refine ev_op (da := ?da) (db := ?db) (dc := ?dc) ?h1 ?h2 ?h3); (case h1 => walk_at "ev"); (case h2 => walk_at "ev"); (case h3 => walk_at "rr"))
  | ((with_reducible refine ev_tup (ds := ?ds) ?h1 ?h2); (case h1 => walk_at "ev"); (case h2 => exact Nat.le_of_ble_eq_true rfl))
  | ((with_reducible refine et_b (b := ?b) ?h1); (case h1 => walk_at "ev")))

/-! ### dicts by a comprehension over a range; tuples of ranges -/
def keysN (lo n : Nat) : List Int := (List.range n).map fun i : Nat => ((lo : Int) + (i : Int))
theorem keysN_succ {lo n : Nat} : keysN lo (n + 1) = keysN lo n ++ [(lo : Int) + (n : Int)] := by
  unfold keysN
  rw [List.range_succ, List.map_append]
  rfl
theorem mem_keysN {lo n : Nat} {k : Int} : k ∈ keysN lo n ↔ (lo : Int) ≤ k ∧ k < (lo : Int) + n := by
  unfold keysN
  rw [List.mem_map]
  constructor
  · rintro ⟨i, hi, rfl⟩
    have := List.mem_range.mp hi
    omega
  · rintro ⟨h1, h2⟩
    exact ⟨(k - lo).toNat, List.mem_range.mpr (by omega), by omega⟩
theorem keysN_len {lo n : Nat} : (keysN lo n).length = n := by
  unfold keysN
  rw [List.length_map, List.length_range]
theorem keysN_asc (lo n : Nat) : (keysN lo n).Pairwise (· < ·) := by
  unfold keysN
  rw [List.pairwise_map]
  exact List.Pairwise.imp (fun h => by omega) List.pairwise_lt_range
section
variable {J J0 : List Atom} {δ : SE} {te tv tk ta tb : TE} {t : TA} {u : TS} {K : PySem.W.Frag} {C x : Addr} {m : Bool} {A : WA} {W W' : WSt} {O : Outs}
theorem ev_dcR {j : Nat} {lo n : Nat} {g : Int → Dt} (hl : EvA J t δ fun ss => ss = [.dat (.int lo), .dat (.int ((lo : Int) + n))]) (hn : n ≤ 6) (hlo : lo ≤ 100000) (hk : ∀ A k, k ∈ keysN lo n → EvD (A :: J) tk (δ.set j (some (.dat (.int k)))) (.int k))
    (hv : ∀ A k, k ∈ keysN lo n → EvD (A :: J) tv (δ.set j (some (.dat (.int k)))) (g k)) : EvG J (tDc (iRng2 t) (gName j) tYes tk tv [j]) δ fun J1 s => ∃ d, J1 = dictD d (keysN lo n) g :: J ∧ s = .val (.ref d) := fun F0 H0 τd σ τ H Q S kk =>
  hl _ _ _ _ _ _ _ S fun ss vs H1 es l S1 => by
    subst es
    obtain ⟨F, tt⟩ := S1.args l
    obtain ⟨v, r, rfl, e1, v2, r2, rfl, e3, e4⟩ := tt
    have e1 : v = .int lo := e1
    have e3 : v2 = .int ((lo : Int) + n) := e3
    have e4 : r2 = [] := e4
    subst e1 e3 e4
    have S2 := S1.drop (ss := [.dat (.int lo), .dat (.int ((lo : Int) + n))]) (vs := [.int lo, .int ((lo : Int) + n)]) rfl
    refine ⟨lo, (lo : Int) + n, rfl, ⟨by omega, by omega, by omega, by omega⟩, fun D hD => ?_⟩
    rw [show ((lo : Int) + n - lo).toNat = n by omega]
    refine ⟨fun i m H => m = n - i ∧ i ≤ n ∧ Sta (dictD D (keysN lo i) g :: J) F0 H0 δ τd σ τ H, ⟨n, by omega, Nat.zero_le _, ?_⟩, ?_⟩
    · exact S2.own1 (A := dictD D [] g) hD ⟨fun _ => Iff.rfl, List.nodup_nil, Nat.zero_le _, fun _ => .non, upd_same, fun k hk => by cases hk⟩
    · rintro i mm H2 ⟨rfl, hi, S3⟩
      by_cases hlt : i < n
      · refine .inr ⟨hlt, fun H3 => Sta (dictD D (keysN lo (i + 1)) g :: J) F0 H0 δ τd σ τ H3, fun H3 p => ⟨n - (i + 1), by omega, rfl, hlt, p⟩, ?_⟩
        rintro x H3 ⟨ex, eh⟩
        subst ex eh
        have hki : (lo : Int) + (i : Int) ∈ keysN lo n := mem_keysN.mpr ⟨by omega, by omega⟩
        generalize hkk : (lo : Int) + (i : Int) = k at hki ⊢
        obtain ⟨F, x, o, dd, ht, S'⟩ := S3.open
        have e1 : (wipe σ [j]).set j (some (.int k)) = σ.set j (some (.int k)) := List.set_set ..
        have e2 : wipe (σ.set j (some (.int k))) [j] = wipe σ [j] := List.set_set ..
        unfold gName
        rw [e1]
        refine ⟨e2, ?_⟩
        show tk _ _ _
        have Sb : Sta (dictD D (keysN lo i) g :: J) F H3 (δ.set j (some (.dat (.int k)))) [] (σ.set j (some (.int k))) [] H3 := ⟨F, Fr.refl F H3, o, dd.set (s := .dat (.int k)) rfl j, rfl⟩
        refine hk _ k hki _ _ _ _ _ _ _ Sb fun J4 s4 y H4 ⟨e4, d4, es4, p4⟩ S4 => ?_
        subst e4 es4 p4
        refine hv _ k hki _ _ _ _ _ _ _ S4 fun J5 s5 z H5 ⟨e5, d5, es5, p5⟩ S5 => ?_
        subst e5 es5 p5
        have ey : y = .int k := S5.pop.dat
        have hz : IsD H5 (g k) z := S5.dat
        obtain ⟨F5, x5, o5, _⟩ := S5.ex
        have S6 : Sta (dictD D (keysN lo i) g :: J) F0 H0 δ τd σ τ H5 := ⟨F5, x.trans x5, o5, dd.fr x5, ht.fr x5⟩
        obtain ⟨F6, _, hnd, _, sv, hd, hs⟩ := S6.atom (A := dictD D (keysN lo i) g) (List.mem_cons_self ..)
        refine ⟨_, (Sum.inl k : L2.Key), ey, hd, by rw [dOf_len, keysN_len]; exact Nat.lt_of_lt_of_le hlt (Nat.le_trans hn (by decide)), ?_⟩
        have hnk : k ∉ keysN lo i := fun h => by have := mem_keysN.mp h; omega
        have eks : addK (keysN lo i) k = keysN lo (i + 1) := by
          rw [keysN_succ, hkk]
          exact if_neg hnk
        rw [put_dOf, eks]
        refine S6.put fun F2 ⟨ef, _⟩ => ⟨(ef D).mpr rfl, ef, asc_nodup (keysN_asc _ _), by rw [keysN_len]; omega, _, upd_same, fun q hq => ?_⟩
        have tk2 : ∀ b xs, H5 b = some (.tup xs) → upd H5 D (.dK (dOf (keysN lo (i + 1)) (upF sv k z))) b = some (.tup xs) := fun b xs hb => by
          rw [upd_ne (fun z => by rw [z, hd] at hb; cases hb)]
          exact hb
        refine IsD.tk tk2 _ _ ?_
        by_cases ej : q = k
        · subst ej
          rw [upF_same]
          exact hz
        · rw [upF_ne ej]
          rw [keysN_succ, List.mem_append, List.mem_singleton, hkk] at hq
          exact hs q (hq.resolve_right ej)
      · obtain rfl : i = n := by omega
        refine .inl ⟨Nat.le_refl _, ?_⟩
        exact kk _ (.val (.ref D)) _ _ ⟨D, rfl, rfl⟩ (S3.push fun F _ _ _ _ => rfl)
theorem ev_tupRg {lo n : Nat} (ha : EvD J ta δ (.int lo)) (hb : EvD J tb δ (.int ((lo : Int) + n))) (hn : n ≤ 6) (hlo : lo ≤ 100000) : EvD J (tTupRg (tRg2 ta tb)) δ (.tup ((keysN lo n).map Dt.int)) := fun F0 H0 τd σ τ H Q S k =>
  ha _ _ _ _ _ _ _ S fun J1 s v H1 ⟨e, d, es, ed⟩ S1 => by
    subst e es ed
    refine hb _ _ _ _ _ _ _ S1 fun J2 s2 v2 H2 ⟨e2, d2, es2, ed2⟩ S2 => ?_
    subst e2 es2 ed2
    have ev : v = .int lo := S2.pop.dat
    have ev2 : v2 = .int ((lo : Int) + n) := S2.dat
    refine ⟨lo, (lo : Int) + n, ev, ev2, ⟨by omega, by omega, by omega, by omega, by omega⟩, fun p hp => k _ _ _ _ ⟨rfl, _, rfl, rfl⟩ (S2.pop.pop.newTup hp ?_)⟩
    have e : rgV (lo : Int) ((lo : Int) + n) = (keysN lo n).map V.int := by
      unfold rgV keysN
      rw [show ((lo : Int) + n - lo).toNat = n by omega, List.map_map]
      rfl
    rw [e]
    exact IsDs.of_ints _
theorem wpJ_wk : (wpJ C x m A W ++ J0).Perm (dictD A.dw W.wk (fun _ => .bl true) :: (insW C x m A W :: dictD A.ds W.ks (fun k => (W.st k).toD) :: dictD A.dg W.gk (fun _ => .bl true) :: (stk m A W ++ J0))) :=
  List.perm_middle (a := dictD A.dw W.wk (fun _ => .bl true)) (l₁ := [insW C x m A W, dictD A.ds W.ks fun k => (W.st k).toD]) (l₂ := dictD A.dg W.gk (fun _ => .bl true) :: (stk m A W ++ J0))
abbrev ddW (W : WSt) (A : WA) : List (Dt × V) := [(W.p.code, A.cv), (W.p.launch, A.lv), (.int W.base, .int W.base), (.int W.first, .int W.first)]
theorem Sta.weak {A A' : Atom} {F0 : AS} {H0 H : Hp} {τd : List Sl} {σ : L2.St} {τ : List V} (h : ∀ F H, A.I F H → A'.I F H) (S : Sta (A :: J) F0 H0 δ τd σ τ H) : Sta (A' :: J) F0 H0 δ τd σ τ H := by
  obtain ⟨F, x, ⟨F1, F2, e, dj, h1, h2⟩, d, t⟩ := S.ex
  exact ⟨F, x, ⟨F1, F2, e, dj, h _ _ h1, h2⟩, d, t⟩
theorem sg_weak {A A' : Atom} (h : ∀ F H, A.I F H → A'.I F H) (hs : SG (A' :: J) u δ O) : SG (A :: J) u δ O := fun F0 H0 τd σ τ H D S => hs F0 H0 τd σ τ H D (S.weak h)
theorem sg_setD {s t : List Atom} {dx : Addr} {fs : List (Str × V)} {dd : List (Dt × V)} {f : Str} {d : Dt} (hv : EvD (s ++ insA x C dx fs dd :: t) tv δ d) (ho : EvV (s ++ insA x C dx fs dd :: t) te δ (.ref x)) (c : Cls K C) (n : NoAttr K C f) (hz : fs.length < 1000)
    (k : ∀ v, (d.flat = true → v = d.val) → SG (s ++ insA x C dx (putF f v fs) ((d, v) :: dd) :: t) u δ O) : SG (s ++ insA x C dx fs dd :: t) (tSeq (sFld K te tv f) u) δ O :=
  sg_seq (N := fun J1 δ1 => ∃ v, (d.flat = true → v = d.val) ∧ J1 = s ++ insA x C dx (putF f v fs) ((d, v) :: dd) :: t ∧ δ1 = δ) (sg_fldD hv ho c n hz fun v h => ⟨v, h, rfl, rfl⟩) fun J1 δ1 ⟨v, h, e1, e2⟩ => by
    rw [e1, e2]
    exact k v h
theorem sg_setG {dx : Addr} {fs : List (Str × V)} {dd : List (Dt × V)} {f : Str} {P : JO} (hv : EvG J tv δ P) (c : Cls K C) (n : NoAttr K C f) (hz : fs.length < 1000)
    (hk : ∀ J1 sl, P J1 sl → ∃ s t v, J1 = s ++ insA x C dx fs dd :: t ∧ sl = .val v ∧ EvV (s ++ insA x C dx fs dd :: t) te δ (.ref x) ∧ SG (s ++ insA x C dx (putF f v fs) dd :: t) u δ O) : SG J (tSeq (sFld K te tv f) u) δ O :=
  sg_seq (N := fun J1 δ1 => δ1 = δ ∧ SG J1 u δ O) (sg_fldG hv c n hz fun J1 sl p => by
    obtain ⟨s, t, v, e1, e2, e3, e4⟩ := hk J1 sl p
    exact ⟨s, t, v, e1, e2, e3, rfl, e4⟩) fun J1 δ1 ⟨e, h⟩ => by
    rw [e]
    exact h
theorem Outs.nxWeak {A A' : Atom} (h : ∀ F H, A.I F H → A'.I F H) (hs : SG J u δ { O with nx := fun J1 δ1 => ∃ J2, J1 = A :: J2 ∧ O.nx (A' :: J2) δ1 }) : SG J u δ O := fun F0 H0 τd σ τ H D S a b c =>
  hs F0 H0 τd σ τ H D S (fun J1 δ1 σ1 H1 ⟨J2, e, n⟩ S1 => by subst e; exact a _ _ _ _ n (S1.weak h)) b c
end
section
variable {P : Program} {w : World} {K : PySem.W.Frag} {mg : Str → Option Value} {base : Heap} {f : Addr} {fd : FuncData} {C : Addr} {m : Bool}
theorem act_ne {W : WSt} {g : Nat} (h : g < (placeN W).length) : actF W g ≠ [] := by
  have hm : (placeN W).getD g 0 ∈ placeN W := by
    rw [List.getD_eq_getElem?_getD, List.getElem?_eq_getElem h]
    exact List.getElem_mem h
  obtain ⟨k, hk, e⟩ := List.mem_map.mp (mem_ascI.mp hm)
  exact List.ne_nil_of_mem (List.mem_filter.mpr ⟨hk, decide_eq_true e⟩)
theorem scFWstep : FnScope ["self", "group", "words", "rows"] ["self", "group", "words"] (defScope sFWstep) := ⟨rfl, rfl, rfl, by decide +kernel, rfl, by decide +kernel, by decide +kernel⟩
def gStepF (W W' : WSt) (as : List Sl) : Prop := ∃ (g : Nat) (ps : List (Int × Int)), g < (placeN W).length ∧ ps.map (·.1) = actF W g ∧ (∀ q ∈ ps, Wd q.2) ∧ as = [.dat (.int g), .lst (ps.map fun q => .int q.2)] ∧ W' = adv W ps
theorem asks_ps {W : WSt} {ps : List (Int × Int)} {l : List Int} (h : ps.map (·.1) = l) : l.map (askD W) = ps.map fun q => askD W q.1 := by
  rw [← h, List.map_map]
  rfl
theorem ok_stepF (F : FunM K "step" "FreeWarp.step" sFWstep f fd) (T : Txt K mg) (q : ClsF K C) (m_asks : CalM P w K mg base C 4 "asks" ["self", "group"] (spG (rdP C m gAsksF))) (m_advance : CalM P w K mg base C 7 "advance" ["self", "rows", "words"] (spG (wrP C m gAdvance))) :
    FnOk P w K mg base CX0 8 f fd ["self", "group", "words"] (spG (wrP C m gStepF)) := by
  have sc := scFWstep
  refine fn_sg F sc (fun J ss R h => ?_) (fun cdv A outer s H E hr => ⟨_, (pss_cons (ps_set (i := 3) sc.nd rfl (.inl rfl) (pe_meth (pv 0) q.cl m_asks.mt m_asks.ok (hr.mono (by decide)) m_asks.hb .nil pass0 (pa_cons (pv 1) pa_nil)))
    (pss_cons (ps_if (pt_not (pt_truth (pv 3) (by intro _; rfl))) (pss_one ps_never) pss_nil)
    (pss_one (ps_expr (pe_meth (pv 0) q.cl m_advance.mt m_advance.ok (hr.mono (by decide)) m_advance.hb .nil pass0 (pa_cons (pv 3) (pa_cons (pv 2) pa_nil))))))), fun J ss R h => ?_⟩)
  · obtain ⟨x, A, W, W', J0, as, p, ok, rfl, ⟨g, ps, hg, hps, hw, rfl, rfl⟩, rfl⟩ := h
    rfl
  · obtain ⟨x, A, W, W', J0, as, p, ok, rfl, ⟨g, ps, hg, hps, hw, rfl, rfl⟩, rfl⟩ := h
    refine sg_letG (ev_rd (s0 := .lst ((actF W g).map (askD W))) p ok (slf 0) (by decide +kernel) (ea_d (ds := []) (ev_dat rfl) ea_d0) ⟨g, hg, rfl, rfl⟩) fun J1 s ⟨e1, e2⟩ => ?_
    subst e1 e2
    refine sg_when (et_notB (et_truL (ev_lst rfl))) (fun e => ?_) fun _ => ?_
    · refine sg_never ?_
      rw [Bool.not_not, List.isEmpty_iff, List.map_eq_nil_iff] at e
      exact act_ne hg e
    · refine sg_dropG (ev_wr (W' := adv W ps) p ok (slf 0) (by decide +kernel) (ea_consP (Ps := fun ss => ss = [.lst (ps.map fun q => .int q.2)]) (ev_lst rfl) (ea_consP (Ps := fun ss => ss = []) (ev_lst rfl) ea_nil fun s ss e1 e2 => by rw [e1, e2]) fun s ss e1 e2 => by rw [e1, e2]) ⟨ps, ?_, ?_, ?_, rfl⟩) fun J2 s h => h
      · rw [hps]
        exact (run_nodup ok).filter _
      · intro r hr
        exact ⟨mem_runks (act_mem (by rw [← hps]; exact List.mem_map.mpr ⟨r, hr, rfl⟩)), hw r hr⟩
      · rw [asks_ps hps]
theorem scFWrelease : FnScope ["self", "words", "tid", "word"] ["self", "words"] (defScope sFWrelease) := ⟨rfl, rfl, rfl, by decide +kernel, rfl, by decide +kernel, by decide +kernel⟩
def relF (W : WSt) (ps : List (Int × Int)) : WSt := { goes W ps with wk := [] }
def gRelF (W W' : WSt) (as : List Sl) : Prop := ∃ ps : List (Int × Int), ps.map (·.1) = ascI W.wk ∧ (∀ q ∈ ps, Wd q.2) ∧ runN W = [] ∧ W.wk ≠ [] ∧ as = [.lst (ps.map fun q => .int q.2)] ∧ W' = relF W ps
theorem goes_wk {W : WSt} {ps : List (Int × Int)} : (goes W ps).wk = W.wk ∧ (goes W ps).gk = W.gk ∧ (goes W ps).p = W.p ∧ (goes W ps).base = W.base ∧ (goes W ps).first = W.first ∧ (goes W ps).stack = W.stack := by
  induction ps using snoc_ind with
  | h0 => exact ⟨rfl, rfl, rfl, rfl, rfl, rfl⟩
  | hs ps q ih =>
    rw [goes_snoc]
    exact ih
theorem ok_releaseF (F : FunM K "release" "FreeWarp.release" sFWrelease f fd) (T : Txt K mg) (q : ClsF K C) (m_running : CalM P w K mg base C 1 "running" ["self"] (spG (rdP C m gRunning))) (m_goon : CalM P w K mg base C 6 "go_on" ["self", "tid", "word"] (spG (wrP C m gGoOn))) :
    FnOk P w K mg base CX0 7 f fd ["self", "words"] (spG (wrP C m gRelF)) := by
  have sc := scFWrelease
  refine fn_sg F sc (fun J ss R h => ?_) (fun cdv A outer s H E hr => ⟨_, (pss_cons (ps_if (PW.pt (pw_or (pt_truth (pe_meth0 (pv 0) q.cl m_running.mt m_running.ok (hr.mono (by decide)) m_running.hb .nil pass0) (by intro _; rfl)) (pw_or1 (pt_not (pt_truth (pe_fld (pv 0) rfl) (by intro _; rfl)))))) (pss_one ps_never) pss_nil)
    (pss_cons (ps_for PassesOwn.never rfl (pi_zip (by rfl) T.n_zip (pa_cons (pe_callB (call_sortedDI rfl) (by rfl) T.n_sorted (by decide +kernel) (pa_cons (pe_fld (pv 0) rfl) pa_nil)) (pa_cons (pv 1) pa_nil))) (pg_tup (by rfl) (pgs_cons (pg_name (i := 2) sc.nd rfl (.inl rfl)) (pgs_cons (pg_name (i := 3) sc.nd rfl (.inl rfl)) pgs_nil))) (pss_one (ps_expr (pe_meth (pv 0) q.cl m_goon.mt m_goon.ok (hr.mono (by decide)) m_goon.hb .nil pass0 (pa_cons (pv 2) (pa_cons (pv 3) pa_nil))))))
    (pss_one (ps_fld (pv 0) pe_dnewK rfl)))), fun J ss R h => ?_⟩)
  · obtain ⟨x, A, W, W', J0, as, p, ok, rfl, ⟨ps, hps, hwd, hr0, hw0, rfl, rfl⟩, rfl⟩ := h
    rfl
  · obtain ⟨x, A, W, W', J0, as, p, ok, rfl, ⟨ps, hps, hwd, hr0, hw0, rfl, rfl⟩, rfl⟩ := h
    have hw := hasW_perm p
    refine sg_when (et_orB (et_truL (ds := (runN W).map Dt.int) (ev_rd p ok (slf 0) (by decide +kernel) ea_nil ⟨rfl, rfl⟩)) fun _ => et_notB (et_truD (ev_wwaiting hw q (slf 0)) (mem_wk hw))) (fun e => ?_) fun _ => ?_
    · refine sg_never ?_
      rw [hr0] at e
      have e : W.wk.isEmpty = true := by simpa using e
      exact hw0 (List.isEmpty_iff.mp e)
    have hpk : ∀ r ∈ ps, r.1 ∈ W.ks ∧ Wd r.2 := fun r hr => ⟨wk_ks ok (by rw [← hps]; exact List.mem_map.mpr ⟨r, hr, rfl⟩), hwd r hr⟩
    refine sg_seq (N := fun J1 δ1 => (∃ A', J1.Perm (wpJ C x m A' (goes W ps) ++ J0)) ∧ ∃ a b, δ1 = [some (.val (.ref x)), some (.lst (ps.map fun q => .int q.2)), a, b]) ?_ ?_
    · refine sg_forZ (ds := ps.map fun q => Dt.int q.1) (es := ps.map fun q => Dt.int q.2) (Iv := fun i J1 δ1 => (∃ A', J1.Perm (wpJ C x m A' (goes W (ps.take i)) ++ J0)) ∧ ∃ a b, δ1 = [some (.val (.ref x)), some (.lst (ps.map fun q => .int q.2)), a, b])
        (ea_consP (Ps := fun ss => ss = [.lst (ps.map fun q => .int q.2)]) (sorted_ok (ev_wwaiting hw q (slf 0)) (mem_wk hw)) (ea_consP (Ps := fun ss => ss = []) (ev_lst rfl) ea_nil fun s ss e1 e2 => by rw [e1, e2]) fun s ss e1 e2 => by rw [e1, e2, ← hps, List.map_map]; rfl) (by rw [List.length_map, List.length_map]) ⟨⟨A, p⟩, _, _, rfl⟩ ?_ ?_
      · rintro i d e J1 δ1 hd he ⟨⟨A1, p1⟩, a, b, rfl⟩
        rw [List.getElem?_map] at hd he
        cases hi : ps[i]? with
        | none => rw [hi] at hd; cases hd
        | some qq =>
          rw [hi] at hd he
          obtain ⟨k, z⟩ := qq
          cases hd
          cases he
          have et : ps.take (i + 1) = ps.take i ++ [(k, z)] := by rw [List.take_add_one, hi]; rfl
          obtain ⟨ok1, k1⟩ := goes_keep ok (ps := ps.take i) fun r hr => hpk r (List.mem_of_mem_take hr)
          obtain ⟨hk, hz⟩ := hpk _ (List.mem_of_getElem? hi)
          rw [et, goes_snoc]
          refine ⟨_, tg_tup (tgs_cons tg_name (tgs_cons tg_name tgs_nil)), ?_⟩
          refine sg_dropG (ev_wr (W' := (goes W (ps.take i)).go k z) p1 ok1 (slf 0) (by decide +kernel) (ea_d (ev_dat rfl) (ea_d (ev_dat rfl) ea_d0)) ⟨k, z, by rw [k1]; exact hk, hz, rfl, rfl⟩) fun J2 s h => ⟨h, _, _, rfl⟩
      · rintro J1 δ1 ⟨⟨A1, p1⟩, h⟩
        rw [List.length_map, List.take_length] at p1
        exact ⟨⟨A1, p1⟩, h⟩
    · rintro J1 δ1 ⟨⟨A1, p1⟩, a, b, rfl⟩
      refine SG.perm (p1.trans wpJ_wk) ?_
      refine sg_lose ?_
      refine sg_fldG (x := x) (C := C) (dx := A1.dx) (fs := fldW m (goes W ps).base (goes W ps).first A1) (dd := ddW (goes W ps) A1) (ev_newD fun _ => .bl true) q.cl q.n_waiting fld_len fun J2 sl ⟨d, e1, e2⟩ => ?_
      refine ⟨[dictD d [] fun _ => .bl true], dictD A1.ds (goes W ps).ks (fun k => ((goes W ps).st k).toD) :: dictD A1.dg (goes W ps).gk (fun _ => .bl true) :: (stk m A1 (goes W ps) ++ J0), .ref d, e1, e2, slf 0, ?_⟩
      rw [pf_waiting]
      refine ⟨{ A1 with dw := d }, ?_⟩
      exact (List.perm_middle (l₁ := [insW C x m { A1 with dw := d } (relF W ps), dictD A1.ds (goes W ps).ks (fun k => ((goes W ps).st k).toD)])).symm
/-! ### new warps -/
def WSt.init (p : Prg) (b first n : Nat) : WSt where
  p := p
  base := (b : Int) * 6
  first := first
  ks := keysN first n
  st := fun _ => Lane.first p
  wk := []
  gk := []
  stack := [⟨0, -1, keysN first n⟩]
theorem init_ok {p : Prg} (hp : p.Ok) {b first n : Nat} (hb : b ≤ 100) (hf : first + n ≤ 6) : (WSt.init p b first n).Ok where
  p := hp
  asc := keysN_asc _ _
  len := by
    show (keysN first n).length ≤ 6
    rw [keysN_len]
    omega
  st := fun _ _ => Lane.first_ok hp
  thr := fun k hk => by
    have := mem_keysN.mp (show k ∈ keysN first n from hk)
    show 0 ≤ (b : Int) * 6 + k ∧ (b : Int) * 6 + k ≤ 1000
    omega
  wn := List.nodup_nil
  gn := List.nodup_nil
  ws := fun k hk => by cases hk
  gs := fun k hk => by cases hk
theorem ini_perm {a b c d : Atom} {J0 : List Atom} : ([a, b, c] ++ d :: J0).Perm ([d, c, b, a] ++ J0) := by
  have e : ([a, b, c] ++ d :: J0) = [a, b, c, d] ++ J0 := rfl
  rw [e]
  exact (List.reverse_perm [a, b, c, d]).symm.append_right J0
theorem ini_permW {a b c d e : Atom} {J0 : List Atom} : ([e, a, b, c] ++ d :: J0).Perm ([d, c, b, a] ++ [e] ++ J0) := by
  have e1 : ([e, a, b, c] ++ d :: J0) = [e, a, b, c, d] ++ J0 := rfl
  rw [e1]
  refine List.Perm.append_right J0 ?_
  refine ((List.reverse_perm [a, b, c, d]).symm.cons e).trans ?_
  exact List.perm_append_comm (l₁ := [e]) (l₂ := [d, c, b, a])
def iniP (C : Addr) (m : Bool) : List Atom → List Sl → JO → Prop := fun J ss R => ∃ x dx J0 p b first n, J = insA x C dx [] [] :: J0 ∧ p.Ok ∧ first + n ≤ 6 ∧ b ≤ 100 ∧ ss = [.val (.ref x), .dat p.code, .dat p.launch, .dat (.int (b : Nat)), .dat (.int (first : Nat)), .dat (.int (n : Nat))] ∧
  R = fun J1 s => s = .dat .non ∧ ∃ A, J1.Perm (wpJ C x m A (WSt.init p b first n) ++ J0)
theorem scFWinit : FnScope ["self", "code", "launch", "block", "first", "count", "tid"] ["self", "code", "launch", "block", "first", "count"] (defScope sFWinit) := ⟨rfl, rfl, rfl, by decide +kernel, rfl, by decide +kernel, by decide +kernel⟩
theorem ok_initFW (F : FunM K "__init__" "FreeWarp.__init__" sFWinit f fd) (T : Txt K mg) (q : ClsF K C) (c_Ffirstlane : Cal P w K mg base 1 "first_lane" ["code"] (spG (pureP rFirst))) : FnOk P w K mg base CX0 2 f fd ["self", "code", "launch", "block", "first", "count"] (spG (iniP C false)) := by
  have sc := scFWinit
  refine fn_sg F sc (fun J ss R h => ?_) (fun cdv A outer s H E hr => ⟨_, (pss_cons (ps_fld (pv 0) (pv 1) rfl)
    (pss_cons (ps_fld (pv 0) (pv 2) rfl)
    (pss_cons (ps_fld (pv 0) (pe_op op_mul (pv 3) (pe_ix ix_tup (pv 2) pe_int (fun _ _ => rfl))) rfl)
    (pss_cons (ps_fld (pv 0) (pv 4) rfl)
    (pss_cons (ps_fld (pv 0) (pe_dc (own := [("tid", 6)]) (g := gName 6) (tt := tYes) (by rfl) sc.nd (pi_range2 (by rfl) T.n_range (pa_cons (pv 4) (pa_cons (pe_op op_add (pv 4) (pv 5)) pa_nil))) (blkOk_by (own := [("tid", 6)]) (N := ["self", "code", "launch", "block", "first", "count", "tid"]) (sc := defScope sFWinit) (by decide +kernel)) (fun _ _ _ _ _ => pg_name (i := 6) sc.nd rfl (Or.inl rfl)) (fun _ _ _ _ _ => pts_nil) (fun _ _ _ _ _ => by apply pe_at; (exact (pv 6)); (try dsimp only [Cx.blk]); try exact rfl) (fun _ _ _ _ _ => by apply pe_at; (exact (pe_call c_Ffirstlane.ok (hr.mono (by decide)) (by rfl) c_Ffirstlane.hm c_Ffirstlane.hk c_Ffirstlane.hb .nil pass0 (pa_cons (pv 1) pa_nil))); (try dsimp only [Cx.blk]); try exact rfl)) rfl)
    (pss_cons (ps_fld (pv 0) pe_dnewK rfl)
    (pss_one (ps_fld (pv 0) pe_dnewK rfl)))))))), fun J ss R h => ?_⟩)
  · obtain ⟨x, dx, J0, p, b, first, n, rfl, hp, hf, hb, rfl, rfl⟩ := h
    rfl
  · obtain ⟨x, dx, J0, p, b, first, n, rfl, hp, hf, hb, rfl, rfl⟩ := h
    refine sg_setD (s := []) (t := J0) (ev_dat rfl) (slf 0) q.cl q.n_code (by decide) fun cv _ => ?_
    rw [pf_nil]
    refine sg_setD (s := []) (t := J0) (ev_dat rfl) (slf 0) q.cl q.n_launch (Nat.le_of_ble_eq_true rfl) fun lv _ => ?_
    rw [pf_ne (by decide +kernel), pf_nil]
    refine sg_setD (s := []) (t := J0) (d := .int ((b : Int) * 6)) (ev_op (ev_dat rfl) (ev_op (ev_dat rfl) ev_int (rr_ixT (d := .int 6) (by rfl))) (rr_CI (by unfold CMul; omega))) (slf 0) q.cl q.n_base (Nat.le_of_ble_eq_true rfl) fun bv hbv => ?_
    obtain rfl := hbv rfl
    rw [pf_ne (by decide +kernel), pf_ne (by decide +kernel), pf_nil]
    refine sg_setD (s := []) (t := J0) (ev_dat rfl) (slf 0) q.cl q.n_first (Nat.le_of_ble_eq_true rfl) fun fv hfv => ?_
    obtain rfl := hfv rfl
    rw [pf_ne (by decide +kernel), pf_ne (by decide +kernel), pf_ne (by decide +kernel), pf_nil]
    refine sg_weak (A' := insA x C dx [("code", cv), ("launch", lv), ("base", .int ((b : Int) * 6)), ("first", .int first)] [(p.code, cv), (p.launch, lv), (.int ((b : Int) * 6), .int ((b : Int) * 6)), (.int first, .int first)]) (fun F H h => ⟨h.1, h.2.1, fun r hr => h.2.2 r ?_⟩) ?_
    · simp only [List.mem_cons, List.not_mem_nil, or_false] at hr ⊢
      rcases hr with h | h | h | h
      · exact .inr (.inr (.inr h))
      · exact .inr (.inr (.inl h))
      · exact .inr (.inl h)
      · exact .inl h
    refine sg_setG (x := x) (C := C) (dx := dx) (ev_dcR (lo := first) (n := n) (g := fun _ => (Lane.first p).toD) (ea_d (ev_dat rfl) (ea_d (ev_op (ev_dat rfl) (ev_dat rfl) rr_II) ea_d0)) (by omega) (by omega) (fun B k hk => ev_dat rfl) fun B k hk => ev_pure (ea_d (ev_dat rfl) ea_d0) ⟨p, hp, rfl, rfl⟩) q.cl q.n_states ?_ fun J1 sl ⟨ds, e1, e2⟩ => ⟨[dictD ds (keysN first n) fun _ => (Lane.first p).toD], J0, .ref ds, e1, e2, slf 0, ?_⟩
    · exact Nat.le_of_ble_eq_true rfl
    rw [pf_ne (by decide +kernel), pf_ne (by decide +kernel), pf_ne (by decide +kernel), pf_ne (by decide +kernel), pf_nil]
    refine sg_setG (x := x) (C := C) (dx := dx) (ev_newD fun _ => .bl true) q.cl q.n_waiting ?_ fun J1 sl ⟨dw, e1, e2⟩ => ⟨[dictD dw [] fun _ => .bl true, dictD ds (keysN first n) fun _ => (Lane.first p).toD], J0, .ref dw, e1, e2, slf 0, ?_⟩
    · exact Nat.le_of_ble_eq_true rfl
    rw [pf_ne (by decide +kernel), pf_ne (by decide +kernel), pf_ne (by decide +kernel), pf_ne (by decide +kernel), pf_ne (by decide +kernel), pf_nil]
    refine sg_fldG (x := x) (C := C) (dx := dx) (ev_newD fun _ => .bl true) q.cl q.n_gone ?_ fun J1 sl ⟨dg, e1, e2⟩ => ⟨[dictD dg [] fun _ => .bl true, dictD dw [] fun _ => .bl true, dictD ds (keysN first n) fun _ => (Lane.first p).toD], J0, .ref dg, e1, e2, slf 0, ?_⟩
    · exact Nat.le_of_ble_eq_true rfl
    rw [pf_ne (by decide +kernel), pf_ne (by decide +kernel), pf_ne (by decide +kernel), pf_ne (by decide +kernel), pf_ne (by decide +kernel), pf_ne (by decide +kernel), pf_nil]
    exact ⟨rfl, ⟨dx, ds, dw, dg, dg, cv, lv⟩, ini_perm⟩
theorem scWPinit : FnScope ["self", "code", "launch", "block", "first", "count", "tid"] ["self", "code", "launch", "block", "first", "count"] (defScope sWPinit) := ⟨rfl, rfl, rfl, by decide +kernel, rfl, by decide +kernel, by decide +kernel⟩
theorem ok_initWP (F : FunM K "__init__" "Warp.__init__" sWPinit f fd) (T : Txt K mg) (q : ClsF K C) (c_Ffirstlane : Cal P w K mg base 1 "first_lane" ["code"] (spG (pureP rFirst))) : FnOk P w K mg base CX0 2 f fd ["self", "code", "launch", "block", "first", "count"] (spG (iniP C true)) := by
  have sc := scWPinit
  refine fn_sg F sc (fun J ss R h => ?_) (fun cdv A outer s H E hr => ⟨_, (pss_cons (ps_fld (pv 0) (pv 1) rfl)
    (pss_cons (ps_fld (pv 0) (pv 2) rfl)
    (pss_cons (ps_fld (pv 0) (pe_op op_mul (pv 3) (pe_ix ix_tup (pv 2) pe_int (fun _ _ => rfl))) rfl)
    (pss_cons (ps_fld (pv 0) (pv 4) rfl)
    (pss_cons (ps_fld (pv 0) (pe_dc (own := [("tid", 6)]) (g := gName 6) (tt := tYes) (by rfl) sc.nd (pi_range2 (by rfl) T.n_range (pa_cons (pv 4) (pa_cons (pe_op op_add (pv 4) (pv 5)) pa_nil))) (blkOk_by (own := [("tid", 6)]) (N := ["self", "code", "launch", "block", "first", "count", "tid"]) (sc := defScope sWPinit) (by decide +kernel)) (fun _ _ _ _ _ => pg_name (i := 6) sc.nd rfl (Or.inl rfl)) (fun _ _ _ _ _ => pts_nil) (fun _ _ _ _ _ => by apply pe_at; (exact (pv 6)); (try dsimp only [Cx.blk]); try exact rfl) (fun _ _ _ _ _ => by apply pe_at; (exact (pe_call c_Ffirstlane.ok (hr.mono (by decide)) (by rfl) c_Ffirstlane.hm c_Ffirstlane.hk c_Ffirstlane.hb .nil pass0 (pa_cons (pv 1) pa_nil))); (try dsimp only [Cx.blk]); try exact rfl)) rfl)
    (pss_cons (ps_fld (pv 0) pe_dnewK rfl)
    (pss_cons (ps_fld (pv 0) pe_dnewK rfl)
    (pss_one (ps_fld (pv 0) (pe_lst (pa_cons (pe_tup (pa_cons pe_int (pa_cons (pe_un un_neg pe_int) (pa_cons (pe_tupRg (by rfl) (by rfl) T.n_tuple (prg_2 (by rfl) T.n_range (pv 4) (pe_op op_add (pv 4) (pv 5)))) pa_nil)))) pa_nil)) rfl))))))))), fun J ss R h => ?_⟩)
  · obtain ⟨x, dx, J0, p, b, first, n, rfl, hp, hf, hb, rfl, rfl⟩ := h
    rfl
  · obtain ⟨x, dx, J0, p, b, first, n, rfl, hp, hf, hb, rfl, rfl⟩ := h
    refine sg_setD (s := []) (t := J0) (ev_dat rfl) (slf 0) q.cl q.n_code (by decide) fun cv _ => ?_
    rw [pf_nil]
    refine sg_setD (s := []) (t := J0) (ev_dat rfl) (slf 0) q.cl q.n_launch (Nat.le_of_ble_eq_true rfl) fun lv _ => ?_
    rw [pf_ne (by decide +kernel), pf_nil]
    refine sg_setD (s := []) (t := J0) (d := .int ((b : Int) * 6)) (ev_op (ev_dat rfl) (ev_op (ev_dat rfl) ev_int (rr_ixT (d := .int 6) (by rfl))) (rr_CI (by unfold CMul; omega))) (slf 0) q.cl q.n_base (Nat.le_of_ble_eq_true rfl) fun bv hbv => ?_
    obtain rfl := hbv rfl
    rw [pf_ne (by decide +kernel), pf_ne (by decide +kernel), pf_nil]
    refine sg_setD (s := []) (t := J0) (ev_dat rfl) (slf 0) q.cl q.n_first (Nat.le_of_ble_eq_true rfl) fun fv hfv => ?_
    obtain rfl := hfv rfl
    rw [pf_ne (by decide +kernel), pf_ne (by decide +kernel), pf_ne (by decide +kernel), pf_nil]
    refine sg_weak (A' := insA x C dx [("code", cv), ("launch", lv), ("base", .int ((b : Int) * 6)), ("first", .int first)] [(p.code, cv), (p.launch, lv), (.int ((b : Int) * 6), .int ((b : Int) * 6)), (.int first, .int first)]) (fun F H h => ⟨h.1, h.2.1, fun r hr => h.2.2 r ?_⟩) ?_
    · simp only [List.mem_cons, List.not_mem_nil, or_false] at hr ⊢
      rcases hr with h | h | h | h
      · exact .inr (.inr (.inr h))
      · exact .inr (.inr (.inl h))
      · exact .inr (.inl h)
      · exact .inl h
    refine sg_setG (x := x) (C := C) (dx := dx) (ev_dcR (lo := first) (n := n) (g := fun _ => (Lane.first p).toD) (ea_d (ev_dat rfl) (ea_d (ev_op (ev_dat rfl) (ev_dat rfl) rr_II) ea_d0)) (by omega) (by omega) (fun B k hk => ev_dat rfl) fun B k hk => ev_pure (ea_d (ev_dat rfl) ea_d0) ⟨p, hp, rfl, rfl⟩) q.cl q.n_states ?_ fun J1 sl ⟨ds, e1, e2⟩ => ⟨[dictD ds (keysN first n) fun _ => (Lane.first p).toD], J0, .ref ds, e1, e2, slf 0, ?_⟩
    · exact Nat.le_of_ble_eq_true rfl
    rw [pf_ne (by decide +kernel), pf_ne (by decide +kernel), pf_ne (by decide +kernel), pf_ne (by decide +kernel), pf_nil]
    refine sg_setG (x := x) (C := C) (dx := dx) (ev_newD fun _ => .bl true) q.cl q.n_waiting ?_ fun J1 sl ⟨dw, e1, e2⟩ => ⟨[dictD dw [] fun _ => .bl true, dictD ds (keysN first n) fun _ => (Lane.first p).toD], J0, .ref dw, e1, e2, slf 0, ?_⟩
    · exact Nat.le_of_ble_eq_true rfl
    rw [pf_ne (by decide +kernel), pf_ne (by decide +kernel), pf_ne (by decide +kernel), pf_ne (by decide +kernel), pf_ne (by decide +kernel), pf_nil]
    refine sg_setG (x := x) (C := C) (dx := dx) (ev_newD fun _ => .bl true) q.cl q.n_gone ?_ fun J1 sl ⟨dg, e1, e2⟩ => ⟨[dictD dg [] fun _ => .bl true, dictD dw [] fun _ => .bl true, dictD ds (keysN first n) fun _ => (Lane.first p).toD], J0, .ref dg, e1, e2, slf 0, ?_⟩
    · exact Nat.le_of_ble_eq_true rfl
    rw [pf_ne (by decide +kernel), pf_ne (by decide +kernel), pf_ne (by decide +kernel), pf_ne (by decide +kernel), pf_ne (by decide +kernel), pf_ne (by decide +kernel), pf_nil]
    refine sg_fldG (x := x) (C := C) (dx := dx) (ev_newL (ds := [.tup [.int 0, .int (-1), .tup ((keysN first n).map Dt.int)]]) (ea_d (ev_tup (ea_d ev_int (ea_d (ev_neg ev_int) (ea_d (ev_tupRg (ev_dat rfl) (ev_op (ev_dat rfl) (ev_dat rfl) rr_II) (by omega) (by omega)) ea_d0)))) ea_d0) (Nat.le_of_ble_eq_true rfl)) q.cl q.n_stack ?_ fun J1 sl ⟨dk, e1, e2⟩ => ⟨[lstA dk [.tup [.int 0, .int (-1), .tup ((keysN first n).map Dt.int)]], dictD dg [] fun _ => .bl true, dictD dw [] fun _ => .bl true, dictD ds (keysN first n) fun _ => (Lane.first p).toD], J0, .ref dk, e1, e2, slf 0, ?_⟩
    · exact Nat.le_of_ble_eq_true rfl
    rw [pf_ne (by decide +kernel), pf_ne (by decide +kernel), pf_ne (by decide +kernel), pf_ne (by decide +kernel), pf_ne (by decide +kernel), pf_ne (by decide +kernel), pf_ne (by decide +kernel), pf_nil]
    exact ⟨rfl, ⟨dx, ds, dw, dg, dk, cv, lv⟩, ini_permW⟩
end
end LK

namespace LK
open PySem PySem.Spec PyProof.Rows L2
local macro_rules | `(tactic| walk_at "rr") => `(tactic| first
  | (with_reducible exact rr_head)
  | ((with_reducible refine rr_ixT (d := ?d) ?h); (case h => exact rfl))
  | (with_reducible exact rr_eqS)
  | (with_reducible exact rr_eqI)
  | (with_reducible exact rr_neI)
  | (with_reducible exact rr_II)
  | (with_reducible exact rr_IB))
local macro_rules | `(tactic| walk_at "ev") => `(tactic| first
  | (with_reducible exact ev_int)
  | (with_reducible exact ev_str)
  | (with_reducible exact ev_non)
  | (with_reducible exact ev_bl)
  | ((with_reducible refine ev_dat (d := ?d) ?h); (case h => exact rfl))
  | (with_reducible exact ea_d0)
  | ((with_reducible refine ea_d (d := ?d) (ds := ?ds) ?h1 ?h2); (case h1 => walk_at "ev"); (case h2 => walk_at "ev"))
  | ((with_reducible refine ev_op (da := ?da) (db := ?db) (dc := ?dc) ?h1 ?h2 ?h3); (case h1 => walk_at "ev"); (case h2 => walk_at "ev"); (case h3 => walk_at "rr"))
  | ((with_reducible refine ev_tup (ds := ?ds) ?h1 ?h2); (case h1 => walk_at "ev"); (case h2 => exact Nat.le_of_ble_eq_true rfl))
  | ((with_reducible refine et_b (b := ?b) ?h1); (case h1 => walk_at "ev")))

/-! ### what an advance does, lane by lane -/
theorem adv1_kst {W : WSt} {k z : Int} : (adv1 W k z).st k = if (insOf W k).isWait || (insOf W k).isExit then W.st k else behindN W.p (W.base + k) (W.st k) z := by
  unfold adv1
  cases h1 : (insOf W k).isWait with
  | true => rfl
  | false =>
    cases h2 : (insOf W k).isExit with
    | true => rfl
    | false => exact upF_same
theorem adv1_wk {W : WSt} {k z j : Int} : j ∈ (adv1 W k z).wk ↔ j ∈ W.wk ∨ (j = k ∧ (insOf W k).isWait = true) := by
  unfold adv1
  cases h1 : (insOf W k).isWait with
  | true => exact mem_addK.trans ⟨fun h => h.imp id fun e => ⟨e, rfl⟩, fun h => h.imp id fun e => e.1⟩
  | false =>
    have q : j ∈ W.wk ↔ j ∈ W.wk ∨ (j = k ∧ false = true) := ⟨.inl, fun h => h.elim id fun e => by cases e.2⟩
    cases h2 : (insOf W k).isExit with
    | true => exact q
    | false => exact q
theorem wait_exit {i : Ins} (h : i.isExit = true) : i.isWait = false := by
  cases i <;> first | rfl | cases h
theorem adv1_gk {W : WSt} {k z j : Int} : j ∈ (adv1 W k z).gk ↔ j ∈ W.gk ∨ (j = k ∧ (insOf W k).isExit = true) := by
  unfold adv1
  have q : ∀ {b : Bool}, b = false → (j ∈ W.gk ↔ j ∈ W.gk ∨ (j = k ∧ b = true)) := fun e => ⟨.inl, fun h => h.elim id fun z => by rw [e] at z; cases z.2⟩
  cases h1 : (insOf W k).isWait with
  | true =>
    refine q ?_
    cases h2 : (insOf W k).isExit with
    | true => rw [wait_exit h2] at h1; cases h1
    | false => rfl
  | false =>
    cases h2 : (insOf W k).isExit with
    | true => exact mem_addK.trans ⟨fun h => h.imp id fun e => ⟨e, rfl⟩, fun h => h.imp id fun e => e.1⟩
    | false => exact q rfl
theorem adv1_stack {W : WSt} {k w : Int} : (adv1 W k w).stack = W.stack := by
  unfold adv1
  split
  · rfl
  · split <;> rfl
theorem adv1_first {W : WSt} {k w : Int} : (adv1 W k w).first = W.first := by
  unfold adv1
  split
  · rfl
  · split <;> rfl
theorem adv_facts {W : WSt} (ok : W.Ok) : ∀ {ps : List (Int × Int)}, (ps.map (·.1)).Nodup → (∀ q ∈ ps, q.1 ∈ W.ks ∧ Wd q.2) →
    (∀ k z, (k, z) ∈ ps → (adv W ps).st k = if (insOf W k).isWait || (insOf W k).isExit then W.st k else behindN W.p (W.base + k) (W.st k) z) ∧
    (∀ j, j ∈ (adv W ps).wk ↔ j ∈ W.wk ∨ (j ∈ ps.map (·.1) ∧ (insOf W j).isWait = true)) ∧ (∀ j, j ∈ (adv W ps).gk ↔ j ∈ W.gk ∨ (j ∈ ps.map (·.1) ∧ (insOf W j).isExit = true)) ∧ (adv W ps).stack = W.stack ∧ (adv W ps).first = W.first := by
  intro ps
  induction ps using snoc_ind with
  | h0 => exact fun _ _ => ⟨fun k z h => by (cases h), fun j => ⟨.inl, fun h => h.elim id fun e => by cases e.1⟩, fun j => ⟨.inl, fun h => h.elim id fun e => by cases e.1⟩, rfl, rfl⟩
  | hs ps q ih =>
    intro n h
    obtain ⟨ok1, k1, kp, kb, kst⟩ := adv_keep ok (ps := ps) (qs := [q]) n fun r hr => h r (List.mem_append_left _ hr)
    have n0 := n
    rw [List.map_append, List.nodup_append] at n
    obtain ⟨n1, n2, n3⟩ := n
    obtain ⟨i1, i2, i3, i4, i5⟩ := ih n1 fun r hr => h r (List.mem_append_left _ hr)
    obtain ⟨a, b⟩ := q
    have hna : a ∉ ps.map (·.1) := fun hm => n3 a hm a (by simp) rfl
    have eins : insOf (adv W ps) a = insOf W a := by
      unfold insOf
      rw [kst a hna, kp]
    rw [adv_snoc]
    refine ⟨fun k z hk => ?_, fun j => ?_, fun j => ?_, adv1_stack.trans i4, adv1_first.trans i5⟩
    · rcases List.mem_append.mp hk with hk | hk
      · have hne : k ≠ a := fun e => hna (by rw [← e]; exact List.mem_map.mpr ⟨_, hk, rfl⟩)
        rw [adv1_st hne]
        exact i1 k z hk
      · have e := List.mem_singleton.mp hk
        cases e
        show (adv1 (adv W ps) a b).st a = _
        rw [adv1_kst, eins, kst a hna, kp, kb]
    · show j ∈ (adv1 (adv W ps) a b).wk ↔ _
      rw [adv1_wk, eins, i2, List.map_append, List.mem_append]
      simp only [List.map_cons, List.map_nil, List.mem_singleton]
      constructor
      · rintro ((h | h) | ⟨rfl, h⟩)
        · exact .inl h
        · exact .inr ⟨.inl h.1, h.2⟩
        · exact .inr ⟨.inr rfl, h⟩
      · rintro (h | ⟨h | rfl, h2⟩)
        · exact .inl (.inl h)
        · exact .inl (.inr ⟨h, h2⟩)
        · exact .inr ⟨rfl, h2⟩
    · show j ∈ (adv1 (adv W ps) a b).gk ↔ _
      rw [adv1_gk, eins, i3, List.map_append, List.mem_append]
      simp only [List.map_cons, List.map_nil, List.mem_singleton]
      constructor
      · rintro ((h | h) | ⟨rfl, h⟩)
        · exact .inl h
        · exact .inr ⟨.inl h.1, h.2⟩
        · exact .inr ⟨.inr rfl, h⟩
      · rintro (h | ⟨h | rfl, h2⟩)
        · exact .inl (.inl h)
        · exact .inl (.inr ⟨h, h2⟩)
        · exact .inr ⟨rfl, h2⟩
theorem behindN_at {p : Prg} {t z : Int} {l : Lane} (h : (l.ins p).isExit = false) : (behindN p t l z).at_ = follN l (l.ins p) := by
  unfold behindN
  generalize l.ins p = i at h ⊢
  cases i <;> first | rfl | (cases h) | skip
  all_goals (unfold behindI; split <;> rfl)
theorem follN_plain {l : Lane} {i : Ins} (h : ∀ r t j, i ≠ .branch r t j) : ∀ l2 : Lane, l2.at_ = l.at_ → follN l2 i = follN l i := fun l2 e => by
  cases i with
  | branch r t j => exact absurd rfl (h r t j)
  | jump k => rfl
  | _ => exact congrArg (· + 1) e
theorem ascI_const {l : List Int} {c : Int} (hn : l ≠ []) (h : ∀ k ∈ l, k = c) : ascI l = [c] := by
  refine asc_unique (asc_ascI l) (List.pairwise_singleton _ _) fun k => ?_
  rw [mem_ascI, List.mem_singleton]
  refine ⟨h k, fun e => ?_⟩
  obtain ⟨x, hx⟩ := List.exists_mem_of_ne_nil l hn
  rw [e, ← h x hx]
  exact hx
/-! ### the parts of a step with masks -/
def placesOf (W : WSt) (L : List Int) : List Int := ascI (L.map (plc W))
def partS (W : WSt) (a : Nat) (join : Int) (L : List Int) : List Ent :=
  if (placesOf W L).length = 1 then [⟨(placesOf W L).getD 0 0, join, L⟩]
  else match W.p.rows.getD a .exit with
    | .branch _ t j => [⟨j, join, L⟩, ⟨(a : Int) + 1, j, L.filter fun k => decide (plc W k = (a : Int) + 1)⟩, ⟨t, j, L.filter fun k => decide (plc W k = (t : Int))⟩]
    | _ => []
def WSt.part (W : WSt) (a : Nat) (join : Int) (L : List Int) : WSt := { W with stack := W.stack ++ partS W a join L }
def runB (W : WSt) (k : Int) : Bool := !decide (k ∈ W.wk) && !decide (k ∈ W.gk)
def clrE (W : WSt) (e : Ent) : Ent := ⟨e.at_, e.join, e.lanes.filter (runB W)⟩
def keepE (e : Ent) : Bool := !e.lanes.isEmpty && (decide (e.join = -1) || !decide (e.at_ = e.join))
def clrS (W : WSt) (s : List Ent) : List Ent := (s.map (clrE W)).filter keepE
def WSt.clear (W : WSt) : WSt := { W with stack := clrS W W.stack }
def topL (W : WSt) : List Int := match W.stack.getLast? with | some e => e.lanes | none => []
section
variable {J J0 : List Atom} {δ : SE} {te tv tk ta tb tl : TE} {t : TA} {u : TS} {K : PySem.W.Frag} {C x : Addr} {m : Bool} {A : WA} {W W' : WSt} {O : Outs}
theorem atI_last {α : Type} {ds : List α} {d : α} : atI (ds ++ [d]) (-1) = some d := by
  unfold atI ixN
  rw [if_neg (by decide), List.length_append, List.length_singleton, if_pos (by omega)]
  show (ds ++ [d])[(-1 + ((ds.length + 1 : Nat) : Int)).toNat]? = some d
  rw [show (-1 + ((ds.length + 1 : Nat) : Int)).toNat = ds.length by omega, List.getElem?_append_right (Nat.le_refl _), Nat.sub_self]
  rfl
theorem ev_lcT {tt : TT} {j : Nat} {ns : List Int} {f : Int → Bool} {g : Int → Dt} (hl : EvD J tl δ (.tup (ns.map Dt.int))) (hz : ns.length ≤ 40000) (ht : ∀ A k, k ∈ ns → EvB (A :: J) tt (δ.set j (some (.dat (.int k)))) (f k)) (he : ∀ A k, k ∈ ns → f k = true → EvD (A :: J) te (δ.set j (some (.dat (.int k)))) (g k)) :
    EvL J (tLc (iTup K tl) (gName j) tt te [j]) δ ((ns.filter f).map g) := fun F0 H0 τd σ τ H Q S kk =>
  hl _ _ _ _ _ _ _ S fun J1 s v H1 ⟨e, d, es, ed⟩ S1 => by
    subst e es ed
    have get : ∀ {J2 : List Atom} {H' : Hp} {v : V}, Sta J2 F0 H0 δ (.dat (.tup (ns.map Dt.int)) :: τd) σ (v :: τ) H' → ∃ l, v = .ref l ∧ H' l = some (.tup (ns.map V.int)) := fun S => by
      obtain ⟨l, vs, e, h1, h2⟩ := S.dat
      have ev : vs = ns.map V.int := h2.ints
      exact ⟨l, e, by rw [← ev]; exact h1⟩
    obtain ⟨l, rfl, hl1⟩ := get S1
    have get2 : ∀ {J2 : List Atom} {H' : Hp}, Sta J2 F0 H0 δ (.dat (.tup (ns.map Dt.int)) :: τd) σ (.ref l :: τ) H' → H' l = some (.tup (ns.map V.int)) := fun S => by
      obtain ⟨l2, e, h⟩ := get S
      cases e
      exact h
    refine ⟨l, rfl, ⟨_, SqT.of hl1⟩, fun D hD => ?_⟩
    refine lc_tup (K := K) (a := l) (xs := ns.map V.int) (fun i H' => Sta (lstA D (((ns.take i).filter f).map g) :: J1) F0 H0 δ (.dat (.tup (ns.map Dt.int)) :: τd) σ (.ref l :: τ) H') (S1.newA hD rfl) (fun i H' _ S3 => SqT.of (get2 S3)) ?_ ?_
    · rintro i y H' hi S3
      rw [List.getElem?_map] at hi
      cases hk : ns[i]? with
      | none => rw [hk] at hi; cases hi
      | some k =>
        rw [hk] at hi
        have ey : y = .int k := (Option.some.inj hi).symm
        subst ey
        have hm := List.mem_of_getElem? hk
        have et : ns.take (i + 1) = ns.take i ++ [k] := by rw [List.take_add_one, hk]; rfl
        have hlen : ((((ns.take i).filter f).map g)).length < 100000 := by
          rw [List.length_map]
          have h1 := List.length_filter_le f (ns.take i)
          have h2 := List.length_take_le i ns
          have h3 : (ns.take i).length ≤ ns.length := by rw [List.length_take]; exact Nat.min_le_right ..
          omega
        refine lc_turn S3 (d := .int k) rfl hlen (Pb := fun b => b = f k) (Pe := fun d => d = g k) (ht _ k hm) (fun pb => he _ k hm pb.symm) (fun pb H4 S4 => ?_) fun pb e H4 pe S4 => ?_
        · rw [et, List.filter_append, List.filter_cons_of_neg (by rw [← pb]; exact Bool.false_ne_true)]
          simpa using S4
        · rw [et, List.filter_append, List.filter_cons_of_pos (by rw [← pb]), List.map_append]
          rw [pe] at S4
          simpa using S4
    · rintro H' S3
      rw [List.length_map, List.take_length] at S3
      exact kk J1 _ _ H' ⟨rfl, rfl⟩ S3.freeL.pop2
theorem ev_freeA {l : Addr} {ds : List Dt} (h : EvV (lstA l ds :: J) te δ (.ref l)) : EvG (lstA l ds :: J) te δ fun J1 s => J1 = J ∧ s = .lst ds := fun F0 H0 τd σ τ H Q S k => h _ _ _ _ _ _ _ S fun J1 s v H1 ⟨e, es⟩ S1 => by
  subst e es
  obtain ⟨F, _, _, ev⟩ := S1.top
  have ev : v = .ref l := ev
  subst ev
  exact k J _ _ H1 ⟨rfl, rfl⟩ S1.pop.freeL
theorem hasW_of (h : ∀ a ∈ wpB C x m A W, a ∈ J) : HasW J C x m A W := h
theorem wpJ_stk : (wpJ C x true A W ++ J0).Perm (lstA A.dk (W.stack.map Ent.toD) :: (wpB C x true A W ++ J0)) :=
  List.perm_middle (a := lstA A.dk (W.stack.map Ent.toD)) (l₁ := wpB C x true A W) (l₂ := J0)
theorem inD3 {x a b c : Str} : inD (.str x) [.str a, .str b, .str c] = (decide (x = a) || (decide (x = b) || decide (x = c))) := by
  have e : ∀ y : Str, eqV (.str y) (.str x) = decide (x = y) := fun y => by
    show (y == x) = _
    rw [Bool.eq_iff_iff, beq_iff_eq, decide_eq_true_iff]
    exact ⟨Eq.symm, Eq.symm⟩
  show (eqV (.str a) (.str x) || (eqV (.str b) (.str x) || (eqV (.str c) (.str x) || false))) = _
  rw [e, e, e, Bool.or_false]
theorem ev_nin3 {x a b c : Str} (ha : EvD J ta δ (.str x)) (hb : EvD J tb δ (.tup [.str a, .str b, .str c])) : EvD J (tOp (rIn K true) ta tb) δ (.bl (!(decide (x = a) || (decide (x = b) || decide (x = c))))) :=
  ev_op ha hb (rr_in rfl rfl (by rw [← inD3]; rfl))
end
section
variable {P : Program} {w : World} {K : PySem.W.Frag} {mg : Str → Option Value} {base : Heap} {f : Addr} {fd : FuncData} {C : Addr}
theorem scWPgroups : FnScope ["self"] ["self"] (defScope sWPgroups) := ⟨rfl, rfl, rfl, by decide +kernel, rfl, by decide +kernel, by decide +kernel⟩
def gGroupsW (W : WSt) (as : List Sl) (s : Sl) : Prop := as = [] ∧ s = .dat (.int (if W.stack = [] then 0 else 1))
theorem ok_groupsW (F : FunM K "groups" "Warp.groups" sWPgroups f fd) (T : Txt K mg) (q : ClsF K C) : FnOk P w K mg base CX0 1 f fd ["self"] (spG (rdP C true gGroupsW)) := by
  have sc := scWPgroups
  refine fn_sg F sc (fun J ss R h => ?_) (fun cdv A outer s H E hr => ⟨_, (pss_one (ps_ret (pe_callTy call_int1 (by rfl) T.n_int (by decide +kernel) (pa_cons (pe_cmpR op_gt (pe_callB call_len_seq (by rfl) T.n_len (by decide +kernel) (pa_cons (pe_fld (pv 0) rfl) pa_nil)) pe_int (nomark _)) pa_nil)))), fun J ss R h => ?_⟩)
  · obtain ⟨x, A, W, J0, as, s0, p, ok, rfl, ⟨rfl, rfl⟩, rfl⟩ := h
    rfl
  · obtain ⟨x, A, W, J0, as, s0, p, ok, rfl, ⟨rfl, rfl⟩, rfl⟩ := h
    have hw := hasW_perm p
    refine sg_retD (ev_is (ev_intB (b := decide ((0 : Int) < ((W.stack.map Ent.toD).length : Nat))) (ev_op (ev_lenA (ev_wstack hw q (slf 0)) (mem_stk p)) ev_int rr_IB)) ?_) ⟨List.Perm.refl _, rfl⟩
    cases W.stack with
    | nil => rfl
    | cons a r =>
      rw [if_neg (List.cons_ne_nil a r), decide_eq_true (by rw [List.map_cons, List.length_cons]; omega)]
      rfl
theorem top_some {W : WSt} {s : List Ent} {e : Ent} (h : W.stack = s ++ [e]) : topL W = e.lanes := by
  unfold topL
  rw [h, List.getLast?_append]
  rfl
theorem scWPactive : FnScope ["self", "group"] ["self", "group"] (defScope sWPactive) := ⟨rfl, rfl, rfl, by decide +kernel, rfl, by decide +kernel, by decide +kernel⟩
def gActiveW (W : WSt) (as : List Sl) (s : Sl) : Prop := W.stack ≠ [] ∧ as = [.dat (.int 0)] ∧ s = .lst ((topL W).map Dt.int)
theorem ok_activeW (F : FunM K "active" "Warp.active" sWPactive f fd) (T : Txt K mg) (q : ClsF K C) : FnOk P w K mg base CX0 1 f fd ["self", "group"] (spG (rdP C true gActiveW)) := by
  have sc := scWPactive
  refine fn_sg F sc (fun J ss R h => ?_) (fun cdv A outer s H E hr => ⟨_, (pss_cons (ps_if (PW.pt (pw_or (pt_cmpR op_ne (pv 1) pe_int (nomark _)) (pw_or1 (pt_not (pt_truth (pe_fld (pv 0) rfl) (by intro _; rfl)))))) (pss_one (ps_ret (pe_lst pa_nil))) pss_nil)
    (pss_one (ps_ret (pe_callTy call_list_of (by rfl) T.n_list (by decide +kernel) (pa_cons (pe_ix ix_tup (pe_ix ix_list (pe_fld (pv 0) rfl) (pe_un un_neg pe_int) (fun _ _ => rfl)) pe_int (fun _ _ => rfl)) pa_nil))))), fun J ss R h => ?_⟩)
  · obtain ⟨x, A, W, J0, as, s0, p, ok, rfl, ⟨hne, rfl, rfl⟩, rfl⟩ := h
    rfl
  · obtain ⟨x, A, W, J0, as, s0, p, ok, rfl, ⟨hne, rfl, rfl⟩, rfl⟩ := h
    have hw := hasW_perm p
    refine sg_when (et_orB (et_b (ev_op (ev_dat (d := .int 0) rfl) ev_int rr_neI)) fun _ => et_notB (et_truA (ev_wstack hw q (slf 0)) (mem_stk p))) (fun e => ?_) fun _ => ?_
    · rw [decide_eq_true (rfl : (0 : Int) = 0), Bool.not_true, Bool.false_or, Bool.not_not, List.isEmpty_iff, List.map_eq_nil_iff] at e
      exact absurd e hne
    obtain ⟨s, e, hs⟩ : ∃ s e, W.stack = s ++ [e] := ⟨_, _, (List.dropLast_concat_getLast hne).symm⟩
    rw [top_some hs]
    refine sg_retL (ev_listT (ev_op (da := e.toD) ?_ (ev_int (n := 2)) (rr_ixT (d := .tup (e.lanes.map Dt.int)) (by rfl)))) ⟨List.Perm.refl _, rfl⟩
    refine ev_ixA (P := fun i => i = -1) (ev_wstack hw q (slf 0)) (mem_stk p) ((ev_neg ev_int).toI rfl) fun i hi => ⟨_, ?_, rfl⟩
    rw [hi, hs, List.map_append]
    exact atI_last
theorem scWPasks : FnScope ["self", "group", "tid"] ["self", "group"] (defScope sWPasks) := ⟨rfl, rfl, rfl, by decide +kernel, rfl, by decide +kernel, by decide +kernel⟩
def gAsksW (W : WSt) (as : List Sl) (s : Sl) : Prop := W.stack ≠ [] ∧ (∀ k ∈ topL W, k ∈ W.ks) ∧ (topL W).length ≤ 6 ∧ as = [.dat (.int 0)] ∧ s = .lst ((topL W).map (askD W))
theorem ok_asksW (F : FunM K "asks" "Warp.asks" sWPasks f fd) (T : Txt K mg) (q : ClsF K C) (m_active : CalM P w K mg base C 1 "active" ["self", "group"] (spG (rdP C true gActiveW))) (c_Frequest : Cal P w K mg base 1 "request" ["code", "lane"] (spG (pureP rRequest))) : FnOk P w K mg base CX0 2 f fd ["self", "group"] (spG (rdP C true gAsksW)) := by
  have sc := scWPasks
  refine fn_sg F sc (fun J ss R h => ?_) (fun cdv A outer s H E hr => ⟨_, (pss_one (ps_ret (pe_lc (own := [("tid", 2)]) (g := gName 2) (tt := tYes) (by rfl) sc.nd (pi_list (pe_meth (pv 0) q.cl m_active.mt m_active.ok (hr.mono (by decide)) m_active.hb .nil pass0 (pa_cons (pv 1) pa_nil))) (blkOk_by (own := [("tid", 2)]) (N := ["self", "group", "tid"]) (sc := defScope sWPasks) (by decide +kernel)) (fun _ _ _ _ _ => pg_name (i := 2) sc.nd rfl (Or.inl rfl)) (fun _ _ _ _ _ => pts_nil) (fun _ _ _ _ _ => by apply pe_at; (exact (pe_tup (pa_cons (pv 2) (pa_cons (pe_call c_Frequest.ok (hr.mono (by decide)) (by rfl) c_Frequest.hm c_Frequest.hk c_Frequest.hb .nil pass0 (pa_cons (pe_fld (pv 0) rfl) (pa_cons (pe_dget (hu_of hr) (pe_fld (pv 0) rfl) (pv 2) (fun _ _ => rfl)) pa_nil))) pa_nil)))); (try dsimp only [Cx.blk]); try exact rfl)))), fun J ss R h => ?_⟩)
  · obtain ⟨x, A, W, J0, as, s0, p, ok, rfl, ⟨hne, hk, hl, rfl, rfl⟩, rfl⟩ := h
    rfl
  · obtain ⟨x, A, W, J0, as, s0, p, ok, rfl, ⟨hne, hk, hl, rfl, rfl⟩, rfl⟩ := h
    have hw := hasW_perm p
    have e : (topL W).map (askD W) = ((topL W).filter fun _ => true).map (askD W) := by rw [filter_yes]
    rw [e]
    refine sg_retL (ev_lcI (ns := topL W) (g := askD W) (ev_rd p ok (slf 0) (by decide +kernel) (ea_d (ds := []) (ev_dat rfl) ea_d0) ⟨hne, rfl, rfl⟩) (by omega) (fun A k hk => et_yes) fun A k hkk hf => ?_) ⟨List.Perm.refl _, rfl⟩
    exact ev_ask (x := x) ok (hasW_cons (B := A) hw) q rfl rfl (hk k hkk)
theorem scWPentries : FnScope ["self"] ["self"] (defScope sWPentries) := ⟨rfl, rfl, rfl, by decide +kernel, rfl, by decide +kernel, by decide +kernel⟩
def gEntries (W : WSt) (as : List Sl) (s : Sl) : Prop := as = [] ∧ s = .lst (W.stack.map Ent.toD)
theorem ok_entries (F : FunM K "entries" "Warp.entries" sWPentries f fd) (T : Txt K mg) (q : ClsF K C) : FnOk P w K mg base CX0 1 f fd ["self"] (spG (rdP C true gEntries)) := by
  have sc := scWPentries
  refine fn_sg F sc (fun J ss R h => ?_) (fun cdv A outer s H E hr => ⟨_, (pss_one (ps_ret (pe_callTy call_list_of (by rfl) T.n_list (by decide +kernel) (pa_cons (pe_fld (pv 0) rfl) pa_nil)))), fun J ss R h => ?_⟩)
  · obtain ⟨x, A, W, J0, as, s0, p, ok, rfl, ⟨rfl, rfl⟩, rfl⟩ := h
    rfl
  · obtain ⟨x, A, W, J0, as, s0, p, ok, rfl, ⟨rfl, rfl⟩, rfl⟩ := h
    have hw := hasW_perm p
    exact sg_retL (ev_listA (ev_wstack hw q (slf 0)) (mem_stk p)) ⟨List.Perm.refl _, rfl⟩
theorem scWPclear : FnScope ["self", "found", "at", "join", "lanes", "rows", "tid"] ["self"] (defScope sWPclear) := ⟨rfl, rfl, rfl, by decide +kernel, rfl, by decide +kernel, by decide +kernel⟩
def gClear (W W' : WSt) (as : List Sl) : Prop := (∀ e ∈ W.stack, e.lanes.length ≤ 6) ∧ W.stack.length ≤ 1000 ∧ as = [] ∧ W' = W.clear
theorem hasW_cons2 {J : List Atom} {B : Atom} {x : Addr} {A : WA} {W : WSt} : HasW (B :: (wpB C x true A W ++ J)) C x true A W := fun a h => List.mem_cons_of_mem _ (List.mem_append_left _ h)
theorem ok_clear (F : FunM K "clear" "Warp.clear" sWPclear f fd) (T : Txt K mg) (q : ClsF K C) : FnOk P w K mg base CX0 1 f fd ["self"] (spG (wrP C true gClear)) := by
  have sc := scWPclear
  refine fn_sg F sc (fun J ss R h => ?_) (fun cdv A outer s H E hr => ⟨_, (pss_cons (ps_set (i := 1) sc.nd rfl (.inl rfl) (pe_lst pa_nil))
    (pss_cons (ps_for PassesOwn.never rfl (pi_list (pe_fld (pv 0) rfl)) (pg_tup (by rfl) (pgs_cons (pg_name (i := 2) sc.nd rfl (.inl rfl)) (pgs_cons (pg_name (i := 3) sc.nd rfl (.inl rfl)) (pgs_cons (pg_name (i := 4) sc.nd rfl (.inl rfl)) pgs_nil)))) (pss_cons (ps_set (i := 5) sc.nd rfl (.inl rfl) (pe_callTy call_tuple_of (by rfl) T.n_tuple (by decide +kernel) (pa_cons (pe_lc (own := [("tid", 6)]) (g := gName 6) (tt := _) (by rfl) sc.nd (pi_tup (pv 4)) (blkOk_by (own := [("tid", 6)]) (N := ["self", "found", "at", "join", "lanes", "rows", "tid"]) (sc := defScope sWPclear) (by decide +kernel)) (fun _ _ _ _ _ => pg_name (i := 6) sc.nd rfl (Or.inl rfl)) (fun _ _ _ _ _ => by apply pts_at; (exact (pts_one (PW.pt (pw_and (pt_cmp (pc_dnotin (hu_of hr) (pv 6) (pe_fld (pv 0) rfl)) (by rfl)) (pw_and1 (pt_cmp (pc_dnotin (hu_of hr) (pv 6) (pe_fld (pv 0) rfl)) (by rfl))))))); (try dsimp only [Cx.blk]); try exact rfl) (fun _ _ _ _ _ => by apply pe_at; (exact (pv 6)); (try dsimp only [Cx.blk]); try exact rfl)) pa_nil)))
    (pss_one (ps_if (PW.pt (pw_and (pt_truth (pv 5) (by intro _; rfl)) (pw_and1 (PW.pt (pw_or (pt_cmpR op_eq (pv 3) (pe_un un_neg pe_int) (nomark _)) (pw_or1 (pt_cmpR op_ne (pv 2) (pv 3) (nomark _)))))))) (pss_one (ps_expr (pe_bm PySem.F.plainAttrs_list PySem.F.slot_list_append PySem.F.type_list_append mt_append (pv 1) (pa_cons (pe_tup (pa_cons (pv 2) (pa_cons (pv 3) (pa_cons (pv 5) pa_nil)))) pa_nil)))) pss_nil))))
    (pss_one (ps_fld (pv 0) (pv 1) rfl)))), fun J ss R h => ?_⟩)
  · obtain ⟨x, A, W, W', J0, as, p, ok, rfl, ⟨hl, hz, rfl, rfl⟩, rfl⟩ := h
    rfl
  · obtain ⟨x, A, W, W', J0, as, p, ok, rfl, ⟨hl, hz, rfl, rfl⟩, rfl⟩ := h
    refine sg_newL fun fnd => ?_
    refine SG.perm (J' := lstA A.dk (W.stack.map Ent.toD) :: lstA fnd [] :: (wpB C x true A W ++ J0)) (((p.trans wpJ_stk).cons _).trans (List.Perm.swap ..)) ?_
    refine sg_seq (N := fun J1 δ1 => J1 = lstA fnd ((clrS W W.stack).map Ent.toD) :: (wpB C x true A W ++ J0) ∧ ∃ a b c d e, δ1 = [some (.val (.ref x)), some (.val (.ref fnd)), a, b, c, d, e]) ?_ ?_
    · refine sg_forL (J' := lstA fnd [] :: (wpB C x true A W ++ J0)) (ds := W.stack.map Ent.toD) (Iv := fun i J1 δ1 => J1 = lstA fnd ((clrS W (W.stack.take i)).map Ent.toD) :: (wpB C x true A W ++ J0) ∧ ∃ a b c d e, δ1 = [some (.val (.ref x)), some (.val (.ref fnd)), a, b, c, d, e])
        (ev_freeA (ev_wstack (hasW_cons hasW_cons2) q (slf 0))) ⟨rfl, _, _, _, _, _, rfl⟩ ?_ ?_
      · rintro i d J1 δ1 hd ⟨rfl, a, b, c, dd, ee, rfl⟩
        rw [List.getElem?_map] at hd
        cases hi : W.stack[i]? with
        | none => rw [hi] at hd; cases hd
        | some e =>
          rw [hi] at hd
          cases hd
          have hm := List.mem_of_getElem? hi
          refine ⟨_, tg_tup (tgs_cons tg_name (tgs_cons tg_name (tgs_cons tg_name tgs_nil))), ?_⟩
          have et : W.stack.take (i + 1) = W.stack.take i ++ [e] := by rw [List.take_add_one, hi]; rfl
          have hlen : ((clrS W (W.stack.take i)).map Ent.toD).length < 100000 := by
            unfold clrS
            rw [List.length_map]
            have h1 := List.length_filter_le keepE ((W.stack.take i).map (clrE W))
            rw [List.length_map, List.length_take] at h1
            have h2 := Nat.min_le_right i W.stack.length
            omega
          rw [et]
          have ecl : clrS W (W.stack.take i ++ [e]) = clrS W (W.stack.take i) ++ (if keepE (clrE W e) = true then [clrE W e] else []) := by
            unfold clrS
            rw [List.map_append, List.filter_append]
            congr 1
            show List.filter keepE [clrE W e] = _
            by_cases hk : keepE (clrE W e) = true
            · rw [if_pos hk, List.filter_cons_of_pos hk]
              rfl
            · rw [if_neg hk, List.filter_cons_of_neg hk]
              rfl
          rw [ecl]
          refine sg_letD (d := .tup (((e.lanes.filter (runB W)).map Dt.int))) (ev_tupL (ev_lcT (ns := e.lanes) (g := Dt.int) (ev_dat rfl) ?_ (fun B k hk => ?_) fun B k hk hf => ev_dat rfl)) ?_
          · have := hl e hm
            omega
          · have hw2 : HasW (B :: lstA fnd ((clrS W (W.stack.take i)).map Ent.toD) :: (wpB C x true A W ++ J0)) C x true A W := hasW_cons hasW_cons2
            exact et_andB (et_b (ev_dnotin (ev_wwaiting hw2 q (slf 0)) (ev_dat rfl) (mem_wk hw2))) fun _ => et_b (ev_dnotin (ev_wgone hw2 q (slf 0)) (ev_dat rfl) (mem_gk hw2))
          have hk : keepE (clrE W e) = ((!((e.lanes.filter (runB W)).map Dt.int).isEmpty) && (decide (e.join = -1) || !decide (e.at_ = e.join))) := by
            unfold keepE clrE
            congr 2
            cases (e.lanes.filter (runB W)) <;> rfl
          refine sg_ifB (z := keepE (clrE W e)) ?_ (fun ek => ?_) fun ek => ?_
          · rw [hk]
            exact et_andB (et_truT (ev_dat rfl)) fun _ => et_orB (et_b (ev_op (ev_dat rfl) (ev_neg ev_int) rr_eqI)) fun _ => et_b (ev_op (ev_dat rfl) (ev_dat rfl) rr_neI)
          · refine sg_append (s := []) (t := wpB C x true A W ++ J0) (P := fun d => d = (clrE W e).toD) (slf 1) (ev_tup (ea_d (ev_dat rfl) (ea_d (ev_dat rfl) (ea_d (ev_dat rfl) ea_d0)))) hlen fun d hd => ⟨?_, _, _, _, _, _, rfl⟩
            rw [if_pos ek, List.map_append, hd]
            rfl
          · refine sg_next ⟨?_, _, _, _, _, _, rfl⟩
            rw [if_neg (by rw [ek]; exact Bool.false_ne_true), List.append_nil]
      · rintro J1 δ1 ⟨rfl, h⟩
        rw [List.length_map, List.take_length]
        exact ⟨rfl, h⟩
    · rintro J1 δ1 ⟨rfl, a, b, c, dd, ee, rfl⟩
      refine sg_fldG (x := x) (C := C) (dx := A.dx) (fs := fldW true W.base W.first A) (dd := ddW W A) (P := fun J1 s => J1 = lstA fnd ((clrS W W.stack).map Ent.toD) :: (wpB C x true A W ++ J0) ∧ s = .val (.ref fnd)) (slf 1) q.cl q.n_stack (fld_len (m := true)) fun J2 sl ⟨e1, e2⟩ => ?_
      refine ⟨[lstA fnd ((clrS W W.stack).map Ent.toD)], _, .ref fnd, e1, e2, slf 0, ?_⟩
      rw [pf_stack]
      refine ⟨{ A with dk := fnd }, ?_⟩
      exact (wpJ_stk (A := { A with dk := fnd }) (W := W.clear)).symm
theorem scWPpart : FnScope ["self", "at", "join", "lanes", "places", "instruction", "place", "rows", "tid"] ["self", "at", "join", "lanes"] (defScope sWPpart) := ⟨rfl, rfl, rfl, by decide +kernel, rfl, by decide +kernel, by decide +kernel⟩
def gPart (W W' : WSt) (as : List Sl) : Prop := ∃ (a : Nat) (join : Int) (L : List Int), (∀ k ∈ L, k ∈ W.ks) ∧ L.length ≤ 6 ∧ ((placesOf W L).length = 1 ∨ ∃ r t j, W.p.rows[a]? = some (.branch r t j)) ∧ W.stack.length ≤ 1000 ∧ as = [.dat (.int a), .dat (.int join), .dat (.tup (L.map Dt.int))] ∧ W' = W.part a join L
theorem ok_part (F : FunM K "part" "Warp.part" sWPpart f fd) (T : Txt K mg) (q : ClsF K C) : FnOk P w K mg base CX0 1 f fd ["self", "at", "join", "lanes"] (spG (wrP C true gPart)) := by
  have sc := scWPpart
  refine fn_sg F sc (fun J ss R h => ?_) (fun cdv A outer s H E hr => ⟨_, (pss_cons (ps_set (i := 4) sc.nd rfl (.inl rfl) (pe_callB (cr_sortedSet rfl) (by rfl) T.n_sorted (by decide +kernel) (pa_cons (pe_callTy (cr_setIts rfl) (by rfl) T.n_set (by decide +kernel) (pa_cons (pe_lc (own := [("tid", 8)]) (g := gName 8) (tt := tYes) (by rfl) sc.nd (pi_tup (pv 3)) (blkOk_by (own := [("tid", 8)]) (N := ["self", "at", "join", "lanes", "places", "instruction", "place", "rows", "tid"]) (sc := defScope sWPpart) (by decide +kernel)) (fun _ _ _ _ _ => pg_name (i := 8) sc.nd rfl (Or.inl rfl)) (fun _ _ _ _ _ => pts_nil) (fun _ _ _ _ _ => by apply pe_at; (exact (pe_ix ix_tup (pe_dget (hu_of hr) (pe_fld (pv 0) rfl) (pv 8) (fun _ _ => rfl)) pe_int (fun _ _ => rfl))); (try dsimp only [Cx.blk]); try exact rfl)) pa_nil)) pa_nil)))
    (pss_cons (ps_if (pt_cmpR op_eq (pe_callB call_len_seq (by rfl) T.n_len (by decide +kernel) (pa_cons (pv 4) pa_nil)) pe_int (nomark _)) (pss_cons (ps_expr (pe_bm PySem.F.plainAttrs_list PySem.F.slot_list_append PySem.F.type_list_append mt_append (pe_fld (pv 0) rfl) (pa_cons (pe_tup (pa_cons (pe_ix ix_list (pv 4) pe_int (fun _ _ => rfl)) (pa_cons (pv 2) (pa_cons (pv 3) pa_nil)))) pa_nil)))
    (pss_one ps_retN)) pss_nil)
    (pss_cons (ps_set (i := 5) sc.nd rfl (.inl rfl) (pe_ix ix_tup (pe_ix ix_tup (pe_fld (pv 0) rfl) pe_int (fun _ _ => rfl)) (pv 1) (fun _ _ => rfl)))
    (pss_cons (ps_expr (pe_bm PySem.F.plainAttrs_list PySem.F.slot_list_append PySem.F.type_list_append mt_append (pe_fld (pv 0) rfl) (pa_cons (pe_tup (pa_cons (pe_ix ix_tup (pv 5) pe_int (fun _ _ => rfl)) (pa_cons (pv 2) (pa_cons (pv 3) pa_nil)))) pa_nil)))
    (pss_one (ps_for PassesOwn.never rfl (pi_tup (pe_tup (pa_cons (pe_op op_add (pv 1) pe_int) (pa_cons (pe_ix ix_tup (pv 5) pe_int (fun _ _ => rfl)) pa_nil)))) (pg_name (i := 6) sc.nd rfl (.inr rfl)) (pss_cons (ps_set (i := 7) sc.nd rfl (.inl rfl) (pe_callTy call_tuple_of (by rfl) T.n_tuple (by decide +kernel) (pa_cons (pe_lc (own := [("tid", 8)]) (g := gName 8) (tt := _) (by rfl) sc.nd (pi_tup (pv 3)) (blkOk_by (own := [("tid", 8)]) (N := ["self", "at", "join", "lanes", "places", "instruction", "place", "rows", "tid"]) (sc := defScope sWPpart) (by decide +kernel)) (fun _ _ _ _ _ => pg_name (i := 8) sc.nd rfl (Or.inl rfl)) (fun _ _ _ _ _ => by apply pts_at; (exact (pts_one (pt_cmpR op_eq (pe_ix ix_tup (pe_dget (hu_of hr) (pe_fld (pv 0) rfl) (pv 8) (fun _ _ => rfl)) pe_int (fun _ _ => rfl)) (pv 6) (nomark _)))); (try dsimp only [Cx.blk]); try exact rfl) (fun _ _ _ _ _ => by apply pe_at; (exact (pv 8)); (try dsimp only [Cx.blk]); try exact rfl)) pa_nil)))
    (pss_one (ps_expr (pe_bm PySem.F.plainAttrs_list PySem.F.slot_list_append PySem.F.type_list_append mt_append (pe_fld (pv 0) rfl) (pa_cons (pe_tup (pa_cons (pv 6) (pa_cons (pe_ix ix_tup (pv 5) pe_int (fun _ _ => rfl)) (pa_cons (pv 7) pa_nil)))) pa_nil))))))))))), fun J ss R h => ?_⟩)
  · obtain ⟨x, A, W, W', J0, as, p, ok, rfl, ⟨a, join, L, hL, hl, hpl, hz, rfl, rfl⟩, rfl⟩ := h
    rfl
  · obtain ⟨x, A, W, W', J0, as, p, ok, rfl, ⟨a, join, L, hL, hl, hpl, hz, rfl, rfl⟩, rfl⟩ := h
    refine SG.perm (J' := wpB C x true A W ++ lstA A.dk (W.stack.map Ent.toD) :: J0) p ?_
    have hw : HasW (wpB C x true A W ++ lstA A.dk (W.stack.map Ent.toD) :: J0) C x true A W := fun b hb => List.mem_append_left _ hb
    refine sg_letL (ds := (placesOf W L).map Dt.int) (ev_sortedSet ?_ (by rw [List.length_map]; omega)) ?_
    · have e : (List.map Dt.int (List.map (plc W) L)) = (L.filter fun _ => true).map fun k => Dt.int (plc W k) := by
        rw [filter_yes, List.map_map]
        rfl
      rw [e]
      exact ev_lcT (ns := L) (g := fun k => Dt.int (plc W k)) (ev_dat rfl) (by omega) (fun B k hk => et_yes) fun B k hk hf => ev_wat (hasW_cons (B := B) hw) q (slf 0) (ev_dat rfl) (hL k hk)
    have hds : ∀ l : List Ent, l.length ≤ 2000 → (l.map Ent.toD).length < 100000 := fun l h => by rw [List.length_map]; omega
    refine sg_when (et_b (ev_op (ev_is (ev_lenL (ev_lst rfl)) (by rw [List.length_map])) ev_int rr_eqI)) (fun e => ?_) fun e => ?_
    · have e1 : (placesOf W L).length = 1 := by have := of_decide_eq_true e; omega
      refine sg_seq (N := fun J1 δ1 => J1 = wpJ C x true A (W.part a join L) ++ J0) ?_ fun J1 δ1 e2 => by rw [e2]; exact sg_retN ⟨A, List.Perm.refl _⟩
      refine sg_append (s := wpB C x true A W) (t := J0) (l := A.dk) (ds := W.stack.map Ent.toD) (P := fun d => d = (Ent.mk ((placesOf W L).getD 0 0) join L).toD) (ev_wstack hw q (slf 0)) ?_ (hds _ (by omega)) fun d hd => ?_
      · refine ev_tup (ea_d (EvI.toD ((ev_ixL (Pd := fun d => d = .int ((placesOf W L).getD 0 0)) (ev_lst rfl) (ev_int.toI (P := fun i => i = 0) rfl) fun i e => ⟨_, by rw [e]; exact at_int (i := 0) (by omega), rfl⟩).imp fun d e => ⟨_, e, rfl⟩)) (ea_d (ev_dat rfl) (ea_d (ev_dat rfl) ea_d0)))
      · rw [hd]
        have es : (W.part a join L).stack = W.stack ++ [⟨(placesOf W L).getD 0 0, join, L⟩] := by
          show W.stack ++ partS W a join L = _
          unfold partS
          rw [if_pos e1]
        show wpB C x true A W ++ lstA A.dk _ :: J0 = _
        have eq : wpJ C x true A (W.part a join L) ++ J0 = wpB C x true A W ++ lstA A.dk ((W.part a join L).stack.map Ent.toD) :: J0 := rfl
        rw [eq, es, List.map_append]
        rfl
    · have e1 : ¬ (placesOf W L).length = 1 := by have := of_decide_eq_false e; omega
      obtain ⟨r, t, j, hrow⟩ := hpl.resolve_left e1
      have hg : W.p.rows.getD a .exit = .branch r t j := by rw [List.getD_eq_getElem?_getD, hrow]; rfl
      refine sg_letD (d := .tup [.str "branch", .int r, .int t, .int j]) (ev_op (ev_op (ev_wcode hw q (slf 0)) (ev_int (n := 3)) (rr_ixT (d := .tup (W.p.rows.map Ins.toD)) (by rfl))) (ev_dat rfl) (rr_ixT (at_map hrow))) ?_
      have es : (W.part a join L).stack = W.stack ++ ([⟨j, join, L⟩, ⟨(a : Int) + 1, j, L.filter fun k => decide (plc W k = (a : Int) + 1)⟩, ⟨t, j, L.filter fun k => decide (plc W k = (t : Int))⟩]) := by
        show W.stack ++ partS W a join L = _
        unfold partS
        rw [if_neg e1, hg]
      refine sg_seq (N := fun J1 δ1 => J1 = wpB C x true A W ++ lstA A.dk ((W.stack ++ [Ent.mk j join L]).map Ent.toD) :: J0 ∧ δ1 = [some (.val (.ref x)), some (.dat (.int a)), some (.dat (.int join)), some (.dat (.tup (L.map Dt.int))), some (.lst ((placesOf W L).map Dt.int)), some (.dat (.tup [.str "branch", .int r, .int t, .int j])), none, none, none]) ?_ ?_
      · refine sg_append (s := wpB C x true A W) (t := J0) (l := A.dk) (ds := W.stack.map Ent.toD) (P := fun d => d = (Ent.mk j join L).toD) (ev_wstack hw q (slf 0)) ?_ (hds _ (by omega)) fun d hd => ?_
        · exact ev_tup (ea_d (ev_op (da := .tup [.str "branch", .int r, .int t, .int j]) (ev_dat rfl) ev_int (rr_ixT (d := .int j) (by rfl))) (ea_d (ev_dat rfl) (ea_d (ev_dat rfl) ea_d0)))
        · refine ⟨?_, rfl⟩
          rw [hd, List.map_append]
          rfl
      · rintro J1 δ1 ⟨rfl, rfl⟩
        have hw2 : ∀ S, HasW (wpB C x true A W ++ lstA A.dk S :: J0) C x true A W := fun S b hb => List.mem_append_left _ hb
        let Sx : Int → Ent := fun pl => ⟨pl, j, L.filter fun k => decide (plc W k = pl)⟩
        refine sg_forT (ds := [.int ((a : Int) + 1), .int t]) (Iv := fun i J1 δ1 => J1 = wpB C x true A W ++ lstA A.dk ((W.stack ++ [Ent.mk j join L] ++ ([Sx ((a : Int) + 1), Sx t].take i)).map Ent.toD) :: J0 ∧ ∃ b c d, δ1 = [some (.val (.ref x)), some (.dat (.int a)), some (.dat (.int join)), some (.dat (.tup (L.map Dt.int))), some (.lst ((placesOf W L).map Dt.int)), some (.dat (.tup [.str "branch", .int r, .int t, .int j])), b, c, d])
          (ev_tup (ea_d (ev_op (ev_dat (d := .int a) rfl) ev_int rr_II) (ea_d (ev_op (da := .tup [.str "branch", .int r, .int t, .int j]) (ev_dat rfl) ev_int (rr_ixT (d := .int t) (by rfl))) ea_d0))) ⟨by simp, _, _, _, rfl⟩ ?_ ?_
        · rintro i d J1 δ1 hd ⟨rfl, b, c, dd, rfl⟩
          obtain ⟨pl, rfl, hpl2⟩ : ∃ pl : Int, d = .int pl ∧ [Sx ((a : Int) + 1), Sx t].take (i + 1) = [Sx ((a : Int) + 1), Sx t].take i ++ [Sx pl] := by
            match i, hd with
            | 0, hd => cases hd; exact ⟨_, rfl, rfl⟩
            | 1, hd => cases hd; exact ⟨_, rfl, rfl⟩
          refine ⟨_, tg_name, ?_⟩
          refine sg_letD (d := .tup ((L.filter fun k => decide (plc W k = pl)).map Dt.int)) (ev_tupL (ev_lcT (ns := L) (g := Dt.int) (ev_dat rfl) (by omega) (fun B k hk => et_b (ev_op (ev_wat (hasW_cons (B := B) (hw2 _)) q (slf 0) (ev_dat rfl) (hL k hk)) (ev_dat (d := .int pl) rfl) rr_eqI)) fun B k hk hf => ev_dat rfl)) ?_
          refine sg_append (s := wpB C x true A W) (t := J0) (l := A.dk) (ds := (W.stack ++ [Ent.mk j join L] ++ ([Sx ((a : Int) + 1), Sx t].take i)).map Ent.toD) (P := fun d => d = (Sx pl).toD) (ev_wstack (hw2 _) q (slf 0)) ?_ (hds _ ?_) fun d hd => ?_
          · exact ev_tup (ea_d (ev_dat rfl) (ea_d (ev_op (da := .tup [.str "branch", .int r, .int t, .int j]) (ev_dat rfl) ev_int (rr_ixT (d := .int j) (by rfl))) (ea_d (ev_dat rfl) ea_d0)))
          · rw [List.length_append, List.length_append, List.length_take]
            have := Nat.min_le_right i [Sx ((a : Int) + 1), Sx t].length
            have h2 : [Sx ((a : Int) + 1), Sx t].length = 2 := rfl
            have h3 : [(⟨j, join, L⟩ : Ent)].length = 1 := rfl
            omega
          · refine ⟨?_, _, _, _, rfl⟩
            rw [hpl2, hd, ← List.append_assoc, List.map_append (l₂ := [Sx pl])]
            rfl
        · rintro J1 δ1 ⟨rfl, _⟩
          refine ⟨A, ?_⟩
          have eq : wpJ C x true A (W.part a join L) ++ J0 = wpB C x true A W ++ lstA A.dk ((W.part a join L).stack.map Ent.toD) :: J0 := rfl
          rw [eq, es, List.append_assoc]
          exact List.Perm.refl _
end
end LK

namespace LK
open PySem PySem.Spec PyProof.Rows L2
local macro_rules | `(tactic| walk_at "rr") => `(tactic| first
  | (with_reducible exact rr_head)
  | ((with_reducible refine rr_ixT (d := ?d) ?h); (case h => exact rfl))
  | (with_reducible exact rr_eqS)
  | (with_reducible exact rr_eqI)
  | (with_reducible exact rr_neI)
  | (with_reducible exact rr_II)
  | (with_reducible exact rr_IB))
local macro_rules | `(tactic| walk_at "ev") => `(tactic| first
  | (with_reducible exact ev_int)
  | (with_reducible exact ev_str)
  | (with_reducible exact ev_non)
  | (with_reducible exact ev_bl)
  | ((with_reducible refine ev_dat (d := ?d) ?h); (case h => exact rfl))
  | (with_reducible exact ea_d0)
  | ((with_reducible refine ea_d (d := ?d) (ds := ?ds) ?h1 ?h2); (case h1 => walk_at "ev"); (case h2 => walk_at "ev"))
  | ((with_reducible refine ev_op (da := ?da) (db := ?db) (dc := ?dc) ?h1 ?h2 ?h3); (case h1 => walk_at "ev"); (case h2 => walk_at "ev"); (case h3 => walk_at "rr"))
  | ((with_reducible refine ev_tup (ds := ?ds) ?h1 ?h2); (case h1 => walk_at "ev"); (case h2 => exact Nat.le_of_ble_eq_true rfl))
  | ((with_reducible refine et_b (b := ?b) ?h1); (case h1 => walk_at "ev")))

def WSt.cut (W : WSt) (s : List Ent) : WSt := { W with stack := s }
theorem cut_ok {W : WSt} (ok : W.Ok) (s : List Ent) : (W.cut s).Ok := ⟨ok.p, ok.asc, ok.len, ok.st, ok.thr, ok.wn, ok.gn, ok.ws, ok.gs⟩
def stopI (i : Ins) : Bool := i.isWait || i.isExit
def midW (W : WSt) (s : List Ent) (e : Ent) (ps : List (Int × Int)) : WSt := if stopI (insOf W (e.lanes.headD 0)) = true then adv (W.cut s) ps else (adv (W.cut s) ps).part e.at_.toNat e.join e.lanes
def stepW (W : WSt) (s : List Ent) (e : Ent) (ps : List (Int × Int)) : WSt := (midW W s e ps).clear
/-- what a step with masks asks -/
structure StepOk (W : WSt) (s : List Ent) (e : Ent) (ps : List (Int × Int)) : Prop where
  st : W.stack = s ++ [e]
  ne : e.lanes ≠ []
  nd : e.lanes.Nodup
  ks : ∀ k ∈ e.lanes, k ∈ W.ks
  at_ : ∀ k ∈ e.lanes, plc W k = e.at_
  six : ∀ e ∈ W.stack, e.lanes.length ≤ 6
  few : s.length ≤ 20
  pe : ps.map (·.1) = e.lanes
  wd : ∀ r ∈ ps, Wd r.2
theorem ins_same {W : WSt} {j k : Int} (h : plc W j = plc W k) : insOf W j = insOf W k := by
  have h : ((W.st j).at_ : Int) = (W.st k).at_ := h
  unfold insOf Lane.ins
  rw [show (W.st j).at_ = (W.st k).at_ by omega]
section
variable {W : WSt} {s : List Ent} {e : Ent} {ps : List (Int × Int)}
theorem StepOk.pk (h : StepOk W s e ps) : ∀ q ∈ ps, q.1 ∈ W.ks ∧ Wd q.2 := fun q hq => ⟨h.ks _ (by rw [← h.pe]; exact List.mem_map.mpr ⟨q, hq, rfl⟩), h.wd q hq⟩
theorem StepOk.pn (h : StepOk W s e ps) : (ps.map (·.1)).Nodup := by rw [h.pe]; exact h.nd
theorem StepOk.hd (h : StepOk W s e ps) : e.lanes.headD 0 ∈ e.lanes := by
  have := h.ne
  cases q : e.lanes with
  | nil => exact absurd q this
  | cons a r => exact List.mem_cons_self ..
theorem StepOk.ins (h : StepOk W s e ps) {k : Int} (hk : k ∈ e.lanes) : insOf W k = insOf W (e.lanes.headD 0) := ins_same ((h.at_ k hk).trans (h.at_ _ h.hd).symm)
theorem StepOk.nat (h : StepOk W s e ps) {k : Int} (hk : k ∈ e.lanes) : (W.st k).at_ = e.at_.toNat ∧ e.at_ = (e.at_.toNat : Int) := by
  have := h.at_ k hk
  unfold plc at this
  omega
/-- where a lane of the top goes -/
theorem StepOk.new (ok : W.Ok) (h : StepOk W s e ps) (hs : stopI (insOf W (e.lanes.headD 0)) = false) {k : Int} (hk : k ∈ e.lanes) : plc (adv (W.cut s) ps) k = (follN (W.st k) (insOf W (e.lanes.headD 0)) : Nat) := by
  rw [← h.pe] at hk
  obtain ⟨⟨k', z⟩, hm, e1⟩ := List.mem_map.mp hk
  have e1 : k' = k := e1
  subst e1
  rw [h.pe] at hk
  obtain ⟨f1, _⟩ := adv_facts (cut_ok ok s) h.pn h.pk
  have e2 := f1 _ z hm
  have e3 : insOf (W.cut s) k' = insOf W (e.lanes.headD 0) := h.ins hk
  unfold stopI at hs
  rw [e3, hs, if_neg Bool.false_ne_true] at e2
  unfold plc
  rw [e2]
  have hx : (insOf W k').isExit = false := by
    rw [h.ins hk]
    exact (Bool.or_eq_false_iff.mp hs).2
  have e4 : (behindN (W.cut s).p ((W.cut s).base + k') ((W.cut s).st k') z).at_ = follN (W.st k') (insOf W k') := behindN_at hx
  rw [e4, h.ins hk]
theorem StepOk.row (ok : W.Ok) (h : StepOk W s e ps) : W.p.rows[e.at_.toNat]? = some (insOf W (e.lanes.headD 0)) := by
  have h1 := (Lane.ins_ok ok.p (ok.st _ (h.ks _ h.hd))).1
  rw [(h.nat h.hd).1] at h1
  exact h1
theorem StepOk.part (ok : W.Ok) (h : StepOk W s e ps) (hs : stopI (insOf W (e.lanes.headD 0)) = false) : (placesOf (adv (W.cut s) ps) e.lanes).length = 1 ∨ ∃ r t j, W.p.rows[e.at_.toNat]? = some (.branch r t j) := by
  by_cases hb : ∃ r t j, insOf W (e.lanes.headD 0) = .branch r t j
  · obtain ⟨r, t, j, hb⟩ := hb
    exact .inr ⟨r, t, j, by rw [← hb]; exact h.row ok⟩
  · refine .inl ?_
    have hne : e.lanes.map (plc (adv (W.cut s) ps)) ≠ [] := fun z => h.ne (List.map_eq_nil_iff.mp z)
    unfold placesOf
    rw [ascI_const (c := (follN (W.st (e.lanes.headD 0)) (insOf W (e.lanes.headD 0)) : Nat)) hne fun c hc => ?_]
    · rfl
    · obtain ⟨k, hk, rfl⟩ := List.mem_map.mp hc
      rw [h.new ok hs hk, follN_plain (fun r t j z => hb ⟨r, t, j, z⟩) (W.st k) ((h.nat hk).1.trans (h.nat h.hd).1.symm)]
theorem StepOk.six1 (h : StepOk W s e ps) : e.lanes.length ≤ 6 := h.six e (by rw [h.st]; exact List.mem_append_right _ (List.mem_singleton.mpr rfl))
end
theorem rk_stop (i : Ins) : (!(decide (rkind i = "barrier") || (decide (rkind i = "collect") || decide (rkind i = "exit")))) = !stopI i := by
  unfold stopI
  rw [← Bool.or_assoc, rk_wait, rk_exit]
section
variable {P : Program} {w : World} {K : PySem.W.Frag} {mg : Str → Option Value} {base : Heap} {f : Addr} {fd : FuncData} {C : Addr}
theorem scWPstep : FnScope ["self", "group", "words", "rows", "at", "join", "lanes"] ["self", "group", "words"] (defScope sWPstep) := ⟨rfl, rfl, rfl, by decide +kernel, rfl, by decide +kernel, by decide +kernel⟩
def gStepW (W W' : WSt) (as : List Sl) : Prop := ∃ s e ps, StepOk W s e ps ∧ as = [.dat (.int 0), .lst (ps.map fun q => .int q.2)] ∧ W' = stepW W s e ps
theorem partS_six {W : WSt} {a : Nat} {join : Int} {L : List Int} (h : L.length ≤ 6) : ∀ e ∈ partS W a join L, e.lanes.length ≤ 6 := by
  intro e he
  have hf : ∀ g : Int → Bool, (L.filter g).length ≤ 6 := fun g => Nat.le_trans (List.length_filter_le _ _) h
  unfold partS at he
  split at he
  · rw [List.mem_singleton.mp he]; exact h
  · split at he
    · simp only [List.mem_cons, List.not_mem_nil, or_false] at he
      rcases he with e1 | e1 | e1 <;> rw [e1]
      · exact h
      · exact hf _
      · exact hf _
    · cases he
theorem partS_len {W : WSt} {a : Nat} {join : Int} {L : List Int} : (partS W a join L).length ≤ 3 := by
  unfold partS
  split
  · exact Nat.le_of_ble_eq_true rfl
  · split
    · exact Nat.le_of_ble_eq_true rfl
    · exact Nat.zero_le _
theorem ok_stepW (F : FunM K "step" "Warp.step" sWPstep f fd) (T : Txt K mg) (q : ClsF K C) (m_asks : CalM P w K mg base C 2 "asks" ["self", "group"] (spG (rdP C true gAsksW))) (m_advance : CalM P w K mg base C 7 "advance" ["self", "rows", "words"] (spG (wrP C true gAdvance)))
    (m_part : CalM P w K mg base C 1 "part" ["self", "at", "join", "lanes"] (spG (wrP C true gPart))) (m_clear : CalM P w K mg base C 1 "clear" ["self"] (spG (wrP C true gClear))) :
    FnOk P w K mg base CX0 8 f fd ["self", "group", "words"] (spG (wrP C true gStepW)) := by
  have sc := scWPstep
  refine fn_sg F sc (fun J ss R h => ?_) (fun cdv A outer s H E hr => ⟨_, (pss_cons (ps_set (i := 3) sc.nd rfl (.inl rfl) (pe_meth (pv 0) q.cl m_asks.mt m_asks.ok (hr.mono (by decide)) m_asks.hb .nil pass0 (pa_cons (pv 1) pa_nil)))
    (pss_cons (ps_if (pt_not (pt_truth (pv 3) (by intro _; rfl))) (pss_one ps_never) pss_nil)
    (pss_cons (ps_asg (pe_bm0 PySem.F.plainAttrs_list PySem.F.slot_list_pop PySem.F.type_list_pop mt_pop (pe_fld (pv 0) rfl)) (pg_tup (by rfl) (pgs_cons (pg_name (i := 4) sc.nd rfl (.inl rfl)) (pgs_cons (pg_name (i := 5) sc.nd rfl (.inl rfl)) (pgs_cons (pg_name (i := 6) sc.nd rfl (.inl rfl)) pgs_nil)))))
    (pss_cons (ps_expr (pe_meth (pv 0) q.cl m_advance.mt m_advance.ok (hr.mono (by decide)) m_advance.hb .nil pass0 (pa_cons (pv 3) (pa_cons (pv 2) pa_nil))))
    (pss_cons (ps_if (pt_cmpR op_notIn_seq (pe_ix ix_tup (pe_ix ix_tup (pe_ix ix_list (pv 3) pe_int (fun _ _ => rfl)) pe_int (fun _ _ => rfl)) pe_int (fun _ _ => rfl)) (pe_tup (pa_cons pe_str (pa_cons pe_str (pa_cons pe_str pa_nil)))) (by rfl)) (pss_one (ps_expr (pe_meth (pv 0) q.cl m_part.mt m_part.ok (hr.mono (by decide)) m_part.hb .nil pass0 (pa_cons (pv 4) (pa_cons (pv 5) (pa_cons (pv 6) pa_nil)))))) pss_nil)
    (pss_one (ps_expr (pe_meth0 (pv 0) q.cl m_clear.mt m_clear.ok (hr.mono (by decide)) m_clear.hb .nil pass0)))))))), fun J ss R h => ?_⟩)
  · obtain ⟨x, A, W, W', J0, as, p, ok, rfl, ⟨s, e, ps, hs, rfl, rfl⟩, rfl⟩ := h
    rfl
  · obtain ⟨x, A, W, W', J0, as, p, ok, rfl, ⟨s, e, ps, hs, rfl, rfl⟩, rfl⟩ := h
    have htop := top_some hs.st
    refine sg_letG (ev_rd (s0 := .lst ((topL W).map (askD W))) p ok (slf 0) (by decide +kernel) (ea_d (ds := []) (ev_dat rfl) ea_d0) ⟨by rw [hs.st]; exact List.append_ne_nil_of_right_ne_nil _ (List.cons_ne_nil _ _), by rw [htop]; exact hs.ks, by rw [htop]; exact hs.six1, rfl, rfl⟩) fun J1 s1 ⟨e1, e2⟩ => ?_
    subst e1 e2
    rw [htop]
    refine sg_when (et_notB (et_truL (ev_lst rfl))) (fun e => ?_) fun _ => ?_
    · refine sg_never ?_
      rw [Bool.not_not, List.isEmpty_iff, List.map_eq_nil_iff] at e
      exact hs.ne e
    have ej : wpJ C x true A W ++ J0 = wpB C x true A W ++ lstA A.dk (s.map Ent.toD ++ [e.toD]) :: J0 := by
      have e3 : W.stack.map Ent.toD = s.map Ent.toD ++ [e.toD] := by
        rw [hs.st, List.map_append]
        rfl
      rw [← e3]
      rfl
    rw [ej] at p
    refine SG.perm p ?_
    have hw : HasW (wpB C x true A W ++ lstA A.dk (s.map Ent.toD ++ [e.toD]) :: J0) C x true A W := fun b hb => List.mem_append_left _ hb
    refine sg_letTG (ev_pop (s := wpB C x true A W) (t := J0) (l := A.dk) (ds := s.map Ent.toD) (d := e.toD) (ev_wstack hw q (slf 0))) fun J1 s1 ⟨e1, e2⟩ => ?_
    subst e1 e2
    refine ⟨_, tg_tup (tgs_cons tg_name (tgs_cons tg_name (tgs_cons tg_name tgs_nil))), ?_⟩
    let δ7 : SE := [some (.val (.ref x)), some (.dat (.int 0)), some (.lst (ps.map fun q => .int q.2)), some (.lst (e.lanes.map (askD W))), some (.dat (.int e.at_)), some (.dat (.int e.join)), some (.dat (.tup (e.lanes.map Dt.int)))]
    refine sg_seq (N := fun J1 δ1 => (∃ A', J1.Perm (wpJ C x true A' (adv (W.cut s) ps) ++ J0)) ∧ δ1 = δ7) ?_ ?_
    · refine sg_dropG (ev_wr (J0 := J0) (A := A) (W := W.cut s) (W' := adv (W.cut s) ps) (List.Perm.refl _) (cut_ok ok s) (slf 0) (by decide +kernel) (ea_consP (Ps := fun ss => ss = [.lst (ps.map fun q => .int q.2)]) (ev_lst rfl) (ea_consP (Ps := fun ss => ss = []) (ev_lst rfl) ea_nil fun s ss e1 e2 => by rw [e1, e2]) fun s ss e1 e2 => by rw [e1, e2]) ⟨ps, hs.pn, hs.pk, ?_, rfl⟩) fun J2 s h => ⟨h, rfl⟩
      show [Sl.lst (e.lanes.map (askD W)), _] = [Sl.lst (ps.map fun q => askD W q.1), _]
      rw [asks_ps hs.pe]
    · rintro J1 δ1 ⟨⟨A1, p1⟩, rfl⟩
      obtain ⟨ok1, k1, kp, kb, kst⟩ := adv_keep (cut_ok ok s) (ps := ps) (qs := []) (by rw [List.append_nil]; exact hs.pn) hs.pk
      obtain ⟨_, _, _, f4, _⟩ := adv_facts (cut_ok ok s) hs.pn hs.pk
      have hcut : (adv (W.cut s) ps).stack = s := f4
      refine sg_seq (N := fun J1 δ1 => (∃ A', J1.Perm (wpJ C x true A' (midW W s e ps) ++ J0)) ∧ δ1 = δ7) ?_ ?_
      · obtain ⟨k0, L0, hk0⟩ : ∃ k0 L0, e.lanes = k0 :: L0 := by
          cases q : e.lanes with
          | nil => exact absurd q hs.ne
          | cons a r => exact ⟨a, r, rfl⟩
        obtain ⟨r, hr⟩ := reqD_head (W.st k0) (insOf W k0)
        have hask : askD W k0 = .tup [.int k0, .tup (.str (rkind (insOf W k0)) :: r)] := by
          unfold askD reqW
          rw [hr]
        have hhd : e.lanes.headD 0 = k0 := by rw [hk0]; rfl
        refine sg_ifB (z := !stopI (insOf W (e.lanes.headD 0))) ?_ (fun ek => ?_) fun ek => ?_
        · rw [hhd, ← rk_stop]
          refine et_b (ev_nin3 (x := rkind (insOf W k0)) (ev_op (da := .tup (.str (rkind (insOf W k0)) :: r)) (ev_op (da := .tup [.int k0, .tup (.str (rkind (insOf W k0)) :: r)]) ?_ ev_int (rr_ixT (d := .tup (.str (rkind (insOf W k0)) :: r)) (by rfl))) ev_int rr_head) (by walk_at "ev"))
          exact ev_ixL (ds := e.lanes.map (askD W)) (P := fun i => i = 0) (ev_lst rfl) (ev_int.toI rfl) fun i hi => ⟨_, by rw [hi, hk0]; exact atI_nat (j := 0) rfl, hask⟩
        · have ek2 : stopI (insOf W (e.lanes.headD 0)) = false := by simpa using ek
          have em : midW W s e ps = (adv (W.cut s) ps).part e.at_.toNat e.join e.lanes := by
            unfold midW
            rw [if_neg (by rw [ek2]; exact Bool.false_ne_true)]
          refine sg_dropG (ev_wr (W' := midW W s e ps) p1 ok1 (slf 0) (by decide +kernel) (ea_d (ev_dat rfl) (ea_d (ev_dat rfl) (ea_d (ev_dat rfl) ea_d0))) ⟨e.at_.toNat, e.join, e.lanes, fun k hk => by rw [k1]; exact hs.ks k hk, hs.six1, ?_, ?_, ?_, em⟩) fun J2 s h => ⟨h, rfl⟩
          · rcases hs.part ok ek2 with h | h
            · exact .inl h
            · exact .inr (by rw [kp]; exact h)
          · rw [hcut]
            have := hs.few
            omega
          · show [Sl.dat (.int e.at_), _, _] = [Sl.dat (.int (e.at_.toNat : Int)), _, _]
            rw [← (hs.nat hs.hd).2]
        · refine sg_next ⟨⟨A1, ?_⟩, rfl⟩
          have ek2 : stopI (insOf W (e.lanes.headD 0)) = true := by simpa using ek
          have em : midW W s e ps = adv (W.cut s) ps := by
            unfold midW
            rw [if_pos ek2]
          rw [em]
          exact p1
      · rintro J2 δ1 ⟨⟨A2, p2⟩, rfl⟩
        have hmem : ∀ e' ∈ s, e'.lanes.length ≤ 6 := fun e' he => hs.six e' (by rw [hs.st]; exact List.mem_append_left _ he)
        have okm : (midW W s e ps).Ok := by
          unfold midW
          split
          · exact ok1
          · exact ⟨ok1.p, ok1.asc, ok1.len, ok1.st, ok1.thr, ok1.wn, ok1.gn, ok1.ws, ok1.gs⟩
        have hst : (midW W s e ps).stack = s ∨ (midW W s e ps).stack = s ++ partS (adv (W.cut s) ps) e.at_.toNat e.join e.lanes := by
          unfold midW
          split
          · exact .inl hcut
          · refine .inr ?_
            show (adv (W.cut s) ps).stack ++ _ = _
            rw [hcut]
        refine sg_dropG (ev_wr (W' := stepW W s e ps) p2 okm (slf 0) (by decide +kernel) ea_nil ⟨?_, ?_, rfl, rfl⟩) fun J2 s h => h
        · rcases hst with h | h <;> rw [h]
          · exact hmem
          · intro e' he
            rcases List.mem_append.mp he with he | he
            · exact hmem e' he
            · exact partS_six hs.six1 e' he
        · have := hs.few
          rcases hst with h | h <;> rw [h]
          · omega
          · have h3 := partS_len (W := adv (W.cut s) ps) (a := e.at_.toNat) (join := e.join) (L := e.lanes)
            rw [List.length_append]
            omega
theorem scWPrelease : FnScope ["self", "words", "rows", "tid", "word", "places", "place"] ["self", "words"] (defScope sWPrelease) := ⟨rfl, rfl, rfl, by decide +kernel, rfl, by decide +kernel, by decide +kernel⟩
def relW (W : WSt) (ps : List (Int × Int)) : WSt := { goes W ps with wk := [], stack := (placesOf (goes W ps) (ascI W.wk)).reverse.map fun pl => ⟨pl, -1, (ascI W.wk).filter fun k => decide (plc (goes W ps) k = pl)⟩ }
def gRelW (W W' : WSt) (as : List Sl) : Prop := ∃ ps : List (Int × Int), ps.map (·.1) = ascI W.wk ∧ (∀ q ∈ ps, Wd q.2) ∧ W.stack = [] ∧ W.wk ≠ [] ∧ as = [.lst (ps.map fun q => .int q.2)] ∧ W' = relW W ps
theorem ok_releaseW (F : FunM K "release" "Warp.release" sWPrelease f fd) (T : Txt K mg) (q : ClsF K C) (m_goon : CalM P w K mg base C 6 "go_on" ["self", "tid", "word"] (spG (wrP C true gGoOn))) :
    FnOk P w K mg base CX0 7 f fd ["self", "words"] (spG (wrP C true gRelW)) := by
  have sc := scWPrelease
  refine fn_sg F sc (fun J ss R h => ?_) (fun cdv A outer s H E hr => ⟨_, (pss_cons (ps_if (PW.pt (pw_or (pt_truth (pe_fld (pv 0) rfl) (by intro _; rfl)) (pw_or1 (pt_not (pt_truth (pe_fld (pv 0) rfl) (by intro _; rfl)))))) (pss_one ps_never) pss_nil)
    (pss_cons (ps_set (i := 2) sc.nd rfl (.inl rfl) (pe_callB (call_sortedDI rfl) (by rfl) T.n_sorted (by decide +kernel) (pa_cons (pe_fld (pv 0) rfl) pa_nil)))
    (pss_cons (ps_for PassesOwn.never rfl (pi_zip (by rfl) T.n_zip (pa_cons (pv 2) (pa_cons (pv 1) pa_nil))) (pg_tup (by rfl) (pgs_cons (pg_name (i := 3) sc.nd rfl (.inl rfl)) (pgs_cons (pg_name (i := 4) sc.nd rfl (.inl rfl)) pgs_nil))) (pss_one (ps_expr (pe_meth (pv 0) q.cl m_goon.mt m_goon.ok (hr.mono (by decide)) m_goon.hb .nil pass0 (pa_cons (pv 3) (pa_cons (pv 4) pa_nil))))))
    (pss_cons (ps_fld (pv 0) pe_dnewK rfl)
    (pss_cons (ps_set (i := 5) sc.nd rfl (.inl rfl) (pe_callB (cr_sortedSet rfl) (by rfl) T.n_sorted (by decide +kernel) (pa_cons (pe_callTy (cr_setIts rfl) (by rfl) T.n_set (by decide +kernel) (pa_cons (pe_lc (own := [("tid", 3)]) (g := gName 3) (tt := tYes) (by rfl) sc.nd (pi_list (pv 2)) (blkOk_by (own := [("tid", 3)]) (N := ["self", "words", "rows", "tid", "word", "places", "place"]) (sc := defScope sWPrelease) (by decide +kernel)) (fun _ _ _ _ _ => pg_name (i := 3) sc.nd rfl (Or.inl rfl)) (fun _ _ _ _ _ => pts_nil) (fun _ _ _ _ _ => by apply pe_at; (exact (pe_ix ix_tup (pe_dget (hu_of hr) (pe_fld (pv 0) rfl) (pv 3) (fun _ _ => rfl)) pe_int (fun _ _ => rfl))); (try dsimp only [Cx.blk]); try exact rfl)) pa_nil)) pa_nil)))
    (pss_one (ps_for PassesOwn.never rfl (pi_list (pe_revL (pv 5))) (pg_name (i := 6) sc.nd rfl (.inr rfl)) (pss_one (ps_expr (pe_bm PySem.F.plainAttrs_list PySem.F.slot_list_append PySem.F.type_list_append mt_append (pe_fld (pv 0) rfl) (pa_cons (pe_tup (pa_cons (pv 6) (pa_cons (pe_un un_neg pe_int) (pa_cons (pe_callTy call_tuple_of (by rfl) T.n_tuple (by decide +kernel) (pa_cons (pe_lc (own := [("tid", 3)]) (g := gName 3) (tt := _) (by rfl) sc.nd (pi_list (pv 2)) (blkOk_by (own := [("tid", 3)]) (N := ["self", "words", "rows", "tid", "word", "places", "place"]) (sc := defScope sWPrelease) (by decide +kernel)) (fun _ _ _ _ _ => pg_name (i := 3) sc.nd rfl (Or.inl rfl)) (fun _ _ _ _ _ => by apply pts_at; (exact (pts_one (pt_cmpR op_eq (pe_ix ix_tup (pe_dget (hu_of hr) (pe_fld (pv 0) rfl) (pv 3) (fun _ _ => rfl)) pe_int (fun _ _ => rfl)) (pv 6) (nomark _)))); (try dsimp only [Cx.blk]); try exact rfl) (fun _ _ _ _ _ => by apply pe_at; (exact (pv 3)); (try dsimp only [Cx.blk]); try exact rfl)) pa_nil)) pa_nil)))) pa_nil))))))))))), fun J ss R h => ?_⟩)
  · obtain ⟨x, A, W, W', J0, as, p, ok, rfl, ⟨ps, hps, hwd, hr0, hw0, rfl, rfl⟩, rfl⟩ := h
    rfl
  · obtain ⟨x, A, W, W', J0, as, p, ok, rfl, ⟨ps, hps, hwd, hr0, hw0, rfl, rfl⟩, rfl⟩ := h
    have hw := hasW_perm p
    refine sg_when (et_orB (et_truA (ev_wstack hw q (slf 0)) (mem_stk p)) fun _ => et_notB (et_truD (ev_wwaiting hw q (slf 0)) (mem_wk hw))) (fun e => ?_) fun _ => ?_
    · refine sg_never ?_
      rw [hr0] at e
      have e : W.wk.isEmpty = true := by simpa using e
      exact hw0 (List.isEmpty_iff.mp e)
    have hpk : ∀ r ∈ ps, r.1 ∈ W.ks ∧ Wd r.2 := fun r hr => ⟨wk_ks ok (by rw [← hps]; exact List.mem_map.mpr ⟨r, hr, rfl⟩), hwd r hr⟩
    refine sg_letL (sorted_ok (ev_wwaiting hw q (slf 0)) (mem_wk hw)) ?_
    have hrow : (ascI W.wk).map Dt.int = ps.map fun q => Dt.int q.1 := by
      rw [← hps, List.map_map]
      rfl
    refine sg_seq (N := fun J1 δ1 => (∃ A', J1.Perm (wpJ C x true A' (goes W ps) ++ J0)) ∧ ∃ a b, δ1 = [some (.val (.ref x)), some (.lst (ps.map fun q => .int q.2)), some (.lst ((ascI W.wk).map Dt.int)), a, b, none, none]) ?_ ?_
    · refine sg_forZ (ds := ps.map fun q => Dt.int q.1) (es := ps.map fun q => Dt.int q.2) (Iv := fun i J1 δ1 => (∃ A', J1.Perm (wpJ C x true A' (goes W (ps.take i)) ++ J0)) ∧ ∃ a b, δ1 = [some (.val (.ref x)), some (.lst (ps.map fun q => .int q.2)), some (.lst ((ascI W.wk).map Dt.int)), a, b, none, none])
        (ea_consP (Ps := fun ss => ss = [.lst (ps.map fun q => .int q.2)]) (ev_lst rfl) (ea_consP (Ps := fun ss => ss = []) (ev_lst rfl) ea_nil fun s ss e1 e2 => by rw [e1, e2]) fun s ss e1 e2 => by rw [e1, e2, hrow]) (by rw [List.length_map, List.length_map]) ⟨⟨A, p⟩, _, _, rfl⟩ ?_ ?_
      · rintro i d e J1 δ1 hd he ⟨⟨A1, p1⟩, a, b, rfl⟩
        rw [List.getElem?_map] at hd he
        cases hi : ps[i]? with
        | none => rw [hi] at hd; cases hd
        | some qq =>
          rw [hi] at hd he
          obtain ⟨k, z⟩ := qq
          cases hd
          cases he
          have et : ps.take (i + 1) = ps.take i ++ [(k, z)] := by rw [List.take_add_one, hi]; rfl
          obtain ⟨ok1, k1⟩ := goes_keep ok (ps := ps.take i) fun r hr => hpk r (List.mem_of_mem_take hr)
          obtain ⟨hk, hz⟩ := hpk _ (List.mem_of_getElem? hi)
          rw [et, goes_snoc]
          refine ⟨_, tg_tup (tgs_cons tg_name (tgs_cons tg_name tgs_nil)), ?_⟩
          refine sg_dropG (ev_wr (W' := (goes W (ps.take i)).go k z) p1 ok1 (slf 0) (by decide +kernel) (ea_d (ev_dat rfl) (ea_d (ev_dat rfl) ea_d0)) ⟨k, z, by rw [k1]; exact hk, hz, rfl, rfl⟩) fun J2 s h => ⟨h, _, _, rfl⟩
      · rintro J1 δ1 ⟨⟨A1, p1⟩, h⟩
        rw [List.length_map, List.take_length] at p1
        exact ⟨⟨A1, p1⟩, h⟩
    · rintro J1 δ1 ⟨⟨A1, p1⟩, a, b, rfl⟩
      refine SG.perm (p1.trans wpJ_wk) ?_
      refine sg_lose ?_
      obtain ⟨okg, ksg⟩ := goes_keep ok hpk
      obtain ⟨g1, g2, g3, g4, g5, g6⟩ := goes_wk (W := W) (ps := ps)
      refine sg_setG (x := x) (C := C) (dx := A1.dx) (fs := fldW true (goes W ps).base (goes W ps).first A1) (dd := ddW (goes W ps) A1) (ev_newD fun _ => .bl true) q.cl q.n_waiting (fld_len (m := true)) fun J2 sl ⟨d, e1, e2⟩ => ?_
      refine ⟨[dictD d [] fun _ => .bl true], dictD A1.ds (goes W ps).ks (fun k => ((goes W ps).st k).toD) :: dictD A1.dg (goes W ps).gk (fun _ => .bl true) :: (stk true A1 (goes W ps) ++ J0), .ref d, e1, e2, slf 0, ?_⟩
      rw [pf_waiting]
      generalize hW1 : goes W ps = W1 at *
      let A2 : WA := { A1 with dw := d }
      let W2 : WSt := { W1 with wk := [] }
      have ok2 : W2.Ok := ⟨okg.p, okg.asc, okg.len, okg.st, okg.thr, List.nodup_nil, okg.gn, (fun k hk => by cases hk), okg.gs⟩
      refine SG.perm (J' := wpB C x true A2 W2 ++ lstA A2.dk [] :: J0) ?_ ?_
      · have es : stk true A1 W1 = [lstA A1.dk []] := by
          show [lstA A1.dk (W1.stack.map Ent.toD)] = _
          rw [g6, hr0]
          rfl
        rw [es]
        exact (List.perm_middle (l₁ := [insW C x true A2 W2, dictD A1.ds W1.ks (fun k => (W1.st k).toD)])).symm
      have hw2 : ∀ S, HasW (wpB C x true A2 W2 ++ lstA A2.dk S :: J0) C x true A2 W2 := fun S b hb => List.mem_append_left _ hb
      have hlen : (ascI W.wk).length ≤ 6 := by rw [ascI_len ok.wn]; exact wk_len ok
      have hks : ∀ k ∈ ascI W.wk, k ∈ W2.ks := fun k hk => by
        show k ∈ W1.ks
        rw [ksg]
        exact wk_ks ok hk
      refine sg_letL (ds := (placesOf W1 (ascI W.wk)).map Dt.int) (ev_sortedSet ?_ (by rw [List.length_map]; omega)) ?_
      · have e : (List.map Dt.int (List.map (plc W1) (ascI W.wk))) = ((ascI W.wk).filter fun _ => true).map fun k => Dt.int (plc W1 k) := by
          rw [filter_yes, List.map_map]
          rfl
        rw [e]
        exact ev_lcI (ns := ascI W.wk) (g := fun k => Dt.int (plc W1 k)) (ev_lst rfl) (by omega) (fun B k hk => et_yes) fun B k hk hf => ev_wat (hasW_cons (B := B) (hw2 _)) q (slf 0) (ev_dat rfl) (hks k hk)
      let Sx : Int → Ent := fun pl => ⟨pl, -1, (ascI W.wk).filter fun k => decide (plc W1 k = pl)⟩
      have hpl : (placesOf W1 (ascI W.wk)).length ≤ 6 := by
        refine Nat.le_trans (sub_len (asc_nodup (asc_ascI _)) fun k hk => mem_ascI.mp hk) ?_
        rw [List.length_map]
        exact hlen
      refine sg_forL (J' := wpB C x true A2 W2 ++ lstA A2.dk [] :: J0) (ds := (placesOf W1 (ascI W.wk)).reverse.map Dt.int) (Iv := fun i J1 δ1 => J1 = wpB C x true A2 W2 ++ lstA A2.dk ((((placesOf W1 (ascI W.wk)).reverse.take i).map Sx).map Ent.toD) :: J0 ∧ ∃ a b c, δ1 = [some (.val (.ref x)), some (.lst (ps.map fun q => .int q.2)), some (.lst ((ascI W.wk).map Dt.int)), a, b, some (.lst ((placesOf W1 (ascI W.wk)).map Dt.int)), c])
        (by rw [List.map_reverse]; exact ev_revL (ev_lst rfl)) ⟨rfl, _, _, _, rfl⟩ ?_ ?_
      · rintro i dd J3 δ1 hd ⟨rfl, a, b, c, rfl⟩
        rw [List.getElem?_map] at hd
        cases hi : (placesOf W1 (ascI W.wk)).reverse[i]? with
        | none => rw [hi] at hd; cases hd
        | some pl =>
          rw [hi] at hd
          cases hd
          have et : (placesOf W1 (ascI W.wk)).reverse.take (i + 1) = (placesOf W1 (ascI W.wk)).reverse.take i ++ [pl] := by rw [List.take_add_one, hi]; rfl
          refine ⟨_, tg_name, ?_⟩
          refine sg_append (s := wpB C x true A2 W2) (t := J0) (l := A2.dk) (ds := (((placesOf W1 (ascI W.wk)).reverse.take i).map Sx).map Ent.toD) (P := fun d => d = (Sx pl).toD) (ev_wstack (hw2 _) q (slf 0)) ?_ ?_ fun d hd => ?_
          · refine ev_tup (ea_d (ev_dat rfl) (ea_d (ev_neg ev_int) (ea_d (ev_tupL (ev_lcI (ns := ascI W.wk) (g := Dt.int) (ev_lst rfl) (by omega) (fun B k hk => ?_) fun B k hk hf => ev_dat rfl)) ea_d0)))
            exact et_b (ev_op (ev_wat (hasW_cons (B := B) (hw2 _)) q (slf 0) (ev_dat rfl) (hks k hk)) (ev_dat (d := .int pl) rfl) rr_eqI)
          · rw [List.length_map, List.length_map, List.length_take, List.length_reverse]
            have := Nat.min_le_right i (placesOf W1 (ascI W.wk)).length
            omega
          · refine ⟨?_, _, _, _, rfl⟩
            rw [et, hd, List.map_append, List.map_append]
            rfl
      · rintro J3 δ1 ⟨rfl, _⟩
        refine ⟨A2, ?_⟩
        rw [List.length_map, List.take_length]
        have eq : wpB C x true A2 W2 ++ lstA A2.dk ((((placesOf W1 (ascI W.wk)).reverse).map Sx).map Ent.toD) :: J0 = wpJ C x true A2 (relW W ps) ++ J0 := by
          unfold relW
          rw [hW1]
          rfl
        rw [eq]
end
end LK

namespace LK
open PySem PySem.Spec PyProof.Rows L2
/-! ### the stack of a warp with masks: what holds of it -/
/-- from the bottom: each entry that holds k ends where the next above it stands -/
def chk (k : Int) : Int → List Ent → Option Int
  | a, [] => some a
  | a, e :: r => if k ∈ e.lanes then (if e.join = a then chk k e.at_ r else none) else chk k a r
def Siz : Nat → Nat → List Ent → Prop
  | _, _, [] => True
  | i, N, e :: r => i + 2 * e.lanes.length ≤ N ∧ Siz (i + 1) N r
structure SOk (W : WSt) : Prop where
  dj : ∀ k ∈ W.wk, k ∉ W.gk
  ln : ∀ e ∈ W.stack, e.lanes ≠ [] ∧ e.lanes.Nodup ∧ ∀ k ∈ e.lanes, k ∈ runN W
  ch : ∀ k ∈ runN W, chk k (-1) W.stack = some (plc W k)
  sz : Siz 0 (2 * W.ks.length) W.stack
theorem chk_append (k : Int) : ∀ (s : List Ent) (a : Int) (t : List Ent), chk k a (s ++ t) = (chk k a s).bind fun b => chk k b t
  | [], a, t => rfl
  | e :: s, a, t => by
    show (if k ∈ e.lanes then (if e.join = a then chk k e.at_ (s ++ t) else none) else chk k a (s ++ t)) = Option.bind (if k ∈ e.lanes then (if e.join = a then chk k e.at_ s else none) else chk k a s) _
    rw [chk_append k s e.at_ t, chk_append k s a t]
    split
    · split <;> rfl
    · rfl
theorem chk_skip {k : Int} : ∀ {s : List Ent} {a : Int}, (∀ e ∈ s, k ∉ e.lanes) → chk k a s = some a
  | [], a, _ => rfl
  | e :: s, a, h => by
    show (if k ∈ e.lanes then _ else chk k a s) = _
    rw [if_neg (h e (List.mem_cons_self ..))]
    exact chk_skip fun e he => h e (List.mem_cons_of_mem _ he)
theorem chk_one {k a : Int} {e : Ent} : chk k a [e] = if k ∈ e.lanes then (if e.join = a then some e.at_ else none) else some a := rfl
theorem siz_append (N : Nat) : ∀ (s : List Ent) (i : Nat) (t : List Ent), Siz i N (s ++ t) ↔ Siz i N s ∧ Siz (i + s.length) N t
  | [], i, t => ⟨fun h => ⟨trivial, h⟩, fun h => h.2⟩
  | e :: s, i, t => by
    show (i + 2 * e.lanes.length ≤ N ∧ Siz (i + 1) N (s ++ t)) ↔ (i + 2 * e.lanes.length ≤ N ∧ Siz (i + 1) N s) ∧ Siz (i + (e :: s).length) N t
    rw [siz_append N s (i + 1) t, List.length_cons, show i + 1 + s.length = i + (s.length + 1) by omega, and_assoc]
theorem siz_len {N : Nat} : ∀ {s : List Ent} {i : Nat}, Siz i N s → i ≤ N → (∀ e ∈ s, e.lanes ≠ []) → i + s.length ≤ N
  | [], i, _, h, _ => h
  | e :: s, i, ⟨h1, h2⟩, h, hn => by
    have := Nat.pos_of_ne_zero fun z => hn e (List.mem_cons_self ..) (List.eq_nil_of_length_eq_zero z)
    have := siz_len h2 (by omega) fun e he => hn e (List.mem_cons_of_mem _ he)
    rw [List.length_cons]
    omega
theorem siz_clr {N : Nat} {W : WSt} : ∀ {s : List Ent} {i j : Nat}, Siz i N s → j ≤ i → Siz j N (clrS W s)
  | [], i, j, _, _ => trivial
  | e :: s, i, j, ⟨h1, h2⟩, h => by
    show Siz j N ((clrE W e :: s.map (clrE W)).filter keepE)
    have hf : (clrE W e).lanes.length ≤ e.lanes.length := List.length_filter_le _ _
    by_cases hk : keepE (clrE W e) = true
    · rw [List.filter_cons_of_pos hk]
      exact ⟨by omega, siz_clr (i := i + 1) (j := j + 1) h2 (by omega)⟩
    · rw [List.filter_cons_of_neg hk]
      exact siz_clr (i := i + 1) (j := j) h2 (by omega)
theorem chk_clr {W : WSt} {k c : Int} (hk : runB W k = true) : ∀ {s : List Ent} {a : Int}, chk k a s = some c → chk k a (clrS W s) = some c
  | [], a, h => h
  | e :: s, a, h => by
    have h : (if k ∈ e.lanes then (if e.join = a then chk k e.at_ s else none) else chk k a s) = some c := h
    show chk k a ((clrE W e :: s.map (clrE W)).filter keepE) = _
    by_cases hm : k ∈ e.lanes
    · have hm2 : k ∈ (clrE W e).lanes := List.mem_filter.mpr ⟨hm, hk⟩
      rw [if_pos hm] at h
      by_cases hj : e.join = a
      · rw [if_pos hj] at h
        by_cases hkp : keepE (clrE W e) = true
        · rw [List.filter_cons_of_pos hkp]
          show (if k ∈ (clrE W e).lanes then (if e.join = a then chk k e.at_ (clrS W s) else none) else _) = _
          rw [if_pos hm2, if_pos hj]
          exact chk_clr hk h
        · rw [List.filter_cons_of_neg hkp]
          have hne : (clrE W e).lanes.isEmpty = false := by
            cases q : (clrE W e).lanes with
            | nil => rw [q] at hm2; cases hm2
            | cons _ _ => rfl
          have e2 : e.at_ = e.join := by
            unfold keepE at hkp
            rw [hne] at hkp
            by_cases ea : e.at_ = e.join
            · exact ea
            · refine absurd ?_ hkp
              show (true && (_ || !decide (e.at_ = e.join))) = true
              rw [decide_eq_false ea, Bool.not_false, Bool.or_true, Bool.and_true]
          rw [e2, hj] at h
          exact chk_clr hk h
      · rw [if_neg hj] at h
        cases h
    · have hm2 : k ∉ (clrE W e).lanes := fun z => hm (List.mem_filter.mp z).1
      rw [if_neg hm] at h
      by_cases hkp : keepE (clrE W e) = true
      · rw [List.filter_cons_of_pos hkp]
        show (if k ∈ (clrE W e).lanes then _ else chk k a (clrS W s)) = _
        rw [if_neg hm2]
        exact chk_clr hk h
      · rw [List.filter_cons_of_neg hkp]
        exact chk_clr hk h
section
variable {W : WSt} {s : List Ent} {e : Ent} {ps : List (Int × Int)}
theorem plc_nn {W : WSt} {k : Int} : 0 ≤ plc W k := by
  unfold plc
  omega
theorem SOk.len (h : SOk W) : W.stack.length ≤ 2 * W.ks.length := by
  have := siz_len h.sz (Nat.zero_le _) fun e he => (h.ln e he).1
  omega
theorem SOk.inside (h : SOk W) {k : Int} (hk : k ∈ runN W) : ∃ e ∈ W.stack, k ∈ e.lanes := by
  by_cases q : ∃ e ∈ W.stack, k ∈ e.lanes
  · exact q
  · have h1 := h.ch k hk
    rw [chk_skip fun e he hm => q ⟨e, he, hm⟩] at h1
    have := Option.some.inj h1
    have := plc_nn (W := W) (k := k)
    omega
theorem SOk.norun (h : SOk W) (hs : W.stack = []) : runN W = [] := by
  cases q : runN W with
  | nil => rfl
  | cons k r =>
    obtain ⟨e, he, _⟩ := h.inside (k := k) (by rw [q]; exact List.mem_cons_self ..)
    rw [hs] at he
    cases he
theorem SOk.top (h : SOk W) (hs : W.stack = s ++ [e]) {k : Int} (hk : k ∈ e.lanes) : chk k (-1) s = some e.join ∧ e.at_ = plc W k := by
  have h1 := h.ch k ((h.ln e (by rw [hs]; exact List.mem_append_right _ (List.mem_singleton.mpr rfl))).2.2 k hk)
  rw [hs, chk_append] at h1
  cases q : chk k (-1) s with
  | none => rw [q] at h1; cases h1
  | some b =>
    rw [q] at h1
    have h1 : (if k ∈ e.lanes then (if e.join = b then some e.at_ else none) else some b) = some (plc W k) := h1
    rw [if_pos hk] at h1
    by_cases hj : e.join = b
    · rw [if_pos hj] at h1
      exact ⟨by rw [hj], Option.some.inj h1⟩
    · rw [if_neg hj] at h1
      cases h1
theorem SOk.rest (h : SOk W) (hs : W.stack = s ++ [e]) {k : Int} (hr : k ∈ runN W) (hk : k ∉ e.lanes) : chk k (-1) s = some (plc W k) := by
  have h1 := h.ch k hr
  rw [hs, chk_append] at h1
  cases q : chk k (-1) s with
  | none => rw [q] at h1; cases h1
  | some b =>
    rw [q] at h1
    have h1 : (if k ∈ e.lanes then (if e.join = b then some e.at_ else none) else some b) = some (plc W k) := h1
    rw [if_neg hk] at h1
    exact h1
theorem SOk.step (ok : W.Ok) (h : SOk W) (hs : W.stack = s ++ [e]) (hp : ps.map (·.1) = e.lanes) (hw : ∀ r ∈ ps, Wd r.2) : StepOk W s e ps := by
  have hl := h.ln e (by rw [hs]; exact List.mem_append_right _ (List.mem_singleton.mpr rfl))
  have hz := h.len
  have := ok.len
  rw [hs, List.length_append, List.length_singleton] at hz
  exact ⟨hs, hl.1, hl.2.1, fun k hk => mem_runks (hl.2.2 k hk), fun k hk => (h.top hs hk).2.symm, fun e he => Nat.le_trans (sub_len (h.ln e he).2.1 fun k hk => (h.ln e he).2.2 k hk) (run_len ok), by omega, hp, hw⟩
theorem run_clear {W : WSt} : runN W.clear = runN W := rfl
/-- after clear -/
theorem clear_sok {W : WSt} (dj : ∀ k ∈ W.wk, k ∉ W.gk) (hl : ∀ e ∈ W.stack, e.lanes.Nodup ∧ ∀ k ∈ e.lanes, k ∈ W.ks) (hc : ∀ k ∈ runN W, chk k (-1) W.stack = some (plc W k)) (hz : Siz 0 (2 * W.ks.length) W.stack) : SOk W.clear where
  dj := dj
  ln := fun e he => by
    have he : e ∈ (W.stack.map (clrE W)).filter keepE := he
    obtain ⟨h1, h2⟩ := List.mem_filter.mp he
    obtain ⟨e0, h3, rfl⟩ := List.mem_map.mp h1
    refine ⟨fun z => ?_, (hl e0 h3).1.filter _, fun k hk => ?_⟩
    · unfold keepE at h2
      rw [z] at h2
      cases h2
    · obtain ⟨h4, h5⟩ := List.mem_filter.mp hk
      exact List.mem_filter.mpr ⟨(hl e0 h3).2 k h4, h5⟩
  ch := fun k hk => chk_clr (List.mem_filter.mp hk).2 (hc k hk)
  sz := siz_clr hz (Nat.le_refl _)
theorem asc_one {l : List Int} {x : Int} (h : (ascI l).length = 1) (hx : x ∈ l) : (ascI l).getD 0 0 = x := by
  have h2 := mem_ascI.mpr hx
  cases q : ascI l with
  | nil => rw [q] at h2; cases h2
  | cons a r =>
    rw [q] at h h2
    have hr : r = [] := List.eq_nil_of_length_eq_zero (by rw [List.length_cons] at h; omega)
    rw [hr] at h2
    exact (List.mem_singleton.mp h2).symm
theorem filter_lt {L : List Int} {f : Int → Bool} {k : Int} (hk : k ∈ L) (hf : f k = false) : (L.filter f).length + 1 ≤ L.length := by
  induction L with
  | nil => cases hk
  | cons a r ih =>
    by_cases ha : f a = true
    · rw [List.filter_cons_of_pos ha, List.length_cons, List.length_cons]
      have : k ∈ r := (List.mem_cons.mp hk).resolve_left fun e => by rw [e, ha] at hf; cases hf
      have := ih this
      omega
    · rw [List.filter_cons_of_neg ha, List.length_cons]
      have := List.length_filter_le f r
      omega
theorem two_of {l : List Int} (hn : l ≠ []) (h : (ascI l).length ≠ 1) (c : Int) : ∃ k ∈ l, k ≠ c := by
  by_cases q : ∃ k ∈ l, k ≠ c
  · exact q
  · refine absurd ?_ h
    rw [ascI_const (c := c) hn fun k hk => ?_]
    · rfl
    · by_cases e : k = c
      · exact e
      · exact absurd ⟨k, hk, e⟩ q
theorem step_sok (ok : W.Ok) (h : SOk W) (hs : StepOk W s e ps) : SOk (stepW W s e ps) := by
  obtain ⟨fst, fwk, fgk, fstk, _⟩ := adv_facts (cut_ok ok s) hs.pn hs.pk
  obtain ⟨ok1, k1, kp, kb, kst⟩ := adv_keep (cut_ok ok s) (ps := ps) (qs := []) (by rw [List.append_nil]; exact hs.pn) hs.pk
  rw [hs.pe] at fwk fgk kst
  have hL := h.ln e (by rw [hs.st]; exact List.mem_append_right _ (List.mem_singleton.mpr rfl))
  have hins : ∀ k ∈ e.lanes, insOf (W.cut s) k = insOf W (e.lanes.headD 0) := fun k hk => hs.ins hk
  have fwk : ∀ j, j ∈ (adv (W.cut s) ps).wk ↔ j ∈ W.wk ∨ (j ∈ e.lanes ∧ (insOf (W.cut s) j).isWait = true) := fwk
  have fgk : ∀ j, j ∈ (adv (W.cut s) ps).gk ↔ j ∈ W.gk ∨ (j ∈ e.lanes ∧ (insOf (W.cut s) j).isExit = true) := fgk
  have hnew := fun hst k hk => hs.new ok hst (k := k) hk
  have hpart := hs.part ok
  have hrow := hs.row ok
  have hstk : (adv (W.cut s) ps).stack = s := fstk
  have hks : (adv (W.cut s) ps).ks = W.ks := k1
  have hp1 : (adv (W.cut s) ps).p = W.p := kp
  unfold stepW midW
  have dj1 : ∀ k ∈ (adv (W.cut s) ps).wk, k ∉ (adv (W.cut s) ps).gk := fun k hk hg => by
    rcases (fwk k).mp hk with a | ⟨a, b⟩ <;> rcases (fgk k).mp hg with c | ⟨c, d⟩
    · exact h.dj k a c
    · exact (run_mem.mp (hL.2.2 k c)).2.1 a
    · exact (run_mem.mp (hL.2.2 k a)).2.2 c
    · rw [wait_exit d] at b
      cases b
  have hrun : ∀ k ∈ runN (adv (W.cut s) ps), k ∈ runN W ∧ (k ∈ e.lanes → stopI (insOf W (e.lanes.headD 0)) = false) := fun k hk => by
    obtain ⟨a, b, c⟩ := run_mem.mp hk
    refine ⟨run_mem.mpr ⟨by rw [← hks]; exact a, fun z => b ((fwk k).mpr (.inl z)), fun z => c ((fgk k).mpr (.inl z))⟩, fun hke => ?_⟩
    unfold stopI
    cases hw : (insOf W (e.lanes.headD 0)).isWait with
    | true => exact absurd ((fwk k).mpr (.inr ⟨hke, by rw [hins k hke]; exact hw⟩)) b
    | false =>
      cases hx : (insOf W (e.lanes.headD 0)).isExit with
      | true => exact absurd ((fgk k).mpr (.inr ⟨hke, by rw [hins k hke]; exact hx⟩)) c
      | false => rfl
  have hsz := h.sz
  rw [hs.st, siz_append] at hsz
  obtain ⟨hsz1, hsz2, _⟩ := hsz
  rw [Nat.zero_add] at hsz2
  have hls : ∀ e' ∈ s, e'.lanes.Nodup ∧ ∀ k ∈ e'.lanes, k ∈ W.ks := fun e' he => by
    have := h.ln e' (by rw [hs.st]; exact List.mem_append_left _ he)
    exact ⟨this.2.1, fun k hk => mem_runks (this.2.2 k hk)⟩
  have hplc : ∀ k, k ∉ e.lanes → plc (adv (W.cut s) ps) k = plc W k := fun k hk => by
    unfold plc
    rw [kst k hk]
    rfl
  have htop := fun k hk => h.top hs.st (k := k) hk
  have hrest := fun k hr hk => h.rest hs.st (k := k) hr hk
  generalize hW1 : adv (W.cut s) ps = W1 at *
  split
  · rename_i hstop
    refine clear_sok dj1 ?_ ?_ ?_
    · rw [hstk, hks]; exact hls
    · intro k hk
      obtain ⟨h1, h2⟩ := hrun k hk
      have hne : k ∉ e.lanes := fun z => by rw [h2 z] at hstop; cases hstop
      rw [hstk, hplc k hne]
      exact hrest k h1 hne
    · rw [hstk, hks]; exact hsz1
  · rename_i hstop
    have hstop : stopI (insOf W (e.lanes.headD 0)) = false := by simpa using hstop
    have hne2 : e.lanes.map (plc W1) ≠ [] := fun z => hs.ne (List.map_eq_nil_iff.mp z)
    -- the entries put on the stack
    have hp : ∀ e' ∈ partS W1 e.at_.toNat e.join e.lanes, e'.lanes.Nodup ∧ ∀ k ∈ e'.lanes, k ∈ e.lanes := by
      intro e' he
      unfold partS at he
      split at he
      · rw [List.mem_singleton.mp he]
        exact ⟨hs.nd, fun k hk => hk⟩
      · split at he
        · simp only [List.mem_cons, List.not_mem_nil, or_false] at he
          rcases he with q | q | q <;> rw [q]
          · exact ⟨hs.nd, fun k hk => hk⟩
          · exact ⟨hs.nd.filter _, fun k hk => (List.mem_filter.mp hk).1⟩
          · exact ⟨hs.nd.filter _, fun k hk => (List.mem_filter.mp hk).1⟩
        · cases he
    refine clear_sok (W := W1.part e.at_.toNat e.join e.lanes) dj1 ?_ ?_ ?_
    · intro e' he
      have he : e' ∈ W1.stack ++ partS W1 e.at_.toNat e.join e.lanes := he
      show _ ∧ ∀ k ∈ e'.lanes, k ∈ W1.ks
      rw [hks]
      rw [hstk] at he
      rcases List.mem_append.mp he with he | he
      · exact hls e' he
      · exact ⟨(hp e' he).1, fun k hk => hs.ks k ((hp e' he).2 k hk)⟩
    · intro k hk
      have hk : k ∈ runN W1 := hk
      obtain ⟨h1, h2⟩ := hrun k hk
      show chk k (-1) (W1.stack ++ partS W1 e.at_.toNat e.join e.lanes) = some (plc W1 k)
      rw [hstk, chk_append]
      by_cases hke : k ∈ e.lanes
      · rw [(htop k hke).1]
        show chk k e.join (partS W1 e.at_.toNat e.join e.lanes) = _
        have hmem : plc W1 k ∈ e.lanes.map (plc W1) := List.mem_map.mpr ⟨k, hke, rfl⟩
        unfold partS
        by_cases h1 : (placesOf W1 e.lanes).length = 1
        · rw [if_pos h1, chk_one, if_pos hke, if_pos rfl]
          unfold placesOf at h1 ⊢
          rw [asc_one h1 hmem]
        · rw [if_neg h1]
          obtain ⟨r, t, j, hb⟩ := (hpart hstop).resolve_left h1
          have hi : insOf W (e.lanes.headD 0) = .branch r t j := Option.some.inj (hrow.symm.trans hb)
          have hg : W1.p.rows.getD e.at_.toNat .exit = .branch r t j := by rw [hp1, List.getD_eq_getElem?_getD, hb]; rfl
          rw [hg]
          have hval : ∀ k ∈ e.lanes, plc W1 k = (e.at_.toNat : Int) + 1 ∨ plc W1 k = (t : Int) := fun k hk => by
            rw [hnew hstop k hk, hi]
            have ha := (hs.nat hk).1
            show (((if (W.st k).reg r = 0 then (W.st k).at_ + 1 else t : Nat)) : Int) = _ ∨ (((if (W.st k).reg r = 0 then (W.st k).at_ + 1 else t : Nat)) : Int) = _
            split
            · rw [ha]; exact .inl (by omega)
            · exact .inr rfl
          have hdiff : ((e.at_.toNat : Int) + 1) ≠ (t : Int) := fun z => by
            obtain ⟨x, hx, hxn⟩ := two_of hne2 h1 (t : Int)
            obtain ⟨kk, hkk, rfl⟩ := List.mem_map.mp hx
            rcases hval kk hkk with q | q
            · exact hxn (by rw [q, z])
            · exact hxn q
          show (if k ∈ e.lanes then (if e.join = e.join then (if k ∈ e.lanes.filter (fun k => decide (plc W1 k = (e.at_.toNat : Int) + 1)) then (if j = j then (if k ∈ e.lanes.filter (fun k => decide (plc W1 k = (t : Int))) then (if j = (e.at_.toNat : Int) + 1 then some (t : Int) else none) else some ((e.at_.toNat : Int) + 1)) else none)
            else (if k ∈ e.lanes.filter (fun k => decide (plc W1 k = (t : Int))) then (if j = j then some (t : Int) else none) else some j)) else none) else _) = _
          rw [if_pos hke, if_pos rfl]
          rcases hval k hke with q | q
          · rw [if_pos (List.mem_filter.mpr ⟨hke, decide_eq_true q⟩), if_pos rfl, if_neg fun z => hdiff (by rw [← q]; exact of_decide_eq_true (List.mem_filter.mp z).2), q]
          · rw [if_neg fun z => hdiff (by rw [← q]; exact (of_decide_eq_true (List.mem_filter.mp z).2).symm), if_pos (List.mem_filter.mpr ⟨hke, decide_eq_true q⟩), if_pos rfl, q]
      · rw [hrest k h1 hke]
        show chk k (plc W k) (partS W1 e.at_.toNat e.join e.lanes) = _
        rw [chk_skip fun e' he hm => hke ((hp e' he).2 k hm), hplc k hke]
    · show Siz 0 (2 * W1.ks.length) (W1.stack ++ partS W1 e.at_.toNat e.join e.lanes)
      rw [hks, hstk, siz_append, Nat.zero_add]
      refine ⟨hsz1, ?_⟩
      unfold partS
      by_cases h1 : (placesOf W1 e.lanes).length = 1
      · rw [if_pos h1]
        exact ⟨hsz2, trivial⟩
      · rw [if_neg h1]
        split
        · rename_i r t j _
          obtain ⟨x1, hx1, hn1⟩ := two_of hne2 h1 ((e.at_.toNat : Int) + 1)
          obtain ⟨x2, hx2, hn2⟩ := two_of hne2 h1 (t : Int)
          obtain ⟨k1, hk1, rfl⟩ := List.mem_map.mp hx1
          obtain ⟨k2, hk2, rfl⟩ := List.mem_map.mp hx2
          have l1 := filter_lt (f := fun k => decide (plc W1 k = (e.at_.toNat : Int) + 1)) hk1 (decide_eq_false hn1)
          have l2 := filter_lt (f := fun k => decide (plc W1 k = (t : Int))) hk2 (decide_eq_false hn2)
          refine ⟨hsz2, ?_, ?_, trivial⟩
          · show _ + 2 * (e.lanes.filter fun k => decide (plc W1 k = (e.at_.toNat : Int) + 1)).length ≤ _
            omega
          · show _ + 2 * (e.lanes.filter fun k => decide (plc W1 k = (t : Int))).length ≤ _
            omega
        · trivial
theorem filter_split (l : List Int) (f : Int → Bool) : (l.filter f).length + (l.filter fun k => !f k).length = l.length := by
  induction l with
  | nil => rfl
  | cons a r ih =>
    by_cases h : f a = true
    · rw [List.filter_cons_of_pos h, List.filter_cons_of_neg (by rw [h]; exact Bool.false_ne_true), List.length_cons, List.length_cons]
      omega
    · have h : f a = false := by simpa using h
      rw [List.filter_cons_of_neg (by rw [h]; exact Bool.false_ne_true), List.filter_cons_of_pos (by rw [h]; rfl), List.length_cons, List.length_cons]
      omega
theorem rel_sok (ok : W.Ok) (h : SOk W) (hs : W.stack = []) (hp : ps.map (·.1) = ascI W.wk) (hw : ∀ r ∈ ps, Wd r.2) : SOk (relW W ps) := by
  have hpk : ∀ r ∈ ps, r.1 ∈ W.ks ∧ Wd r.2 := fun r hr => ⟨wk_ks ok (by rw [← hp]; exact List.mem_map.mpr ⟨r, hr, rfl⟩), hw r hr⟩
  obtain ⟨okg, ksg⟩ := goes_keep ok hpk
  obtain ⟨g1, g2, _⟩ := goes_wk (W := W) (ps := ps)
  have hr0 := h.norun hs
  have hrun : ∀ k, k ∈ runN (relW W ps) ↔ k ∈ ascI W.wk := fun k => by
    rw [run_mem, mem_ascI]
    show (k ∈ (goes W ps).ks ∧ ¬ k ∈ [] ∧ ¬ k ∈ (goes W ps).gk) ↔ _
    rw [ksg, g2]
    constructor
    · rintro ⟨a, _, b⟩
      by_cases hk : k ∈ W.wk
      · exact hk
      · have : k ∈ runN W := run_mem.mpr ⟨a, hk, b⟩
        rw [hr0] at this
        cases this
    · exact fun hk => ⟨ok.ws k hk, List.not_mem_nil, h.dj k hk⟩
  have hnd : (ascI W.wk).Nodup := asc_nodup (asc_ascI _)
  generalize hW1 : goes W ps = W1 at *
  have hst : (relW W ps).stack = (placesOf W1 (ascI W.wk)).reverse.map fun pl => ⟨pl, -1, (ascI W.wk).filter fun k => decide (plc W1 k = pl)⟩ := by
    unfold relW
    rw [hW1]
  have hplc : ∀ k, plc (relW W ps) k = plc W1 k := fun k => by
    unfold relW
    rw [hW1]
    rfl
  have hks : (relW W ps).ks = W.ks := by
    unfold relW
    rw [hW1]
    exact ksg
  have hmp : ∀ pl, pl ∈ (placesOf W1 (ascI W.wk)).reverse ↔ ∃ k ∈ ascI W.wk, plc W1 k = pl := fun pl => by
    rw [List.mem_reverse]
    unfold placesOf
    rw [mem_ascI, List.mem_map]
  have hpn : (placesOf W1 (ascI W.wk)).reverse.Nodup := by
    exact (List.reverse_perm _).nodup_iff.mpr (asc_nodup (asc_ascI _))
  generalize (placesOf W1 (ascI W.wk)).reverse = pls at hst hmp hpn
  generalize hrows : ascI W.wk = rows at *
  refine ⟨fun k hk => by (have hk : k ∈ [] := hk; cases hk), fun e he => ?_, fun k hk => ?_, ?_⟩
  · rw [hst] at he
    obtain ⟨pl, hpl, rfl⟩ := List.mem_map.mp he
    obtain ⟨k, hk, ek⟩ := (hmp pl).mp hpl
    exact ⟨List.ne_nil_of_mem (List.mem_filter.mpr ⟨hk, decide_eq_true ek⟩), hnd.filter _, fun k hk => (hrun k).mpr (List.mem_filter.mp hk).1⟩
  · have hk := (hrun k).mp hk
    rw [hst, hplc]
    have lemA : ∀ (r : List Int) (b : Int), plc W1 k ∉ r → chk k b (r.map fun pl => (⟨pl, -1, rows.filter fun k => decide (plc W1 k = pl)⟩ : Ent)) = some b := fun r b hn => chk_skip fun e he hm => by
      obtain ⟨pl, hpl, rfl⟩ := List.mem_map.mp he
      exact hn (by rw [of_decide_eq_true (List.mem_filter.mp hm).2]; exact hpl)
    have lemB : ∀ r : List Int, r.Nodup → plc W1 k ∈ r → chk k (-1) (r.map fun pl => (⟨pl, -1, rows.filter fun k => decide (plc W1 k = pl)⟩ : Ent)) = some (plc W1 k) := fun r => by
      induction r with
      | nil => exact fun _ z => by cases z
      | cons pl r ih =>
        intro n hm
        obtain ⟨n1, n2⟩ := List.nodup_cons.mp n
        show (if k ∈ rows.filter (fun k => decide (plc W1 k = pl)) then (if (-1 : Int) = -1 then chk k pl (r.map _) else none) else chk k (-1) (r.map _)) = _
        by_cases q : plc W1 k = pl
        · rw [if_pos (List.mem_filter.mpr ⟨hk, decide_eq_true q⟩), if_pos rfl, lemA r pl (by rw [q]; exact n1), q]
        · have hz : ¬ k ∈ rows.filter (fun k => decide (plc W1 k = pl)) := fun z => q (of_decide_eq_true (List.mem_filter.mp z).2)
          rw [if_neg hz]
          exact ih n2 ((List.mem_cons.mp hm).resolve_left q)
    exact lemB pls hpn ((hmp _).mpr ⟨k, hk, rfl⟩)
  · rw [hst, hks]
    have hz : ∀ (b a : List Int), pls = a ++ b → Siz a.length (2 * W.ks.length) (b.map fun pl => (⟨pl, -1, rows.filter fun k => decide (plc W1 k = pl)⟩ : Ent)) := fun b => by
      induction b with
      | nil => exact fun _ _ => trivial
      | cons pl b ih =>
        intro a ha
        refine ⟨?_, ?_⟩
        · show a.length + 2 * (rows.filter fun k => decide (plc W1 k = pl)).length ≤ _
          have hsub : a.length ≤ ((rows.filter fun k => !decide (plc W1 k = pl)).map (plc W1)).length := by
            rw [ha, List.nodup_append] at hpn
            refine sub_len hpn.1 fun x hx => ?_
            obtain ⟨k, hk, ek⟩ := (hmp x).mp (by rw [ha]; exact List.mem_append_left _ hx)
            refine List.mem_map.mpr ⟨k, List.mem_filter.mpr ⟨hk, ?_⟩, ek⟩
            rw [decide_eq_false fun z => hpn.2.2 x hx pl (List.mem_cons_self ..) (by rw [← ek, z])]
            rfl
          rw [List.length_map] at hsub
          have h2 := filter_split rows fun k => decide (plc W1 k = pl)
          have h3 : rows.length ≤ W.ks.length := sub_len hnd fun k hk => ok.ws k (mem_ascI.mp (by rw [hrows]; exact hk))
          omega
        · have := ih (a ++ [pl]) (by rw [ha, List.append_assoc]; rfl)
          rw [List.length_append, List.length_singleton] at this
          exact this
    exact hz pls [] rfl
theorem init_sok {p : Prg} {b first n : Nat} (hn : 0 < n) : SOk (WSt.init p b first n) := by
  have hr : ∀ k, k ∈ runN (WSt.init p b first n) ↔ k ∈ keysN first n := fun k => by
    rw [run_mem]
    exact ⟨fun h => h.1, fun h => ⟨h, List.not_mem_nil, List.not_mem_nil⟩⟩
  refine ⟨fun k hk => by (have hk : k ∈ [] := hk; cases hk), fun e he => ?_, fun k hk => ?_, ?_⟩
  · rw [List.mem_singleton.mp he]
    refine ⟨fun z => ?_, asc_nodup (keysN_asc _ _), fun k hk => (hr k).mpr hk⟩
    have e := congrArg List.length (show keysN first n = [] from z)
    rw [keysN_len] at e
    exact absurd e (by show n ≠ 0; omega)
  · show (if k ∈ keysN first n then (if (-1 : Int) = -1 then some (0 : Int) else none) else _) = _
    rw [if_pos ((hr k).mp hk), if_pos rfl]
    rfl
  · refine ⟨?_, trivial⟩
    show 0 + 2 * (keysN first n).length ≤ 2 * (keysN first n).length
    omega
end
end LK

namespace LK
open PySem PySem.Spec PyProof.Rows L2
local macro_rules | `(tactic| walk_at "rr") => `(tactic| first
  | (with_reducible exact rr_head)
  | ((with_reducible refine rr_ixT (d := ?d) ?h); (case h => exact rfl))
  | (with_reducible exact rr_eqS)
  | (with_reducible exact rr_eqI)
  | (with_reducible exact rr_neI)
  | (with_reducible exact rr_II)
  | (with_reducible exact rr_IB))
local macro_rules | `(tactic| walk_at "ev") => `(tactic| first
  | (with_reducible exact ev_int)
  | (with_reducible exact ev_str)
  | (with_reducible exact ev_non)
  | (with_reducible exact ev_bl)
  | ((with_reducible refine ev_dat (d := ?d) ?h); (case h => exact rfl))
  | (with_reducible exact ea_d0)
  | ((with_reducible refine ea_d (d := ?d) (ds := ?ds) ?h1 ?h2); (case h1 => walk_at "ev"); (case h2 => walk_at "ev"))
  | ((with_reducible refine ev_op (da := ?da) (db := ?db) (dc := ?dc) ?h1 ?h2 ?h3); (case h1 => walk_at "ev"); (case h2 => walk_at "ev"); (case h3 => walk_at "rr"))
  | ((with_reducible refine ev_tup (ds := ?ds) ?h1 ?h2); (case h1 => walk_at "ev"); (case h2 => exact Nat.le_of_ble_eq_true rfl))
  | ((with_reducible refine et_b (b := ?b) ?h1); (case h1 => walk_at "ev")))

/-! ### the stream of draws -/
def strX (l c : Addr) (ns : List Int) (z1 z2 z3 : Int) : Atom where
  I F H := (∀ a, F a ↔ a = l ∨ a = c) ∧ ¬ l = c ∧ H l = some (.lst [.ref c, .int z1, .int z2, .int z3]) ∧ H c = some (.lst (ns.map V.int))
  out F H H1 h k t := ⟨h.1, h.2.1, (k l ((h.1 l).mpr (.inl rfl))).trans h.2.2.1, (k c ((h.1 c).mpr (.inr rfl))).trans h.2.2.2⟩
  dom F H a h ha := by
    rcases (h.1 a).mp ha with e | e
    · rw [e, h.2.2.1]
      exact ⟨fun z => (by cases z), fun xs z => (by cases z)⟩
    · rw [e, h.2.2.2]
      exact ⟨fun z => (by cases z), fun xs z => (by cases z)⟩
def strA (l : Addr) : Atom where
  I F H := ∃ c ns z1 z2 z3, 0 ≤ z2 ∧ (strX l c ns z1 z2 z3).I F H
  out F H H1 h k t := by
    obtain ⟨c, ns, z1, z2, z3, hz, h⟩ := h
    exact ⟨c, ns, z1, z2, z3, hz, (strX l c ns z1 z2 z3).out F H H1 h k t⟩
  dom F H a h ha := by
    obtain ⟨c, ns, z1, z2, z3, hz, h⟩ := h
    exact (strX l c ns z1 z2 z3).dom F H a h ha
def closeO (l : Addr) (O : Outs) : Outs where
  nx := fun J1 δ1 => ∃ c ns z1 z2 z3 J2, 0 ≤ z2 ∧ J1 = strX l c ns z1 z2 z3 :: J2 ∧ O.nx (strA l :: J2) δ1
  rt := fun J1 s => ∃ c ns z1 z2 z3 J2, 0 ≤ z2 ∧ J1 = strX l c ns z1 z2 z3 :: J2 ∧ O.rt (strA l :: J2) s
section
variable {J J0 : List Atom} {δ : SE} {te tv tk ta tb tl ti : TE} {t : TA} {u : TS} {K : PySem.W.Frag} {O : Outs} {l c : Addr} {ns : List Int} {z1 z2 z3 : Int}
theorem sg_openS (h : ∀ c ns z1 z2 z3, 0 ≤ z2 → SG (strX l c ns z1 z2 z3 :: J) u δ (closeO l O)) : SG (strA l :: J) u δ O := fun F0 H0 τd σ τ H D S a b k => by
  obtain ⟨F, x, ⟨F1, F2, e, dj, ⟨c, ns, z1, z2, z3, hz, h1⟩, h2⟩, d, t⟩ := S.ex
  refine h c ns z1 z2 z3 hz F0 H0 τd σ τ H D ⟨F, x, ⟨F1, F2, e, dj, h1, h2⟩, d, t⟩ (fun J1 δ1 σ1 H1 n S1 => ?_) (fun J1 s v δ1 σ1 H1 r S1 => ?_) fun _ _ _ _ z => z.elim
  · obtain ⟨c, ns, z1, z2, z3, J2, hz, rfl, n⟩ := n
    exact a _ _ _ _ n (S1.weak (A' := strA l) fun F H h => ⟨c, ns, z1, z2, z3, hz, h⟩)
  · obtain ⟨c, ns, z1, z2, z3, J2, hz, rfl, r⟩ := r
    exact b _ _ _ _ _ _ r (S1.weak (A' := strA l) fun F H h => ⟨c, ns, z1, z2, z3, hz, h⟩)
theorem ev_sx {i : Nat} {z : Int} (ho : EvV J te δ (.ref l)) (m : strX l c ns z1 z2 z3 ∈ J) (hi : [V.ref c, .int z1, .int z2, .int z3][i]? = some (.int z)) : EvD J (tOp (rIxL K) te (tC (.int i))) δ (.int z) := fun F0 H0 τd σ τ H Q S k => ho _ _ _ _ _ _ _ S fun J1 s v H1 ⟨e, es⟩ S1 => by
  subst e es
  obtain ⟨F, _, _, ev⟩ := S1.top
  have ev : v = .ref l := ev
  obtain ⟨F1, _, _, hl, _⟩ := S1.atom m
  exact ⟨l, _, (i : Int), .int z, ev, rfl, SqL.of hl, atI_nat hi, k J1 _ _ H1 ⟨rfl, _, rfl, rfl⟩ (S1.pop.flat (d := .int z) rfl)⟩
theorem ev_sx0 (ho : EvV J te δ (.ref l)) (m : strX l c ns z1 z2 z3 ∈ J) : EvV J (tOp (rIxL K) te (tC (.int 0))) δ (.ref c) := fun F0 H0 τd σ τ H Q S k => ho _ _ _ _ _ _ _ S fun J1 s v H1 ⟨e, es⟩ S1 => by
  subst e es
  obtain ⟨F, _, _, ev⟩ := S1.top
  have ev : v = .ref l := ev
  obtain ⟨F1, _, _, hl, _⟩ := S1.atom m
  exact ⟨l, _, 0, .ref c, ev, rfl, SqL.of hl, atI_nat (j := 0) rfl, k J1 _ _ H1 ⟨rfl, rfl⟩ (S1.pop.push fun F _ _ _ _ => rfl)⟩
theorem ev_lenX (ho : EvV J te δ (.ref c)) (m : strX l c ns z1 z2 z3 ∈ J) : EvD J (tCB (rLenC K) (tCons te tNil)) δ (.int ns.length) := fun F0 H0 τd σ τ H Q S k => ho _ _ _ _ _ _ _ S fun J1 s v H1 ⟨e, es⟩ S1 => by
  subst e es
  obtain ⟨F, _, _, ev⟩ := S1.top
  have ev : v = .ref c := ev
  subst ev
  obtain ⟨F1, _, _, _, hc⟩ := S1.atom m
  refine ⟨c, ns.map V.int, rfl, .inl (SqL.of hc), ?_⟩
  rw [List.length_map]
  exact k J1 _ _ H1 ⟨rfl, _, rfl, rfl⟩ (S1.pop.flat (d := .int ns.length) rfl)
theorem ev_ixX {i : Int} (ho : EvV J te δ (.ref c)) (hi : EvD J ti δ (.int i)) (m : strX l c ns z1 z2 z3 ∈ J) (h0 : 0 ≤ i) (h1 : i < ns.length) : EvD J (tOp (rIxL K) te ti) δ (.int (ns.getD i.toNat 0)) := fun F0 H0 τd σ τ H Q S k => ho _ _ _ _ _ _ _ S fun J1 s v H1 ⟨e, es⟩ S1 => by
  subst e es
  refine hi _ _ _ _ _ _ _ S1 fun J2 s2 u2 H2 ⟨e2, d2, es2, ed2⟩ S2 => ?_
  subst e2 es2 ed2
  have e2 : u2 = .int i := S2.dat
  obtain ⟨F, _, _, ev⟩ := S2.pop.top
  have ev : v = .ref c := ev
  obtain ⟨F1, _, _, _, hc⟩ := S2.atom m
  obtain ⟨n, rfl⟩ : ∃ n : Nat, i = n := ⟨i.toNat, by omega⟩
  have hn : n < ns.length := by omega
  refine ⟨c, _, (n : Int), .int (ns.getD n 0), ev, e2, SqL.of hc, atI_nat ?_, k J2 _ _ H2 ⟨rfl, _, rfl, rfl⟩ (S2.pop.pop.flat (d := .int (ns.getD n 0)) rfl)⟩
  rw [List.getElem?_map, List.getElem?_eq_getElem hn, List.getD_eq_getElem?_getD, List.getElem?_eq_getElem hn]
  rfl
/-- stream[i] = z -/
theorem sg_setX {i : Nat} {z w1 w2 w3 : Int} (hv : EvD (strX l c ns z1 z2 z3 :: J) tv δ (.int z)) (ho : EvV (strX l c ns z1 z2 z3 :: J) te δ (.ref l)) (hi : i < 4) (hs : [V.ref c, .int z1, .int z2, .int z3].set i (.int z) = [V.ref c, .int w1, .int w2, .int w3]) (q : SG (strX l c ns w1 w2 w3 :: J) u δ O) :
    SG (strX l c ns z1 z2 z3 :: J) (tSeq (tAsg tv (gSub te (tC (.int i)) rSetL)) u) δ O := fun F0 H0 τd σ τ H D S a b k => hv _ _ _ _ _ _ _ S fun J1 s v H1 ⟨e, d, es, ed⟩ S1 => by
  subst e es ed
  refine ho _ _ _ _ _ _ _ S1 fun J2 s2 v2 H2 ⟨e2, es2⟩ S2 => ?_
  subst e2 es2
  have ev : v = .int z := S2.pop.dat
  obtain ⟨F, _, _, ev2⟩ := S2.top
  have ev2 : v2 = .ref l := ev2
  obtain ⟨F1, _, hne, hl, hc⟩ := S2.atom (A := strX l c ns z1 z2 z3) (List.mem_cons_self ..)
  subst ev
  refine ⟨l, _, (i : Int), i, ev2, rfl, hl, ?_, ?_⟩
  · unfold ixN
    rw [if_pos (by omega), if_pos (by show (i : Int) < ((4 : Nat) : Int); omega)]
    rfl
  · rw [hs]
    refine q F0 H0 τd σ τ _ D (S2.pop.pop.put fun F2 ⟨ef, hne, _, hc⟩ => ⟨(ef l).mpr (.inl rfl), ef, hne, upd_same, ?_⟩) a b k
    rw [upd_ne (fun z => hne z.symm)]
    exact hc
theorem sg_setX1 {i : Nat} {z w1 w2 w3 : Int} (hv : EvD (strX l c ns z1 z2 z3 :: J) tv δ (.int z)) (ho : EvV (strX l c ns z1 z2 z3 :: J) te δ (.ref l)) (hi : i < 4) (hs : [V.ref c, .int z1, .int z2, .int z3].set i (.int z) = [V.ref c, .int w1, .int w2, .int w3]) (q : O.nx (strX l c ns w1 w2 w3 :: J) δ) :
    SG (strX l c ns z1 z2 z3 :: J) (tAsg tv (gSub te (tC (.int i)) rSetL)) δ O := fun F0 H0 τd σ τ H D S a b k => sg_setX (u := tNext) hv ho hi hs (sg_next q) F0 H0 τd σ τ H D S a b k
end
section
variable {P : Program} {w : World} {K : PySem.W.Frag} {mg : Str → Option Value} {base : Heap} {f : Addr} {fd : FuncData}
theorem scFdraw : FnScope ["_law_stream_here", "_law_many", "_law_value"] ["_law_stream_here", "_law_many"] (defScope sFdraw) := ⟨rfl, rfl, rfl, by decide +kernel, rfl, by decide +kernel, by decide +kernel⟩
def drawP : List Atom → List Sl → JO → Prop := fun J ss R => ∃ l many, strA l ∈ J ∧ 0 < many ∧ many ≤ 1000 ∧ ss = [.val (.ref l), .dat (.int many)] ∧ R = fun J1 s => J1.Perm J ∧ ∃ d, s = .dat (.int d) ∧ 0 ≤ d ∧ d < many
theorem fmod_in {a b : Int} (h : 0 < b) : 0 ≤ a.fmod b ∧ a.fmod b < b := by
  rw [Int.fmod_eq_emod_of_nonneg _ (by omega)]
  exact ⟨Int.emod_nonneg _ (by omega), Int.emod_lt_of_pos _ h⟩
theorem ok_draw (F : FunP K "_law_draw" sFdraw f fd) (T : Txt K mg) : FnOk P w K mg base CX0 1 f fd ["_law_stream_here", "_law_many"] (spG drawP) := by
  have sc := scFdraw
  refine fn_sg F sc (fun J ss R h => ?_) (fun cdv A outer s H E hr => ⟨_, (pss_cons (ps_if (PW.pt (pw_and (pt_cmpR op_eq (pe_ix ix_list (pv 0) pe_int (fun _ _ => rfl)) pe_int (nomark _)) (pw_and1 (pt_cmpR op_lt (pe_ix ix_list (pv 0) pe_int (fun _ _ => rfl)) (pe_callB call_len_seq (by rfl) T.n_len (by decide +kernel) (pa_cons (pe_ix ix_list (pv 0) pe_int (fun _ _ => rfl)) pa_nil)) (nomark _))))) (pss_cons (ps_asg (pe_callB call_abs (by rfl) T.n_abs (by decide +kernel) (pa_cons (pe_callTy call_int1 (by rfl) T.n_int (by decide +kernel) (pa_cons (pe_ix ix_list (pe_ix ix_list (pv 0) pe_int (fun _ _ => rfl)) (pe_ix ix_list (pv 0) pe_int (fun _ _ => rfl)) (fun _ _ => rfl)) pa_nil)) pa_nil)) (pg_sub (pv 0) pe_int set_list))
    (pss_one (ps_asg (pe_op op_add (pe_ix ix_list (pv 0) pe_int (fun _ _ => rfl)) pe_int) (pg_sub (pv 0) pe_int set_list)))) pss_nil)
    (pss_cons (ps_if (pt_cmpR op_eq (pe_ix ix_list (pv 0) pe_int (fun _ _ => rfl)) pe_int (nomark _)) (pss_cons (ps_asg (pe_op op_modN (pe_callTy call_int1 (by rfl) T.n_int (by decide +kernel) (pa_cons (pe_op op_add (pe_op op_mul (pe_ix ix_list (pv 0) pe_int (fun _ _ => rfl)) pe_int) pe_int) pa_nil)) pe_int) (pg_sub (pv 0) pe_int set_list))
    (pss_one (ps_ret (pe_op op_modN (pe_callTy call_int1 (by rfl) T.n_int (by decide +kernel) (pa_cons (pe_op op_fdivN (pe_ix ix_list (pv 0) pe_int (fun _ _ => rfl)) pe_int) pa_nil)) (pv 1))))) pss_nil)
    (pss_cons (ps_set (i := 2) sc.nd rfl (.inl rfl) (pe_op op_modN (pe_callTy call_int1 (by rfl) T.n_int (by decide +kernel) (pa_cons (pe_ix ix_list (pv 0) pe_int (fun _ _ => rfl)) pa_nil)) (pv 1)))
    (pss_cons (ps_asg (pe_op op_fdivN (pe_ix ix_list (pv 0) pe_int (fun _ _ => rfl)) (pv 1)) (pg_sub (pv 0) pe_int set_list))
    (pss_one (ps_ret (pv 2))))))), fun J ss R h => ?_⟩)
  · obtain ⟨l, many, _, _, _, rfl, rfl⟩ := h
    rfl
  · obtain ⟨l, many, hm, h0, h1, rfl, rfl⟩ := h
    obtain ⟨a, b, rfl⟩ := List.append_of_mem hm
    refine SG.perm List.perm_middle ?_
    refine sg_openS fun c ns z1 z2 z3 hz => ?_
    have hpm : (strA l :: (a ++ b)).Perm (a ++ strA l :: b) := List.perm_middle.symm
    generalize a ++ b = J at hpm ⊢
    refine sg_seq (N := fun J1 δ1 => (∃ z1 z2, 0 ≤ z2 ∧ J1 = strX l c ns z1 z2 z3 :: J) ∧ δ1 = [some (.val (.ref l)), some (.dat (.int many)), none]) ?_ ?_
    · refine sg_ifB (et_andB (et_b (ev_op (ev_sx (i := 1) (slf 0) (List.mem_cons_self ..) rfl) ev_int rr_eqI)) fun _ => et_b (ev_op (ev_sx (i := 2) (slf 0) (List.mem_cons_self ..) rfl) (ev_lenX (ev_sx0 (slf 0) (List.mem_cons_self ..)) (List.mem_cons_self ..)) rr_IB)) (fun e => ?_) fun e => sg_next ⟨⟨z1, z2, hz, rfl⟩, rfl⟩
      rw [Bool.and_eq_true] at e
      have hlt := of_decide_eq_true e.2
      refine sg_setX (i := 1) (w1 := absN (ns.getD z2.toNat 0)) (w2 := z2) (w3 := z3) (ev_abs (ev_intI (ev_ixX (ev_sx0 (slf 0) (List.mem_cons_self ..)) (ev_sx (i := 2) (slf 0) (List.mem_cons_self ..) rfl) (List.mem_cons_self ..) hz hlt))) (slf 0) (by decide) rfl ?_
      exact sg_setX1 (i := 2) (w1 := absN (ns.getD z2.toNat 0)) (w2 := z2 + 1) (w3 := z3) (ev_op (ev_sx (i := 2) (slf 0) (List.mem_cons_self ..) rfl) ev_int rr_II) (slf 0) (by decide) rfl ⟨⟨_, _, by omega, rfl⟩, rfl⟩
    · rintro J1 δ1 ⟨⟨z1, z2, hz, rfl⟩, rfl⟩
      refine sg_when (et_b (ev_op (ev_sx (i := 1) (slf 0) (List.mem_cons_self ..) rfl) ev_int rr_eqI)) (fun e => ?_) fun e => ?_
      · refine sg_setX (i := 3) (w1 := z1) (w2 := z2) (w3 := (z3 * 48271 + 11).fmod 2147483647) (ev_op (ev_intI (ev_op (ev_op (ev_sx (i := 3) (slf 0) (List.mem_cons_self ..) rfl) ev_int (rr_CI (.inr ⟨by decide, by decide⟩))) ev_int rr_II)) ev_int (rr_modN (by decide))) (slf 0) (by decide) rfl ?_
        refine sg_retD (ev_op (ev_intI (ev_op (ev_sx (i := 3) (slf 0) (List.mem_cons_self ..) rfl) ev_int (rr_fdivN ⟨by decide, by decide⟩))) (ev_dat (d := .int many) rfl) (rr_modN (by omega))) ?_
        exact ⟨c, ns, _, _, _, J, hz, rfl, hpm, _, rfl, fmod_in h0⟩
      · refine sg_letD (ev_op (ev_intI (ev_sx (i := 1) (slf 0) (List.mem_cons_self ..) rfl)) (ev_dat (d := .int many) rfl) (rr_modN (by omega))) ?_
        refine sg_setX (i := 1) (w1 := z1.fdiv many) (w2 := z2) (w3 := z3) (ev_op (ev_sx (i := 1) (slf 0) (List.mem_cons_self ..) rfl) (ev_dat (d := .int many) rfl) (rr_fdivN ⟨by omega, by omega⟩)) (slf 0) (by decide) rfl ?_
        refine sg_retD (ev_dat rfl) ?_
        exact ⟨c, ns, _, _, _, J, hz, rfl, hpm, _, rfl, fmod_in h0⟩
/-- a draw -/
theorem ev_draw {J : List Atom} {δ : SE} {l : Addr} {E : XK} {ta tb : TE} {many : Int} (ho : EvV J ta δ (.ref l)) (m : strA l ∈ J) (hm : EvD J tb δ (.int many)) (h0 : 0 < many) (h1 : many ≤ 1000) : EvI J (tCall (spG drawP) [] E (tCons ta (tCons tb tNil))) δ fun d => 0 ≤ d ∧ d < many :=
  (ev_call (P := fun J1 s => J1.Perm J ∧ ∃ d, s = .dat d ∧ ∃ n, d = .int n ∧ 0 ≤ n ∧ n < many) (ea_consP (Pc := fun ss => ss = [.val (.ref l), .dat (.int many)]) ho (ea_d (ds := []) hm ea_d0) fun s ss e1 e2 => by rw [e1, e2]; rfl) fun ss e => ⟨_, ⟨l, many, m, h0, h1, e, rfl⟩, fun J1 s ⟨p, d, e1, e2⟩ => ⟨p, .int d, e1, d, rfl, e2⟩⟩).permJ
end
end LK

namespace LK
open PySem PySem.Spec PyProof.Rows L2
local macro_rules | `(tactic| walk_at "rr") => `(tactic| first
  | (with_reducible exact rr_head)
  | ((with_reducible refine rr_ixT (d := ?d) ?h); (case h => exact rfl))
  | (with_reducible exact rr_eqS)
  | (with_reducible exact rr_eqI)
  | (with_reducible exact rr_neI)
  | (with_reducible exact rr_II)
  | (with_reducible exact rr_IB))
local macro_rules | `(tactic| walk_at "ev") => `(tactic| first
  | (with_reducible exact ev_int)
  | (with_reducible exact ev_str)
  | (with_reducible exact ev_non)
  | (with_reducible exact ev_bl)
  | ((with_reducible refine ev_dat (d := ?d) ?h); (case h => exact rfl))
  | (with_reducible exact ea_d0)
  | ((with_reducible refine ea_d (d := ?d) (ds := ?ds) ?h1 ?h2); (case h1 => walk_at "ev"); (case h2 => walk_at "ev"))
  | ((with_reducible refine ev_op (da := ?da) (db := ?db) (dc := ?dc) ?h1 ?h2 ?h3); (case h1 => walk_at "ev"); (case h2 => walk_at "ev"); (case h3 => walk_at "rr"))
  | ((with_reducible refine ev_tup (ds := ?ds) ?h1 ?h2); (case h1 => walk_at "ev"); (case h2 => exact Nat.le_of_ble_eq_true rfl))
  | ((with_reducible refine et_b (b := ?b) ?h1); (case h1 => walk_at "ev")))

section
variable {J J0 : List Atom} {δ : SE} {te tv tk ta tb tl ti : TE} {t : TA} {u tb2 : TS} {K : PySem.W.Frag} {O : Outs} {g : TG} {tt : TT} {th to1 : TO}
/-! ### displays of what is known in part -/
abbrev EvAQ (J : List Atom) (t : TA) (δ : SE) (P : List Dt → Prop) : Prop := EvA J t δ fun ss => ∃ ds : List Dt, ss = ds.map Sl.dat ∧ P ds
theorem ea_q0 : EvAQ J tNil δ fun ds => ds = [] := ea_nil.imp fun ss e => ⟨[], e, rfl⟩
theorem ea_q {P : Dt → Prop} {Ps : List Dt → Prop} (h : EvQ J te δ P) (hr : EvAQ J t δ Ps) : EvAQ J (tCons te t) δ fun ds => ∃ d r, ds = d :: r ∧ P d ∧ Ps r :=
  ea_consP h hr fun s ss ⟨d, e1, p⟩ ⟨ds, e2, q⟩ => ⟨d :: ds, by rw [e1, e2]; rfl, d, ds, rfl, p, q⟩
theorem ev_tupX {P : List Dt → Prop} (h : EvAQ J t δ P) (hz : ∀ ds, P ds → ds.length ≤ 100000) : EvQ J (tTup t) δ fun d => ∃ ds, d = .tup ds ∧ P ds := ev_tupQ h fun ss ⟨ds, e, p⟩ => ⟨ds, e, hz ds p, ds, rfl, p⟩
theorem ev_lstX {P : List Dt → Prop} (h : EvAQ J t δ P) (hz : ∀ ds, P ds → ds.length ≤ 100000) : EvP J (tLst t) δ fun s => ∃ ds, s = .lst ds ∧ P ds := ev_lstP h fun ss ⟨ds, e, p⟩ => ⟨ds, e, hz ds p, p⟩
theorem ev_ixLX {PL : List Dt → Prop} {P : Int → Prop} {Pd : Dt → Prop} (ha : EvP J ta δ fun s => ∃ ds, s = .lst ds ∧ PL ds) (hb : EvI J tb δ P) (h : ∀ ds i, PL ds → P i → ∃ d, atI ds i = some d ∧ Pd d) : EvQ J (tOp (rIxL K) ta tb) δ Pd := by
  intro F0 H0 τd σ τ H Q S k
  refine ha _ _ _ _ _ _ _ S fun J1 s v H1 ⟨e, ds, es, pl⟩ S1 => ?_
  subst e es
  refine hb _ _ _ _ _ _ _ S1 fun J2 s2 v2 H2 ⟨e2, d2, es2, i, ei, hi⟩ S2 => ?_
  subst e2 es2 ei
  have ev : v2 = .int i := S2.dat
  obtain ⟨l, vs, rfl, hl, hs⟩ := S2.pop.lst
  obtain ⟨d, hd, pd⟩ := h ds i pl hi
  obtain ⟨w, hw, iw⟩ := isDs_ixN hs hd
  exact ⟨l, vs, i, w, rfl, ev, SqL.of hl, hw, k J2 _ w H2 ⟨rfl, d, rfl, pd⟩ (S2.pop.pop.push fun F _ _ _ _ => iw)⟩
/-! ### slices -/
theorem cut_mem {ds : List Dt} {lo hi : Option Int} : ∀ d ∈ cutD ds lo hi, d ∈ ds := fun d h => List.mem_of_mem_drop (List.mem_of_mem_take h)
theorem cut_len {ds : List Dt} {lo hi : Option Int} : (cutD ds lo hi).length ≤ ds.length := by
  unfold cutD
  rw [List.length_take, List.length_drop]
  omega
theorem ev_slLX {ds : List Dt} {Pl Ph : Option Int → Prop} (h : EvL J te δ ds) (h1 : EvO J to1 δ Pl) (h2 : EvO J th δ Ph) : EvP J (tSl (rSlL K) te to1 th) δ fun s => ∃ es, s = .lst es ∧ ∃ lo hi, es = cutD ds lo hi := fun F0 H0 τd σ τ H Q S k =>
  h _ _ _ _ _ _ _ S fun J1 s v H1 ⟨e, es⟩ S1 => by
    subst e es
    refine h1 _ _ _ _ _ _ _ S1 fun lo H2 pl S2 => h2 _ _ _ _ _ _ _ S2 fun hi H3 ph S3 => ?_
    obtain ⟨a, vs, rfl, ha, hs⟩ := S3.lst
    exact ⟨a, vs, rfl, SqL.of ha, fun p hp => k _ _ _ _ ⟨rfl, _, rfl, lo, hi, rfl⟩ (S3.pop.newLst hp (isDs_cut hs))⟩
theorem ev_slTX {P : List Dt → Prop} {Pl Ph : Option Int → Prop} (h : EvQ J te δ fun d => ∃ ds, d = .tup ds ∧ P ds) (h1 : EvO J to1 δ Pl) (h2 : EvO J th δ Ph) : EvQ J (tSl (rSlA K) te to1 th) δ fun d => ∃ es ds lo hi, P ds ∧ d = .tup es ∧ es = cutD ds lo hi := fun F0 H0 τd σ τ H Q S k =>
  h _ _ _ _ _ _ _ S fun J1 s v H1 ⟨e, d, es, ds, ed, p⟩ S1 => by
    subst e es ed
    refine h1 _ _ _ _ _ _ _ S1 fun lo H2 pl S2 => h2 _ _ _ _ _ _ _ S2 fun hi H3 ph S3 => ?_
    obtain ⟨a, vs, rfl, ha, hs⟩ := S3.dat
    refine ⟨a, vs, rfl, SqT.of ha, fun hw => k _ _ _ H3 ⟨rfl, _, rfl, _, ds, lo, hi, p, rfl, rfl⟩ (S3.pop.push fun F _ _ _ _ => ⟨a, vs, rfl, ha, ?_⟩), fun hw p2 hp => k _ _ _ _ ⟨rfl, _, rfl, _, ds, lo, hi, p, rfl, rfl⟩ (S3.pop.newTup hp (isDs_cut hs))⟩
    have e : cutD ds lo hi = ds := by
      unfold cutD
      rw [hs.length] at hw
      rw [hw.1, hw.2]
      simp
    rw [e]
    exact hs
/-! ### ranges of a length known in part -/
def tKn (n : Nat) : TA := fun _ H Q => Q [.int n] H
theorem ea_K {n : Nat} : EvA J (tKn n) δ fun ss => ss = [.dat (.int n)] := fun F0 H0 τd σ τ H Q S k => k [.dat (.int n)] [.int n] H rfl rfl (S.flat (d := .int n) rfl)
theorem ea_rng {P : Int → Prop} {N : Nat} (h : EvI J te δ P) (hp : ∀ i, P i → 0 ≤ i ∧ i ≤ N) : EvA J (tCons te tNil) δ fun ss => ∃ n : Nat, ss = [.dat (.int n)] ∧ n ≤ N ∧ P n :=
  ea_consP (Ps := fun ss => ss = []) h ea_nil fun s ss ⟨d, e1, i, e2, p⟩ e3 => by
    obtain ⟨h1, h2⟩ := hp i p
    obtain ⟨n, rfl⟩ : ∃ n : Nat, i = n := ⟨i.toNat, by omega⟩
    exact ⟨n, by rw [e1, e2, e3], by omega, p⟩
theorem sg_forE {Pn : Nat → Prop} (hl : EvA J t δ fun ss => ∃ n : Nat, ss = [.dat (.int n)] ∧ Pn n) (k : ∀ n, Pn n → SG J (tFor (iRng1 (tKn n)) g tb2) δ O) : SG J (tFor (iRng1 t) g tb2) δ O := fun F0 H0 τd σ τ H D S a b c =>
  hl _ _ _ _ _ _ _ S fun ss vs H1 ⟨n, es, p⟩ l S1 => by
    subst es
    obtain ⟨F, tt⟩ := S1.args l
    obtain ⟨v, r, rfl, e1, e2⟩ := tt
    have e1 : v = .int n := e1
    have e2 : r = [] := e2
    subst e1 e2
    exact k n p F0 H0 τd σ τ H1 D (S1.drop (ss := [.dat (.int n)]) (vs := [.int n]) rfl) a b c
theorem ev_lcE {j : Nat} {Pn : Nat → Prop} {P : JO} (hl : EvA J t δ fun ss => ∃ n : Nat, ss = [.dat (.int n)] ∧ Pn n) (k : ∀ n, Pn n → EvG J (tLc (iRng1 (tKn n)) g tt te [j]) δ P) : EvG J (tLc (iRng1 t) g tt te [j]) δ P := fun F0 H0 τd σ τ H Q S q =>
  hl _ _ _ _ _ _ _ S fun ss vs H1 ⟨n, es, p⟩ l S1 => by
    subst es
    obtain ⟨F, tt⟩ := S1.args l
    obtain ⟨v, r, rfl, e1, e2⟩ := tt
    have e1 : v = .int n := e1
    have e2 : r = [] := e2
    subst e1 e2
    exact k n p F0 H0 τd σ τ H1 Q (S1.drop (ss := [.dat (.int n)]) (vs := [.int n]) rfl) q
theorem sg_rtLose (h : SG J u δ { O with rt := fun J1 s => ∃ A J2, J1 = A :: J2 ∧ O.rt J2 s }) : SG J u δ O := fun F0 H0 τd σ τ H D S a b c => h F0 H0 τd σ τ H D S a (fun J1 s v δ1 σ1 H1 ⟨A, J2, e, r⟩ S1 => b J2 s v δ1 σ1 H1 r (by subst e; exact S1.lose)) c
theorem sg_retQ {P : Dt → Prop} (h : EvQ J te δ P) (k : ∀ d, P d → O.rt J (.dat d)) : SG J (tRet te) δ O := sg_retG h fun J1 s ⟨e, d, es, p⟩ => by rw [e, es]; exact k d p
end
/-! ### promises of what is drawn -/
def genP (G : List Sl → (Dt → Prop) → Prop) : List Atom → List Sl → JO → Prop := fun J ss R => ∃ l as Po, strA l ∈ J ∧ ss = .val (.ref l) :: as ∧ G as Po ∧ R = fun J1 s => J1.Perm J ∧ ∃ d, s = .dat d ∧ Po d
theorem ev_gen {J : List Atom} {δ : SE} {l : Addr} {E : XK} {ta : TE} {t : TA} {as : List Sl} {G : List Sl → (Dt → Prop) → Prop} {Po : Dt → Prop} (ho : EvV J ta δ (.ref l)) (m : strA l ∈ J) (ht : EvA J t δ fun ss => ss = as) (g : G as Po) : EvQ J (tCall (spG (genP G)) [] E (tCons ta t)) δ Po :=
  (ev_call (P := fun J1 s => J1.Perm J ∧ ∃ d, s = .dat d ∧ Po d) (ea_consP (Pc := fun ss => ss = .val (.ref l) :: as) ho ht fun s ss e1 e2 => by rw [e1, e2]) fun ss e => ⟨_, ⟨l, as, Po, m, e, g, rfl⟩, fun J1 s h => h⟩).permJ
def pD (q : Str × Str) : Dt := .tup [.str q.1, .str q.2]
theorem map_of {α : Type} {f : α → Dt} : ∀ {ds : List Dt}, (∀ d ∈ ds, ∃ a, d = f a) → ∃ l : List α, ds = l.map f
  | [], _ => ⟨[], rfl⟩
  | d :: ds, h => by
    obtain ⟨a, ea⟩ := h d (List.mem_cons_self ..)
    obtain ⟨l, el⟩ := map_of (ds := ds) fun d hd => h d (List.mem_cons_of_mem _ hd)
    exact ⟨a :: l, by rw [ea, el]; rfl⟩
section
variable {P : Program} {w : World} {K : PySem.W.Frag} {mg : Str → Option Value} {base : Heap} {f : Addr} {fd : FuncData}
def rows0 : List Dt := [pD ("n", "int"), pD ("a", "buffer"), pD ("m", "int"), pD ("b", "buffer"), pD ("k", "int"), pD ("c", "buffer")]
theorem scFparams : FnScope ["_law_stream_here", "_law_rows", "_law_at"] ["_law_stream_here"] (defScope sFparams) := ⟨rfl, rfl, rfl, by decide +kernel, rfl, by decide +kernel, by decide +kernel⟩
def gParams (as : List Sl) (Po : Dt → Prop) : Prop := as = [] ∧ Po = fun d => ∃ ps : List (Str × Str), d = .tup (ps.map pD) ∧ ps.length ≤ 12
theorem ok_params (F : FunP K "_law_params" sFparams f fd) (T : Txt K mg) (c_Fdraw : Cal P w K mg base 1 "_law_draw" ["_law_stream_here", "_law_many"] (spG drawP)) : FnOk P w K mg base CX0 2 f fd ["_law_stream_here"] (spG (genP gParams)) := by
  have sc := scFparams
  refine fn_sg F sc (fun J ss R h => ?_) (fun cdv A outer s H E hr => ⟨_, (pss_cons (ps_set (i := 1) sc.nd rfl (.inl rfl) (pe_lst (pa_cons (pe_tup (pa_cons pe_str (pa_cons pe_str pa_nil))) (pa_cons (pe_tup (pa_cons pe_str (pa_cons pe_str pa_nil))) (pa_cons (pe_tup (pa_cons pe_str (pa_cons pe_str pa_nil))) (pa_cons (pe_tup (pa_cons pe_str (pa_cons pe_str pa_nil))) (pa_cons (pe_tup (pa_cons pe_str (pa_cons pe_str pa_nil))) (pa_cons (pe_tup (pa_cons pe_str (pa_cons pe_str pa_nil))) pa_nil))))))))
    (pss_cons (ps_set (i := 2) sc.nd rfl (.inl rfl) (pe_call c_Fdraw.ok (hr.mono (by decide)) (by rfl) c_Fdraw.hm c_Fdraw.hk c_Fdraw.hb .nil pass0 (pa_cons (pv 0) (pa_cons pe_int pa_nil))))
    (pss_one (ps_ret (pe_callTy call_tuple_of (by rfl) T.n_tuple (by decide +kernel) (pa_cons (pe_slice sl_list (pe_op op_cat (pv 1) (pv 1)) (po_some (pv 2)) (po_some (pe_op op_add (pv 2) (pe_call c_Fdraw.ok (hr.mono (by decide)) (by rfl) c_Fdraw.hm c_Fdraw.hk c_Fdraw.hb .nil pass0 (pa_cons (pv 0) (pa_cons pe_int pa_nil)))))) pa_nil)))))), fun J ss R h => ?_⟩)
  · obtain ⟨l, as, Po, hm, rfl, ⟨rfl, rfl⟩, rfl⟩ := h
    rfl
  · obtain ⟨l, as, Po, hm, rfl, ⟨rfl, rfl⟩, rfl⟩ := h
    have hp2 : ∀ {J : List Atom} {δ : SE} {a b : Str}, EvD J (tTup (tCons (tC (.str a)) (tCons (tC (.str b)) tNil))) δ (pD (a, b)) := ev_tup (ea_d ev_str (ea_d ev_str ea_d0))
    refine sg_letL (ds := rows0) (ev_lstD (ea_d hp2 (ea_d hp2 (ea_d hp2 (ea_d hp2 (ea_d hp2 (ea_d hp2 ea_d0))))))) ?_
    refine sg_letI (ev_draw (slf 0) hm ev_int (by decide) (by decide)) fun n hn => ?_
    refine sg_retQ (ev_tupLQ (ev_slLX (ev_catL (ev_lst rfl) (ev_lst rfl) (Nat.le_of_ble_eq_true rfl)) (eo_some (ev_dat (d := .int n) rfl)) (eo_someI (ev_opI (Pa := fun _ => True) (Pc := fun _ => True) ((ev_dat (d := .int n) rfl).toI trivial) (ev_draw (slf 0) hm ev_int (by decide) (by decide)) fun a b _ _ => ⟨trivial, rr_II⟩)))) fun d hd => ⟨List.Perm.refl _, d, rfl, ?_⟩
    obtain ⟨ds, rfl, lo, hi, rfl⟩ := hd
    obtain ⟨ps, hps⟩ := map_of (f := pD) (ds := cutD (rows0 ++ rows0) lo hi) fun d hd => by
      have := cut_mem d hd
      simp only [rows0, List.mem_append, List.mem_cons, List.not_mem_nil, or_false, or_self] at this
      rcases this with h | h | h | h | h | h <;> exact ⟨_, h⟩
    refine ⟨ps, by rw [hps], ?_⟩
    have h2 := cut_len (ds := rows0 ++ rows0) (lo := lo) (hi := hi)
    rw [hps, List.length_map] at h2
    exact h2
theorem scFshared : FnScope ["_law_stream_here"] ["_law_stream_here"] (defScope sFshared) := ⟨rfl, rfl, rfl, by decide +kernel, rfl, by decide +kernel, by decide +kernel⟩
def gShared (as : List Sl) (Po : Dt → Prop) : Prop := as = [] ∧ Po = fun d => ∃ ds : List Dt, d = .tup ds ∧ ds.length ≤ 3
theorem ok_shared (F : FunP K "_law_shared" sFshared f fd) (T : Txt K mg) (c_Fdraw : Cal P w K mg base 1 "_law_draw" ["_law_stream_here", "_law_many"] (spG drawP)) : FnOk P w K mg base CX0 2 f fd ["_law_stream_here"] (spG (genP gShared)) := by
  have sc := scFshared
  refine fn_sg F sc (fun J ss R h => ?_) (fun cdv A outer s H E hr => ⟨_, (pss_one (ps_ret (pe_slice sl_tupA (pe_tup (pa_cons (pe_tup (pa_cons pe_str (pa_cons (pe_op op_add pe_int (pe_call c_Fdraw.ok (hr.mono (by decide)) (by rfl) c_Fdraw.hm c_Fdraw.hk c_Fdraw.hb .nil pass0 (pa_cons (pv 0) (pa_cons pe_int pa_nil)))) pa_nil))) (pa_cons (pe_tup (pa_cons pe_str (pa_cons pe_int pa_nil))) (pa_cons (pe_tup (pa_cons pe_str (pa_cons (pe_op op_add pe_int (pe_call c_Fdraw.ok (hr.mono (by decide)) (by rfl) c_Fdraw.hm c_Fdraw.hk c_Fdraw.hb .nil pass0 (pa_cons (pv 0) (pa_cons pe_int pa_nil)))) pa_nil))) pa_nil)))) po_none (po_some (pe_call c_Fdraw.ok (hr.mono (by decide)) (by rfl) c_Fdraw.hm c_Fdraw.hk c_Fdraw.hb .nil pass0 (pa_cons (pv 0) (pa_cons pe_int pa_nil))))))), fun J ss R h => ?_⟩)
  · obtain ⟨l, as, Po, hm, rfl, ⟨rfl, rfl⟩, rfl⟩ := h
    rfl
  · obtain ⟨l, as, Po, hm, rfl, ⟨rfl, rfl⟩, rfl⟩ := h
    have hd : ∀ {m : Int} {E : XK}, 0 < m → m ≤ 1000 → EvI J (tOp (rI0 fun i j => .int (i + j)) (tC (.int 1)) (tCall (spG drawP) [] E (tCons (tVar 0) (tCons (tC (.int m)) tNil)))) [some (.val (.ref l))] fun _ => True := fun h0 h1 =>
      ev_opI (Pa := fun _ => True) (Pc := fun _ => True) (ev_int.toI trivial) (ev_draw (slf 0) hm ev_int h0 h1) fun a b _ _ => ⟨trivial, rr_II⟩
    refine sg_retQ (ev_slTX (ev_tupX (ea_q (ev_tupX (ea_q ev_str (ea_q (hd (by decide) (by decide)) ea_q0)) ?_) (ea_q (ev_tup (by walk_at "ev")) (ea_q (ev_tupX (ea_q ev_str (ea_q (hd (by decide) (by decide)) ea_q0)) ?_) ea_q0))) ?_) eo_none (eo_someI (ev_draw (slf 0) hm ev_int (by decide) (by decide)))) fun d hd => ⟨List.Perm.refl _, d, rfl, ?_⟩
    · rintro ds ⟨_, _, rfl, _, _, _, rfl, _, rfl⟩
      exact Nat.le_of_ble_eq_true rfl
    · rintro ds ⟨_, _, rfl, _, _, _, rfl, _, rfl⟩
      exact Nat.le_of_ble_eq_true rfl
    · rintro ds ⟨_, _, rfl, _, _, _, rfl, _, _, _, rfl, _, rfl⟩
      exact Nat.le_of_ble_eq_true rfl
    · obtain ⟨es, ds, lo, hi, ⟨_, _, rfl, _, _, _, rfl, _, _, _, rfl, _, rfl⟩, rfl, rfl⟩ := hd
      exact ⟨_, rfl, cut_len⟩
theorem scFlaunch : FnScope ["_law_stream_here", "_law_params_here", "_law_buffers", "_law_k", "_law_arguments", "_law_name", "_law_kind", "_law_n"] ["_law_stream_here", "_law_params_here"] (defScope sFlaunch) := ⟨rfl, rfl, rfl, by decide +kernel, rfl, by decide +kernel, by decide +kernel⟩
def launchD (na : Nat) (d : Dt) : Prop := ∃ (gr dim : Int) (as : List Int) (bufs : Dt), d = .tup [.int gr, .int dim, .tup (as.map Dt.int), bufs] ∧ 1 ≤ gr ∧ gr ≤ 2 ∧ as.length = na ∧ ∀ x ∈ as, Wd x
def gLaunch (as : List Sl) (Po : Dt → Prop) : Prop := ∃ ps : List (Str × Str), ps.length ≤ 12 ∧ as = [.dat (.tup (ps.map pD))] ∧ Po = launchD ps.length
theorem ok_launch (F : FunP K "_law_launch" sFlaunch f fd) (T : Txt K mg) (c_Fdraw : Cal P w K mg base 1 "_law_draw" ["_law_stream_here", "_law_many"] (spG drawP)) : FnOk P w K mg base CX0 2 f fd ["_law_stream_here", "_law_params_here"] (spG (genP gLaunch)) := by
  have sc := scFlaunch
  refine fn_sg F sc (fun J ss R h => ?_) (fun cdv A outer s H E hr => ⟨_, (pss_cons (ps_set (i := 2) sc.nd rfl (.inl rfl) (pe_lst pa_nil))
    (pss_cons (ps_for PassesOwn.never rfl (pi_range1 (by rfl) T.n_range (pa_cons (pe_op op_add pe_int (pe_call c_Fdraw.ok (hr.mono (by decide)) (by rfl) c_Fdraw.hm c_Fdraw.hk c_Fdraw.hb .nil pass0 (pa_cons (pv 0) (pa_cons pe_int pa_nil)))) pa_nil)) (pg_name (i := 3) sc.nd rfl (.inl rfl)) (pss_one (ps_expr (pe_bm PySem.F.plainAttrs_list PySem.F.slot_list_append PySem.F.type_list_append mt_append (pv 2) (pa_cons (pe_callTy call_tuple_of (by rfl) T.n_tuple (by decide +kernel) (pa_cons (pe_lc (own := [("_law_n", 7)]) (g := gName 7) (tt := tYes) (by rfl) sc.nd (pi_range1 (by rfl) T.n_range (pa_cons (pe_call c_Fdraw.ok (hr.mono (by decide)) (by rfl) c_Fdraw.hm c_Fdraw.hk c_Fdraw.hb .nil pass0 (pa_cons (pv 0) (pa_cons pe_int pa_nil))) pa_nil)) (blkOk_by (own := [("_law_n", 7)]) (N := ["_law_stream_here", "_law_params_here", "_law_buffers", "_law_k", "_law_arguments", "_law_name", "_law_kind", "_law_n"]) (sc := defScope sFlaunch) (by decide +kernel)) (fun _ _ _ _ _ => pg_name (i := 7) sc.nd rfl (Or.inl rfl)) (fun _ _ _ _ _ => pts_nil) (fun _ _ _ _ _ => by apply pe_at; (exact (pe_op op_sub (pe_call c_Fdraw.ok (hr.mono (by decide)) (by rfl) c_Fdraw.hm c_Fdraw.hk c_Fdraw.hb .nil pass0 (pa_cons (pv 0) (pa_cons pe_int pa_nil))) pe_int)); (try dsimp only [Cx.blk]); try exact rfl)) pa_nil)) pa_nil)))))
    (pss_cons (ps_set (i := 4) sc.nd rfl (.inl rfl) (pe_lst pa_nil))
    (pss_cons (ps_for PassesOwn.never rfl (pi_tup (pv 1)) (pg_tup (by rfl) (pgs_cons (pg_name (i := 5) sc.nd rfl (.inl rfl)) (pgs_cons (pg_name (i := 6) sc.nd rfl (.inl rfl)) pgs_nil))) (pss_one (ps_if (pt_cmpR op_eq (pv 6) pe_str (nomark _)) (pss_one (ps_expr (pe_bm PySem.F.plainAttrs_list PySem.F.slot_list_append PySem.F.type_list_append mt_append (pv 4) (pa_cons (pe_op op_sub (pe_call c_Fdraw.ok (hr.mono (by decide)) (by rfl) c_Fdraw.hm c_Fdraw.hk c_Fdraw.hb .nil pass0 (pa_cons (pv 0) (pa_cons pe_int pa_nil))) pe_int) pa_nil)))) (pss_one (ps_expr (pe_bm PySem.F.plainAttrs_list PySem.F.slot_list_append PySem.F.type_list_append mt_append (pv 4) (pa_cons (pe_call c_Fdraw.ok (hr.mono (by decide)) (by rfl) c_Fdraw.hm c_Fdraw.hk c_Fdraw.hb .nil pass0 (pa_cons (pv 0) (pa_cons (pe_callB call_len_seq (by rfl) T.n_len (by decide +kernel) (pa_cons (pv 2) pa_nil)) pa_nil))) pa_nil)))))))
    (pss_one (ps_ret (pe_tup (pa_cons (pe_op op_add pe_int (pe_call c_Fdraw.ok (hr.mono (by decide)) (by rfl) c_Fdraw.hm c_Fdraw.hk c_Fdraw.hb .nil pass0 (pa_cons (pv 0) (pa_cons pe_int pa_nil)))) (pa_cons (pe_op op_add pe_int (pe_call c_Fdraw.ok (hr.mono (by decide)) (by rfl) c_Fdraw.hm c_Fdraw.hk c_Fdraw.hb .nil pass0 (pa_cons (pv 0) (pa_cons pe_int pa_nil)))) (pa_cons (pe_callTy call_tuple_of (by rfl) T.n_tuple (by decide +kernel) (pa_cons (pv 4) pa_nil)) (pa_cons (pe_callTy call_tuple_of (by rfl) T.n_tuple (by decide +kernel) (pa_cons (pv 2) pa_nil)) pa_nil))))))))))), fun J ss R h => ?_⟩)
  · obtain ⟨l, as, Po, hm, rfl, ⟨ps, hz, rfl, rfl⟩, rfl⟩ := h
    rfl
  · obtain ⟨l, as, Po, hm, rfl, ⟨ps, hz, rfl, rfl⟩, rfl⟩ := h
    refine sg_newL fun b => ?_
    refine sg_seq (N := fun J1 δ1 => ∃ ds : List Dt, J1 = lstA b ds :: J ∧ 1 ≤ ds.length ∧ ds.length ≤ 3 ∧ ∃ k, δ1 = [some (.val (.ref l)), some (.dat (.tup (ps.map pD))), some (.val (.ref b)), k, none, none, none, none]) ?_ ?_
    · refine sg_forE (Pn := fun n => n ≤ 3 ∧ 1 ≤ (n : Int)) ((ea_rng (N := 3) (P := fun i => 1 ≤ i ∧ i ≤ 3) (ev_opI (f := fun i j => i + j) (Pa := fun i => i = 1) (ev_int.toI rfl) (ev_draw (slf 0) (List.mem_cons_of_mem _ hm) ev_int (by decide) (by decide)) fun x y hx hy => ⟨⟨by omega, by omega⟩, rr_II⟩) fun i hi => ⟨by omega, by omega⟩).imp fun ss ⟨n, e, h1, h2⟩ => ⟨n, e, h1, h2.1⟩) fun n hn => ?_
      refine sg_forR1 (n := n) (Iv := fun i J1 δ1 => ∃ ds : List Dt, J1 = lstA b ds :: J ∧ ds.length = i ∧ ∃ k, δ1 = [some (.val (.ref l)), some (.dat (.tup (ps.map pD))), some (.val (.ref b)), k, none, none, none, none]) ea_K (by omega) ⟨[], rfl, rfl, _, rfl⟩ ?_ ?_
      · rintro i J1 δ1 hi ⟨ds, rfl, hl, k, rfl⟩
        refine ⟨_, tg_name, ?_⟩
        refine sg_append (s := []) (t := J) (P := fun _ => True) (slf 2) (EvQ.imp (ev_tupLQ (P := fun _ => True) ?_) fun _ _ => trivial) (by omega) fun e _ => ⟨ds ++ [e], rfl, by rw [List.length_append, hl]; rfl, _, rfl⟩
        refine EvG.imp (ev_lcE (Pn := fun n => n ≤ 13) ((ea_rng (N := 13) (ev_draw (slf 0) (List.mem_cons_of_mem _ hm) ev_int (by decide) (by decide)) fun i hi => ⟨hi.1, by omega⟩).imp fun ss ⟨n, e, h1, h2⟩ => ⟨n, e, h1⟩) fun n hn => ev_lcR (n := n) (Ac := fun _ _ => True) (Pb := fun _ b => b = true) (Pe := fun _ _ => True) ea_K (by omega) trivial (fun A i hi => et_yes) (fun A i hi _ => ?_) (fun _ _ _ _ _ => trivial) fun _ _ _ _ _ _ _ => trivial) fun J1 s ⟨e, es, h, _⟩ => ⟨e, es, h, trivial⟩
        exact EvQ.imp (ev_opI (f := fun i j => i - j) (Pb := fun _ => True) (Pc := fun _ => True) (ev_draw (slf 0) (List.mem_cons_of_mem _ (List.mem_cons_of_mem _ hm)) ev_int (by decide) (by decide)) (ev_int.toI trivial) fun a b _ _ => ⟨trivial, rr_II⟩) fun _ _ => trivial
      · rintro J1 δ1 ⟨ds, rfl, hl, h⟩
        exact ⟨ds, rfl, by omega, by omega, h⟩
    · rintro J1 δ1 ⟨ds, rfl, hd1, hd3, k, rfl⟩
      refine sg_newL fun a => ?_
      refine sg_seq (N := fun J1 δ1 => ∃ as : List Int, J1 = lstA a (as.map Dt.int) :: lstA b ds :: J ∧ as.length = ps.length ∧ (∀ x ∈ as, Wd x) ∧ ∃ x y, δ1 = [some (.val (.ref l)), some (.dat (.tup (ps.map pD))), some (.val (.ref b)), k, some (.val (.ref a)), x, y, none]) ?_ ?_
      · refine sg_forT (ds := ps.map pD) (Iv := fun i J1 δ1 => ∃ as : List Int, J1 = lstA a (as.map Dt.int) :: lstA b ds :: J ∧ as.length = i ∧ (∀ x ∈ as, Wd x) ∧ ∃ x y, δ1 = [some (.val (.ref l)), some (.dat (.tup (ps.map pD))), some (.val (.ref b)), k, some (.val (.ref a)), x, y, none]) (ev_dat rfl) ⟨[], rfl, rfl, (fun x hx => by cases hx), _, _, rfl⟩ ?_ ?_
        · rintro i d J1 δ1 hd ⟨as, rfl, hl, hw, x, y, rfl⟩
          have hi : i < ps.length := by
            have := (List.getElem?_eq_some_iff.mp hd).1
            rwa [List.length_map] at this
          rw [List.getElem?_map] at hd
          cases hq : ps[i]? with
          | none => rw [hq] at hd; cases hd
          | some qq =>
            rw [hq] at hd
            cases hd
            refine ⟨_, tg_tup (ds := [.str qq.1, .str qq.2]) (tgs_cons tg_name (tgs_cons tg_name tgs_nil)), ?_⟩
            have hm2 : strA l ∈ lstA a (as.map Dt.int) :: lstA b ds :: J := List.mem_cons_of_mem _ (List.mem_cons_of_mem _ hm)
            have hnx : ∀ e : Dt, (∃ n, e = .int n ∧ Wd n) → ∃ as' : List Int, (lstA a (as.map Dt.int ++ [e]) :: lstA b ds :: J) = lstA a (as'.map Dt.int) :: lstA b ds :: J ∧ as'.length = i + 1 ∧ ∀ x ∈ as', Wd x := fun e ⟨n, e1, e2⟩ => by
              refine ⟨as ++ [n], ?_, by rw [List.length_append, hl]; rfl, fun x hx => ?_⟩
              · rw [e1, List.map_append]
                rfl
              · rcases List.mem_append.mp hx with hx | hx
                · exact hw x hx
                · rw [List.mem_singleton.mp hx]; exact e2
            refine sg_ifB (et_b (ev_op (ev_dat (d := .str qq.2) rfl) ev_str rr_eqS)) (fun e => ?_) fun e => ?_
            · refine sg_append (s := []) (t := lstA b ds :: J) (P := fun d => ∃ n, d = .int n ∧ Wd n) (slf 4) (ev_opI (f := fun i j => i - j) (Pb := fun i => i = 4) (Pc := Wd) (ev_draw (slf 0) hm2 ev_int (by decide) (by decide)) (ev_int.toI rfl) fun a b ha hb => ⟨⟨by omega, by omega⟩, rr_II⟩) (by rw [List.length_map]; omega) fun e he => ?_
              obtain ⟨as', h1, h2, h3⟩ := hnx e he
              exact ⟨as', h1, h2, h3, _, _, rfl⟩
            · refine sg_append (s := []) (t := lstA b ds :: J) (P := fun d => ∃ n, d = .int n ∧ Wd n) (slf 4) (EvQ.imp (ev_draw (slf 0) hm2 (ev_lenA (slf 2) (List.mem_cons_of_mem _ (List.mem_cons_self ..))) (by omega) (by omega)) fun d ⟨n, e1, e2⟩ => ⟨n, e1, ⟨by omega, by omega⟩⟩) (by rw [List.length_map]; omega) fun e he => ?_
              obtain ⟨as', h1, h2, h3⟩ := hnx e he
              exact ⟨as', h1, h2, h3, _, _, rfl⟩
        · rintro J1 δ1 ⟨as, e1, e2, h⟩
          rw [List.length_map] at e2
          exact ⟨as, e1, e2, h⟩
      · rintro J1 δ1 ⟨as, rfl, hl, hw, x, y, rfl⟩
        have hm2 : strA l ∈ lstA a (as.map Dt.int) :: lstA b ds :: J := List.mem_cons_of_mem _ (List.mem_cons_of_mem _ hm)
        refine sg_rtLose (sg_rtLose ?_)
        refine sg_retQ (ev_tupX (ea_q (ev_opI (f := fun i j => i + j) (Pa := fun i => i = 1) (Pc := fun i => 1 ≤ i ∧ i ≤ 2) (ev_int.toI rfl) (ev_draw (slf 0) hm2 ev_int (by decide) (by decide)) fun x y hx hy => ⟨⟨by omega, by omega⟩, rr_II⟩) (ea_q (ev_opI (f := fun i j => i + j) (Pa := fun i => i = 1) (Pc := fun i => True) (ev_int.toI rfl) (ev_draw (slf 0) hm2 ev_int (by decide) (by decide)) fun x y hx hy => ⟨trivial, rr_II⟩) (ea_q (ev_tupA (slf 4) (List.mem_cons_self ..)) (ea_q (ev_tupA (slf 2) (List.mem_cons_of_mem _ (List.mem_cons_self ..))) ea_q0)))) ?_) fun d hd => ?_
        · rintro ds ⟨_, _, rfl, _, _, _, rfl, _, _, _, rfl, _, _, _, rfl, _, rfl⟩
          exact Nat.le_of_ble_eq_true rfl
        · obtain ⟨_, rfl, _, _, rfl, ⟨g, rfl, hg⟩, _, _, rfl, ⟨dm, rfl, _⟩, _, _, rfl, rfl, _, _, rfl, rfl, rfl⟩ := hd
          exact ⟨_, _, rfl, _, _, rfl, List.Perm.refl _, _, rfl, g, dm, as, _, rfl, hg.1, hg.2, hl, hw⟩
end
end LK

namespace LK
open PySem PySem.Spec PyProof.Rows L2
local macro_rules | `(tactic| walk_at "rr") => `(tactic| first
  | (with_reducible exact rr_head)
  | ((with_reducible refine rr_ixT (d := ?d) ?h); (case h => exact rfl))
  | (with_reducible exact rr_eqS)
  | (with_reducible exact rr_eqI)
  | (with_reducible exact rr_neI)
  | (with_reducible exact rr_II)
  | (with_reducible exact rr_IB))
local macro_rules | `(tactic| walk_at "ev") => `(tactic| first
  | (with_reducible exact ev_int)
  | (with_reducible exact ev_str)
  | (with_reducible exact ev_non)
  | (with_reducible exact ev_bl)
  | ((with_reducible refine ev_dat (d := ?d) ?h); (case h => exact rfl))
  | (with_reducible exact ea_d0)
  | ((with_reducible refine ea_d (d := ?d) (ds := ?ds) ?h1 ?h2); (case h1 => walk_at "ev"); (case h2 => walk_at "ev"))
  | ((with_reducible refine ev_op (da := ?da) (db := ?db) (dc := ?dc) ?h1 ?h2 ?h3); (case h1 => walk_at "ev"); (case h2 => walk_at "ev"); (case h3 => walk_at "rr"))
  | ((with_reducible refine ev_tup (ds := ?ds) ?h1 ?h2); (case h1 => walk_at "ev"); (case h2 => exact Nat.le_of_ble_eq_true rfl))
  | ((with_reducible refine et_b (b := ?b) ?h1); (case h1 => walk_at "ev")))

/-! ### the script -/
def scrA (K : PySem.W.Frag) (a : Addr) (ns : List Int) : Atom where
  I F H := (∀ b, F b → b = a) ∧ SqL K H a (ns.map V.int) ∧ ((∀ b, ¬ F b) → ∃ (o : Obj) (its : Array Value) (n : Nat), K.lookup a = some o ∧ o.cls = .type "list" ∧ o.dict = none ∧ o.data = .seq its n ∧ its.size ≤ sizeLine ∧ Vals (ns.map V.int) its.toList) ∧ (F a → Rd H a (.lst (ns.map V.int)))
  out F H H1 h k t := by
    obtain ⟨h1, h2, h3, h4⟩ := h
    have rd : F a → Rd H1 a (.lst (ns.map V.int)) := fun f => by
      have := h4 f
      unfold Rd at this ⊢
      rw [k a f]
      exact this
    refine ⟨h1, ?_, h3, rd⟩
    by_cases f : F a
    · exact .inl (rd f)
    · exact .inr (h3 fun b z => f (by rw [← h1 b z]; exact z))
  dom F H b h hb := by
    obtain ⟨h1, h2, h3, h4⟩ := h
    have e := h1 b hb
    subst e
    rcases h4 hb with q | ⟨o, q⟩
    · rw [q]
      exact ⟨fun z => (by cases z), fun xs z => (by cases z)⟩
    · rw [q]
      exact ⟨fun z => (by cases z), fun xs z => (by cases z)⟩
section
variable {J J0 : List Atom} {δ : SE} {te tv tk ta tb tl ti : TE} {t : TA} {u tb2 : TS} {K : PySem.W.Frag} {O : Outs} {g : TG} {tt : TT} {th to1 : TO} {a : Addr} {ns : List Int}
theorem scr_sq {F0 : AS} {H0 H : Hp} {τd : List Sl} {σ : L2.St} {τ : List V} (S : Sta J F0 H0 δ τd σ τ H) (m : scrA K a ns ∈ J) : SqL K H a (ns.map V.int) := by
  obtain ⟨F1, _, h, _⟩ := S.atom m
  exact h
/-- for x in script -/
theorem sg_forS {Iv : Nat → SE → Prop} (ho : EvV J tl δ (.ref a)) (m : scrA K a ns ∈ J) (h0 : Iv 0 δ) (hs : ∀ (i : Nat) (n : Int) (δ1 : SE), Iv i δ1 → ∃ δ2, EvTg g (.dat (.int n)) δ1 δ2 ∧ SG J tb2 δ2 ⟨fun J1 δ3 => J1 = J ∧ Iv (i + 1) δ3, O.rt, O.nx⟩)
    (hd : ∀ δ1, Iv ns.length δ1 → O.nx J δ1) : SG J (tFor (iList K tl) g tb2) δ O := fun F0 H0 τd σ τ H D S b c d =>
  ho _ _ _ _ _ _ _ S fun J1 s v H1 ⟨e, es⟩ S1 => by
    subst e es
    obtain ⟨F, _, _, ev⟩ := S1.top
    have ev : v = .ref a := ev
    subst ev
    refine ⟨a, rfl, ⟨_, scr_sq S1 m⟩, for_list (K := K) (a := a) (xs := ns.map V.int) (fun i σ' H' => ∃ δ2, Iv i δ2 ∧ Sta J1 F0 H0 δ2 τd σ' τ H') ⟨δ, h0, S1.pop⟩ (fun i σ' H' _ ⟨_, _, S3⟩ => scr_sq S3 m) ?_ ?_⟩
    · rintro i y σ' H' hi ⟨δ2, iv, S3⟩
      rw [List.getElem?_map] at hi
      cases hk : ns[i]? with
      | none => rw [hk] at hi; cases hi
      | some n =>
        rw [hk] at hi
        have ey : y = .int n := (Option.some.inj hi).symm
        subst ey
        obtain ⟨δ3, htg, hsg⟩ := hs i n δ2 iv
        refine htg J1 F0 H0 _ σ' _ (.int n) H' _ (S3.flat (d := .int n) rfl) fun σ2 S4 => ?_
        exact hsg F0 H0 _ σ2 _ H' _ S4 (fun J3 δ4 σ3 H3 ⟨e, n⟩ S5 => ⟨δ4, n, by subst e; exact S5⟩) (fun J3 s v δ4 σ3 H3 r S5 => c J3 s v δ4 σ3 H3 r S5) fun J3 δ4 σ3 H3 n S5 => b J3 δ4 σ3 H3 n S5
    · rintro σ' H' ⟨δ2, iv, S3⟩
      rw [List.length_map] at iv
      exact b J1 δ2 σ' H' (hd _ iv) S3
theorem Sta.grow {A A' : Atom} {p : Addr} {o : HO} {F0 : AS} {H0 H : Hp} {τd : List Sl} {σ : L2.St} {τ : List V} (S : Sta (A :: J) F0 H0 δ τd σ τ H) (hp : H p = none) (hA : ∀ F1, A.I F1 H → A'.I (fun b => b = p ∨ F1 b) (upd H p o)) : Sta (A' :: J) F0 H0 δ τd σ τ (upd H p o) := by
  obtain ⟨F, x, ⟨F1, F2, e, dj, h1, h2⟩, d, t⟩ := S.ex
  have ext : Ext H (upd H p o) := Ext.new hp
  have f : Fr F H (fun b => b = p ∨ F b) (upd H p o) := ⟨fun b ob hb _ => ext b ob hb, fun b hb nb z => z.elim (fun q => hb (by rw [q]; exact hp)) nb, ext.tk⟩
  refine ⟨_, x.trans f, ⟨fun b => b = p ∨ F1 b, F2, fun b => ?_, fun b hb hf => ?_, hA F1 h1, h2.ext ext⟩, d.fr f, t.fr f⟩
  · show (b = p ∨ F b) ↔ (b = p ∨ F1 b) ∨ F2 b
    rw [e b]
    exact ⟨fun z => z.elim (fun z => .inl (.inl z)) fun z => z.elim (fun z => .inl (.inr z)) .inr, fun z => z.elim (fun z => z.elim .inl fun z => .inr (.inl z)) fun z => .inr (.inr z)⟩
  · rcases hb with hb | hb
    · rw [hb] at hf
      exact (h2.dom hf).1 hp
    · exact dj b hb hf
/-- [list(script), 0, 0, z] -/
theorem ev_newS {z : Int} (ho : EvV J tl δ (.ref a)) (m : scrA K a ns ∈ J) (hz : ∀ A, EvD (A :: J) te δ (.int z)) : EvG J (tLst (tCons (tCB (rListC K) (tCons tl tNil)) (tCons (tC (.int 0)) (tCons (tC (.int 0)) (tCons te tNil))))) δ fun J1 s => ∃ l, J1 = strA l :: J ∧ s = .val (.ref l) := fun F0 H0 τd σ τ H Q S k =>
  ho _ _ _ _ _ _ _ S fun J1 s v H1 ⟨e, es⟩ S1 => by
    subst e es
    obtain ⟨F, _, _, ev⟩ := S1.top
    have ev : v = .ref a := ev
    subst ev
    refine ⟨a, ns.map V.int, rfl, .inl (scr_sq S1 m), fun c hc => ?_⟩
    have S2 : Sta (lstA c (ns.map Dt.int) :: J1) F0 H0 δ τd σ τ (upd H1 c (.lst (ns.map V.int))) := S1.pop.newA hc (IsDs.of_ints _)
    show te _ _ _
    refine hz _ _ _ _ _ _ _ _ S2 fun J2 s2 v2 H2 ⟨e2, d3, es2, ed2⟩ S5 => ?_
    subst e2 es2 ed2
    have ev2 : v2 = .int z := S5.dat
    subst ev2
    refine ⟨by show 4 ≤ sizeLine; decide, fun p hp => ?_⟩
    refine k _ (.val (.ref p)) (.ref p) _ ⟨p, rfl, rfl⟩ ?_
    refine Sta.push (S5.pop.grow (A' := strA p) hp fun F1 ⟨ef, vs, hl, hs⟩ => ?_) fun F _ _ _ _ => rfl
    have ev : vs = ns.map V.int := hs.ints
    subst ev
    have hpc : ¬ p = c := fun z => by rw [z, hl] at hp; cases hp
    refine ⟨c, ns, 0, 0, z, Int.le_refl 0, fun b => ?_, hpc, upd_same, by rw [upd_ne fun z => hpc z.symm]; exact hl⟩
    show b = p ∨ F1 b ↔ _
    rw [ef b]
theorem sg_asgQ {i : Nat} {P : Dt → Prop} (h : EvQ J te δ P) (k : ∀ d, P d → O.nx J (δ.set i (some (.dat d)))) : SG J (tAsg te (gName i)) δ O := sg_asgG h fun J1 s ⟨e, d, es, p⟩ => by rw [e, es]; exact k d p
theorem ev_catLX {P P' : List Dt → Prop} (ha : EvP J ta δ fun s => ∃ ds, s = .lst ds ∧ P ds) (hb : EvP J tb δ fun s => ∃ ds, s = .lst ds ∧ P' ds) (hz : ∀ ds es, P ds → P' es → ds.length + es.length ≤ 100000) : EvP J (tOp rCat ta tb) δ fun s => ∃ ds, s = .lst ds ∧ ∃ a b, ds = a ++ b ∧ P a ∧ P' b := fun F0 H0 τd σ τ H Q S k => ha _ _ _ _ _ _ _ S fun J1 s v H1 ⟨e, ds, es1, p⟩ S1 => by
  subst e es1
  refine hb _ _ _ _ _ _ _ S1 fun J2 s2 v2 H2 ⟨e2, es, es2, p2⟩ S2 => ?_
  subst e2 es2
  obtain ⟨l, vs, rfl, hl, hs⟩ := S2.pop.lst
  obtain ⟨l2, vs2, rfl, hl2, hs2⟩ := S2.lst
  exact ⟨l, l2, vs, vs2, rfl, rfl, hl, hl2, by rw [hs.length, hs2.length]; exact Nat.le_trans (hz _ _ p p2) (by decide), fun p3 hp => k J2 _ _ _ ⟨rfl, _, rfl, _, _, rfl, p, p2⟩ (S2.pop.pop.newLst hp (hs.append hs2))⟩
theorem at_in {α : Type} {f : α → Dt} {l : List α} {i : Int} (h0 : 0 ≤ i) (h1 : i < l.length) : ∃ x ∈ l, atI (l.map f) i = some (f x) := by
  obtain ⟨n, rfl⟩ : ∃ n : Nat, i = n := ⟨i.toNat, by omega⟩
  have hn : n < l.length := by omega
  exact ⟨l[n], List.getElem_mem hn, at_map (List.getElem?_eq_getElem hn)⟩
end
section
variable {P : Program} {w : World} {K : PySem.W.Frag} {mg : Str → Option Value} {base : Heap} {f : Addr} {fd : FuncData}
theorem scFstream : FnScope ["_law_script", "_law_mixed", "_law_cell"] ["_law_script"] (defScope sFstream) := ⟨rfl, rfl, rfl, by decide +kernel, rfl, by decide +kernel, by decide +kernel⟩
def strmP (K : PySem.W.Frag) : List Atom → List Sl → JO → Prop := fun J ss R => ∃ a ns, scrA K a ns ∈ J ∧ ss = [.val (.ref a)] ∧ R = fun J1 s => ∃ l, J1 = strA l :: J ∧ s = .val (.ref l)
theorem ok_stream (F : FunP K "_law_stream" sFstream f fd) (T : Txt K mg) : FnOk P w K mg base CX0 1 f fd ["_law_script"] (spG (strmP K)) := by
  have sc := scFstream
  refine fn_sg F sc (fun J ss R h => ?_) (fun cdv A outer s H E hr => ⟨_, (pss_cons (ps_set (i := 1) sc.nd rfl (.inl rfl) pe_int)
    (pss_cons (ps_for PassesOwn.never rfl (pi_list (pv 0)) (pg_name (i := 2) sc.nd rfl (.inl rfl)) (pss_one (ps_set (i := 1) sc.nd rfl (.inl rfl) (pe_op op_modN (pe_callTy call_int1 (by rfl) T.n_int (by decide +kernel) (pa_cons (pe_op op_add (pe_op op_add (pe_op op_mul (pv 1) pe_int) (pe_op op_modN (pe_callTy call_int1 (by rfl) T.n_int (by decide +kernel) (pa_cons (pv 2) pa_nil)) pe_int)) pe_int) pa_nil)) pe_int))))
    (pss_one (ps_ret (pe_lst (pa_cons (pe_callTy call_list_of (by rfl) T.n_list (by decide +kernel) (pa_cons (pv 0) pa_nil)) (pa_cons pe_int (pa_cons pe_int (pa_cons (pv 1) pa_nil))))))))), fun J ss R h => ?_⟩)
  · obtain ⟨a, ns, hm, rfl, rfl⟩ := h
    rfl
  · obtain ⟨a, ns, hm, rfl, rfl⟩ := h
    refine sg_letD ev_int ?_
    refine sg_seq (N := fun J1 δ1 => J1 = J ∧ ∃ z c, δ1 = [some (.val (.ref a)), some (.dat (.int z)), c]) ?_ ?_
    · refine sg_forS (Iv := fun i δ1 => ∃ z c, δ1 = [some (.val (.ref a)), some (.dat (.int z)), c]) (slf 0) hm ⟨_, _, rfl⟩ ?_ fun δ1 h => ⟨rfl, h⟩
      rintro i n δ1 ⟨z, c, rfl⟩
      refine ⟨_, tg_name, sg_asgQ (ev_op (ev_intI (ev_op (ev_op (ev_op (ev_dat (d := .int z) rfl) ev_int (rr_CI (.inr ⟨by decide, by decide⟩))) (ev_op (ev_intI (ev_dat (d := .int n) rfl)) ev_int (rr_modN (by decide))) rr_II) ev_int rr_II)) ev_int (rr_modN (by decide))) fun d hd => by subst hd; exact ⟨rfl, _, _, rfl⟩⟩
    · rintro J1 δ1 ⟨rfl, z, c, rfl⟩
      exact sg_retG (ev_newS (slf 0) hm fun A => ev_dat rfl) fun J1 s h => h
def foldS : List Str := ["add", "min", "max", "and", "or", "xor"]
def binS : List Str := ["add", "sub", "mul", "div", "rem", "and", "or", "xor", "shl", "shr", "lt", "le", "eq", "ne", "min", "max"]
def spcS : List Str := ["tid", "bid", "dim", "grid"]
def unS : List Str := ["neg", "not", "zero"]
theorem scFinstruction : FnScope ["_law_stream_here", "_law_count", "_law_arrays", "_law_ints", "_law_d", "_law_r", "_law_s", "_law_array", "_law_folds", "_law_binary", "_law_op", "_law_pick", "_law_wait", "_law_k"] ["_law_stream_here", "_law_count", "_law_arrays", "_law_ints"] (defScope sFinstruction) := ⟨rfl, rfl, rfl, by decide +kernel, rfl, by decide +kernel, by decide +kernel⟩
/-- a row without targets -/
def insD (na : Nat) (d : Dt) : Prop := ∃ i : Ins, d = i.toD ∧ ∀ N nl, i.Ok N nl na
def gInstr (as : List Sl) (Po : Dt → Prop) : Prop := ∃ (ar : List Int) (ns : List Nat) (na : Nat), ar.length ≤ 20 ∧ ns.length ≤ 20 ∧ (∀ n ∈ ns, n < na) ∧ as = [.dat (.int 8), .lst (ar.map Dt.int), .lst (ns.map fun n => Dt.int (n : Nat))] ∧ Po = insD na
theorem ok_instr (F : FunP K "_law_instruction" sFinstruction f fd) (T : Txt K mg) (c_Fdraw : Cal P w K mg base 1 "_law_draw" ["_law_stream_here", "_law_many"] (spG drawP)) : FnOk P w K mg base CX0 2 f fd ["_law_stream_here", "_law_count", "_law_arrays", "_law_ints"] (spG (genP gInstr)) := by
  have sc := scFinstruction
  refine fn_sg F sc (fun J ss R h => ?_) (fun cdv A outer s H E hr => ⟨_, (pss_cons (ps_asg (pe_lc (own := [("_law_k", 13)]) (g := gName 13) (tt := tYes) (by rfl) sc.nd (pi_range1 (by rfl) T.n_range (pa_cons pe_int pa_nil)) (blkOk_by (own := [("_law_k", 13)]) (N := ["_law_stream_here", "_law_count", "_law_arrays", "_law_ints", "_law_d", "_law_r", "_law_s", "_law_array", "_law_folds", "_law_binary", "_law_op", "_law_pick", "_law_wait", "_law_k"]) (sc := defScope sFinstruction) (by decide +kernel)) (fun _ _ _ _ _ => pg_name (i := 13) sc.nd rfl (Or.inl rfl)) (fun _ _ _ _ _ => pts_nil) (fun _ _ _ _ _ => by apply pe_at; (exact (pe_call c_Fdraw.ok (hr.mono (by decide)) (by rfl) c_Fdraw.hm c_Fdraw.hk c_Fdraw.hb .nil pass0 (pa_cons (pv 0) (pa_cons (pv 1) pa_nil)))); (try dsimp only [Cx.blk]); try exact rfl)) (pg_unl (by rfl) (pgs_cons (pg_name (i := 4) sc.nd rfl (.inl rfl)) (pgs_cons (pg_name (i := 5) sc.nd rfl (.inl rfl)) (pgs_cons (pg_name (i := 6) sc.nd rfl (.inl rfl)) pgs_nil)))))
    (pss_cons (ps_set (i := 7) sc.nd rfl (.inl rfl) (pe_ix ix_list (pe_op op_cat (pv 2) (pe_lst (pa_cons pe_int pa_nil))) (pe_call c_Fdraw.ok (hr.mono (by decide)) (by rfl) c_Fdraw.hm c_Fdraw.hk c_Fdraw.hb .nil pass0 (pa_cons (pv 0) (pa_cons (pe_callB (call_max2 rfl) (by rfl) T.n_max (by decide +kernel) (pa_cons pe_int (pa_cons (pe_callB call_len_seq (by rfl) T.n_len (by decide +kernel) (pa_cons (pv 2) pa_nil)) pa_nil))) pa_nil))) (fun _ _ => rfl)))
    (pss_cons (ps_set (i := 8) sc.nd rfl (.inl rfl) (pe_lst (pa_cons pe_str (pa_cons pe_str (pa_cons pe_str (pa_cons pe_str (pa_cons pe_str (pa_cons pe_str pa_nil))))))))
    (pss_cons (ps_set (i := 9) sc.nd rfl (.inl rfl) (pe_lst (pa_cons pe_str (pa_cons pe_str (pa_cons pe_str (pa_cons pe_str (pa_cons pe_str (pa_cons pe_str (pa_cons pe_str (pa_cons pe_str (pa_cons pe_str (pa_cons pe_str (pa_cons pe_str (pa_cons pe_str (pa_cons pe_str (pa_cons pe_str (pa_cons pe_str (pa_cons pe_str pa_nil))))))))))))))))))
    (pss_cons (ps_set (i := 10) sc.nd rfl (.inl rfl) (pe_ix ix_list (pv 8) (pe_call c_Fdraw.ok (hr.mono (by decide)) (by rfl) c_Fdraw.hm c_Fdraw.hk c_Fdraw.hb .nil pass0 (pa_cons (pv 0) (pa_cons pe_int pa_nil))) (fun _ _ => rfl)))
    (pss_cons (ps_set (i := 11) sc.nd rfl (.inl rfl) (pe_call c_Fdraw.ok (hr.mono (by decide)) (by rfl) c_Fdraw.hm c_Fdraw.hk c_Fdraw.hb .nil pass0 (pa_cons (pv 0) (pa_cons pe_int pa_nil))))
    (pss_cons (ps_if (pt_cmpR op_eq (pv 11) pe_int (nomark _)) (pss_one (ps_ret (pe_tup (pa_cons pe_str (pa_cons (pv 4) (pa_cons (pe_ix ix_list (pe_lst (pa_cons (pe_op op_sub (pe_call c_Fdraw.ok (hr.mono (by decide)) (by rfl) c_Fdraw.hm c_Fdraw.hk c_Fdraw.hb .nil pass0 (pa_cons (pv 0) (pa_cons pe_int pa_nil))) pe_int) (pa_cons (pe_call c_Fdraw.ok (hr.mono (by decide)) (by rfl) c_Fdraw.hm c_Fdraw.hk c_Fdraw.hb .nil pass0 (pa_cons (pv 0) (pa_cons pe_int pa_nil))) pa_nil))) (pe_call c_Fdraw.ok (hr.mono (by decide)) (by rfl) c_Fdraw.hm c_Fdraw.hk c_Fdraw.hb .nil pass0 (pa_cons (pv 0) (pa_cons pe_int pa_nil))) (fun _ _ => rfl)) pa_nil)))))) pss_nil)
    (pss_cons (ps_if (PW.pt (pw_and (pt_cmpR op_eq (pv 11) pe_int (nomark _)) (pw_and1 (pt_truth (pv 3) (by intro _; rfl))))) (pss_one (ps_ret (pe_tup (pa_cons pe_str (pa_cons (pv 4) (pa_cons (pe_ix ix_list (pv 3) (pe_call c_Fdraw.ok (hr.mono (by decide)) (by rfl) c_Fdraw.hm c_Fdraw.hk c_Fdraw.hb .nil pass0 (pa_cons (pv 0) (pa_cons (pe_callB call_len_seq (by rfl) T.n_len (by decide +kernel) (pa_cons (pv 3) pa_nil)) pa_nil))) (fun _ _ => rfl)) pa_nil)))))) pss_nil)
    (pss_cons (ps_if (pt_cmpR op_lt (pv 11) pe_int (nomark _)) (pss_one (ps_ret (pe_tup (pa_cons pe_str (pa_cons (pv 4) (pa_cons (pe_ix ix_list (pe_lst (pa_cons pe_str (pa_cons pe_str (pa_cons pe_str (pa_cons pe_str pa_nil))))) (pe_call c_Fdraw.ok (hr.mono (by decide)) (by rfl) c_Fdraw.hm c_Fdraw.hk c_Fdraw.hb .nil pass0 (pa_cons (pv 0) (pa_cons pe_int pa_nil))) (fun _ _ => rfl)) pa_nil)))))) pss_nil)
    (pss_cons (ps_if (pt_cmpR op_eq (pv 11) pe_int (nomark _)) (pss_one (ps_ret (pe_tup (pa_cons pe_str (pa_cons (pv 4) (pa_cons (pv 5) pa_nil)))))) pss_nil)
    (pss_cons (ps_if (pt_cmpR op_eq (pv 11) pe_int (nomark _)) (pss_one (ps_ret (pe_tup (pa_cons pe_str (pa_cons (pe_ix ix_list (pe_lst (pa_cons pe_str (pa_cons pe_str (pa_cons pe_str pa_nil)))) (pe_call c_Fdraw.ok (hr.mono (by decide)) (by rfl) c_Fdraw.hm c_Fdraw.hk c_Fdraw.hb .nil pass0 (pa_cons (pv 0) (pa_cons pe_int pa_nil))) (fun _ _ => rfl)) (pa_cons (pv 4) (pa_cons (pv 5) pa_nil))))))) pss_nil)
    (pss_cons (ps_if (pt_cmpR op_lt (pv 11) pe_int (nomark _)) (pss_one (ps_ret (pe_tup (pa_cons pe_str (pa_cons (pe_ix ix_list (pv 9) (pe_call c_Fdraw.ok (hr.mono (by decide)) (by rfl) c_Fdraw.hm c_Fdraw.hk c_Fdraw.hb .nil pass0 (pa_cons (pv 0) (pa_cons pe_int pa_nil))) (fun _ _ => rfl)) (pa_cons (pv 4) (pa_cons (pv 5) (pa_cons (pv 6) pa_nil)))))))) pss_nil)
    (pss_cons (ps_if (PW.pt (pw_and (pt_cmpR op_lt (pv 11) pe_int (nomark _)) (pw_and1 (pt_not (pt_truth (pv 2) (by intro _; rfl)))))) (pss_one (ps_ret (pe_tup (pa_cons pe_str (pa_cons (pv 4) (pa_cons (pv 6) pa_nil)))))) pss_nil)
    (pss_cons (ps_if (pt_cmpR op_lt (pv 11) pe_int (nomark _)) (pss_one (ps_ret (pe_tup (pa_cons pe_str (pa_cons (pv 4) (pa_cons (pv 7) (pa_cons (pv 5) pa_nil))))))) pss_nil)
    (pss_cons (ps_if (pt_cmpR op_lt (pv 11) pe_int (nomark _)) (pss_one (ps_ret (pe_tup (pa_cons pe_str (pa_cons (pv 7) (pa_cons (pv 5) (pa_cons (pv 6) pa_nil))))))) pss_nil)
    (pss_cons (ps_if (pt_cmpR op_eq (pv 11) pe_int (nomark _)) (pss_one (ps_ret (pe_tup (pa_cons pe_str (pa_cons (pv 10) (pa_cons (pv 7) (pa_cons (pv 5) (pa_cons (pv 6) pa_nil)))))))) pss_nil)
    (pss_cons (ps_set (i := 12) sc.nd rfl (.inl rfl) (pe_op op_add pe_int (pe_call c_Fdraw.ok (hr.mono (by decide)) (by rfl) c_Fdraw.hm c_Fdraw.hk c_Fdraw.hb .nil pass0 (pa_cons (pv 0) (pa_cons pe_int pa_nil)))))
    (pss_one (ps_ret (pe_ix ix_list (pe_lst (pa_cons (pe_tup (pa_cons pe_str (pa_cons (pv 12) pa_nil))) (pa_cons (pe_tup (pa_cons pe_str (pa_cons (pv 10) (pa_cons (pv 4) (pa_cons (pv 5) (pa_cons (pv 12) pa_nil)))))) pa_nil))) (pe_call c_Fdraw.ok (hr.mono (by decide)) (by rfl) c_Fdraw.hm c_Fdraw.hk c_Fdraw.hb .nil pass0 (pa_cons (pv 0) (pa_cons pe_int pa_nil))) (fun _ _ => rfl))))))))))))))))))))), fun J ss R h => ?_⟩)
  · obtain ⟨l, as, Po, hm, rfl, ⟨ar, ns, na, h1, h2, h3, rfl, rfl⟩, rfl⟩ := h
    rfl
  · obtain ⟨l, as, Po, hm, rfl, ⟨ar, ns, na, h1, h2, h3, rfl, rfl⟩, rfl⟩ := h
    refine sg_letTG (P := fun J1 s => J1 = J ∧ ∃ es, s = .lst es ∧ es.length = 3 ∧ ∀ e ∈ es, ∃ n : Nat, e = .int n ∧ n < 8) ?_ fun J1 s ⟨e1, es, e2, hl, hall⟩ => ?_
    · refine ev_lcR (n := 3) (Ac := fun i acc => acc.length = i ∧ ∀ e ∈ acc, ∃ n : Nat, e = .int n ∧ n < 8) (Pb := fun _ b => b = true) (Pe := fun _ e => ∃ n : Nat, e = .int n ∧ n < 8) (ea_d ev_int ea_d0) (by decide) ⟨rfl, fun e he => by cases he⟩ (fun A i hi => et_yes) (fun A i hi _ => ?_) (fun i acc hi hb => by cases hb) fun i acc e hi _ pe ⟨a1, a2⟩ => ⟨by rw [List.length_append, a1]; rfl, fun x hx => (List.mem_append.mp hx).elim (a2 x) fun hx => by rw [List.mem_singleton.mp hx]; exact pe⟩
      exact EvQ.imp (ev_draw (slf 0) (List.mem_cons_of_mem _ hm) (ev_dat (d := .int 8) rfl) (by decide) (by decide)) fun d ⟨n, e, h0, h8⟩ => ⟨n.toNat, by rw [e, show ((n.toNat : Nat) : Int) = n by omega], by omega⟩
    obtain ⟨d, r, s3, rfl, hd, hr8, hs8⟩ : ∃ d r s : Nat, es = [Dt.int d, .int r, .int s] ∧ d < 8 ∧ r < 8 ∧ s < 8 := by
      match es, hl with
      | [x, y, z], _ =>
        obtain ⟨d, rfl, hd⟩ := hall x (by simp)
        obtain ⟨r, rfl, hr⟩ := hall y (by simp)
        obtain ⟨s, rfl, hs⟩ := hall z (by simp)
        exact ⟨d, r, s, rfl, hd, hr, hs⟩
    subst e1 e2
    refine ⟨_, tg_unl (ds := [Dt.int d, .int r, .int s3]) (tgs_cons tg_name (tgs_cons tg_name (tgs_cons tg_name tgs_nil))) rfl, ?_⟩
    refine sg_letQ (P := fun d => ∃ n, d = .int n) (ev_ixL (ds := ar.map Dt.int ++ [.int 0]) (ev_catL (ev_lst rfl) (ev_lstD (ea_d ev_int ea_d0)) (by rw [List.length_map]; show ar.length + 1 ≤ _; omega)) (ev_draw (slf 0) hm (ev_max2 (a := 1) (b := ar.length) ev_int (ev_is (ev_lenL (ev_lst rfl)) (by rw [List.length_map]))) (by split <;> omega) (by split <;> omega)) fun i hi => ?_) fun dd ⟨n, e⟩ => ?_
    · obtain ⟨x, _, hx⟩ := at_in (f := Dt.int) (l := ar ++ [0]) hi.1 (by rw [List.length_append]; show i < ((ar.length + 1 : Nat) : Int); have := hi.2; split at this <;> omega)
      rw [List.map_append] at hx
      exact ⟨_, hx, x, rfl⟩
    subst e
    refine sg_letL (ds := foldS.map Dt.str) (ev_lstD (ea_d ev_str (ea_d ev_str (ea_d ev_str (ea_d ev_str (ea_d ev_str (ea_d ev_str ea_d0))))))) ?_
    refine sg_letL (ds := binS.map Dt.str) (ev_lstD (ea_d ev_str (ea_d ev_str (ea_d ev_str (ea_d ev_str (ea_d ev_str (ea_d ev_str (ea_d ev_str (ea_d ev_str (ea_d ev_str (ea_d ev_str (ea_d ev_str (ea_d ev_str (ea_d ev_str (ea_d ev_str (ea_d ev_str (ea_d ev_str ea_d0))))))))))))))))) ?_
    have ixS : ∀ {J : List Atom} {δ : SE} {ta : TE} {E : XK} {l : Addr} {K : PySem.W.Frag} (ss : List Str), EvL J ta δ (ss.map Dt.str) → δ[0]? = some (some (.val (.ref l))) → strA l ∈ J → ss ≠ [] → ss.length ≤ 100 → EvQ J (tOp (rIxL K) ta (tCall (spG drawP) [] E (tCons (tVar 0) (tCons (tC (.int ss.length)) tNil)))) δ fun d => ∃ s, d = .str s := fun ss ha h0 hm hne hz =>
      ev_ixL ha (ev_draw (slf 0 h0) hm ev_int (by have := Nat.pos_of_ne_zero fun z => hne (List.eq_nil_of_length_eq_zero z); omega) (by omega)) fun i hi => by
        obtain ⟨x, _, hx⟩ := at_in (f := Dt.str) (l := ss) hi.1 hi.2
        exact ⟨_, hx, x, rfl⟩
    refine sg_letQ (ixS foldS (ev_lst rfl) rfl hm (List.cons_ne_nil _ _) (by decide)) fun dd ⟨op, e⟩ => ?_
    subst e
    refine sg_letI (ev_draw (slf 0) hm ev_int (by decide) (by decide)) fun pick hpk => ?_
    refine sg_when (et_b (ev_op (ev_dat (d := .int pick) rfl) ev_int rr_eqI)) (fun _ => ?_) fun _ => ?_
    · refine sg_retQ (ev_tupX (ea_q ev_str (ea_q (ev_dat (d := .int d) rfl) (ea_q (P := fun e => ∃ n, e = .int n ∧ Wd n) (ev_ixLX (PL := fun ds => ∃ a b, ds = [.int a, .int b] ∧ Wd a ∧ Wd b) (EvG.imp (ev_lstX (ea_q (P := fun e => ∃ n, e = .int n ∧ Wd n) (ev_opI (f := fun i j => i - j) (Pb := fun i => i = 3) (Pc := Wd) (ev_draw (slf 0) hm ev_int (by decide) (by decide)) (ev_int.toI rfl) fun a b ha hb => ⟨⟨by omega, by omega⟩, rr_II⟩) (ea_q (ev_draw (slf 0) hm ev_int (by decide) (by decide)) ea_q0)) ?_) ?_) (ev_draw (slf 0) hm ev_int (by decide) (by decide)) ?_) ea_q0))) ?_) fun e he => ?_
      · rintro ds ⟨_, _, rfl, _, _, _, rfl, _, rfl⟩
        exact Nat.le_of_ble_eq_true rfl
      · rintro J1 s ⟨e1, ds, e2, _, _, rfl, ⟨a, rfl, ha⟩, _, _, rfl, ⟨b, rfl, hb⟩, rfl⟩
        exact ⟨e1, _, e2, a, b, rfl, ha, by omega, by omega⟩
      · rintro ds i ⟨a, b, rfl, ha, hb⟩ hi
        obtain ⟨x, hx, hx2⟩ := at_in (f := Dt.int) (l := [a, b]) hi.1 hi.2
        refine ⟨_, hx2, x, rfl, ?_⟩
        simp only [List.mem_cons, List.not_mem_nil, or_false] at hx
        rcases hx with h | h <;> rw [h]
        · exact ha
        · exact hb
      · rintro ds ⟨_, _, rfl, _, _, _, rfl, _, _, _, rfl, _, rfl⟩
        exact Nat.le_of_ble_eq_true rfl
      · obtain ⟨_, rfl, _, _, rfl, rfl, _, _, rfl, rfl, _, _, rfl, ⟨n, rfl, hn⟩, rfl⟩ := he
        exact ⟨List.Perm.refl _, _, rfl, .word d n, rfl, fun _ _ => ⟨hd, hn⟩⟩
    refine sg_when (et_andB (et_b (ev_op (ev_dat (d := .int pick) rfl) ev_int rr_eqI)) fun _ => et_truL (ev_lst rfl)) (fun e => ?_) fun _ => ?_
    · have hne : ns ≠ [] := fun z => by
        rw [z, Bool.and_eq_true] at e
        cases e.2
      have hpos : 0 < ns.length := Nat.pos_of_ne_zero fun z => hne (List.eq_nil_of_length_eq_zero z)
      refine sg_retQ (ev_tupX (ea_q ev_str (ea_q (ev_dat (d := .int d) rfl) (ea_q (P := fun e => ∃ n : Nat, e = .int n ∧ n < na) (ev_ixL (ds := ns.map fun n => Dt.int (n : Nat)) (ev_lst rfl) (ev_draw (slf 0) hm (ev_is (ev_lenL (ev_lst rfl)) (by rw [List.length_map])) (by omega) (by omega)) fun i hi => ?_) ea_q0))) ?_) fun e he => ?_
      · obtain ⟨x, hx, hx2⟩ := at_in (f := fun n : Nat => Dt.int n) (l := ns) hi.1 hi.2
        exact ⟨_, hx2, x, rfl, h3 x hx⟩
      · rintro ds ⟨_, _, rfl, _, _, _, rfl, _, _, _, rfl, _, rfl⟩
        exact Nat.le_of_ble_eq_true rfl
      · obtain ⟨_, rfl, _, _, rfl, rfl, _, _, rfl, rfl, _, _, rfl, ⟨n, rfl, hn⟩, rfl⟩ := he
        exact ⟨List.Perm.refl _, _, rfl, .param d n, rfl, fun _ _ => ⟨hd, hn⟩⟩
    refine sg_when (et_b (ev_op (ev_dat (d := .int pick) rfl) ev_int rr_IB)) (fun _ => ?_) fun _ => ?_
    · refine sg_retQ (ev_tupX (ea_q ev_str (ea_q (ev_dat (d := .int d) rfl) (ea_q (ixS spcS (ev_lstD (ea_d ev_str (ea_d ev_str (ea_d ev_str (ea_d ev_str ea_d0))))) rfl hm (List.cons_ne_nil _ _) (by decide)) ea_q0))) ?_) fun e he => ?_
      · rintro ds ⟨_, _, rfl, _, _, _, rfl, _, _, _, rfl, _, rfl⟩
        exact Nat.le_of_ble_eq_true rfl
      · obtain ⟨_, rfl, _, _, rfl, rfl, _, _, rfl, rfl, _, _, rfl, ⟨n, rfl⟩, rfl⟩ := he
        exact ⟨List.Perm.refl _, _, rfl, .special d n, rfl, fun _ _ => hd⟩
    refine sg_when (et_b (ev_op (ev_dat (d := .int pick) rfl) ev_int rr_eqI)) (fun _ => ?_) fun _ => ?_
    · exact sg_retD (ev_tup (ea_d ev_str (ea_d (ev_dat rfl) (ea_d (ev_dat rfl) ea_d0)))) ⟨List.Perm.refl _, _, rfl, .copy d r, rfl, fun _ _ => ⟨hd, hr8⟩⟩
    refine sg_when (et_b (ev_op (ev_dat (d := .int pick) rfl) ev_int rr_eqI)) (fun _ => ?_) fun _ => ?_
    · refine sg_retQ (ev_tupX (ea_q ev_str (ea_q (ixS unS (ev_lstD (ea_d ev_str (ea_d ev_str (ea_d ev_str ea_d0)))) rfl hm (List.cons_ne_nil _ _) (by decide)) (ea_q (ev_dat (d := .int d) rfl) (ea_q (ev_dat (d := .int r) rfl) ea_q0)))) ?_) fun e he => ?_
      · rintro ds ⟨_, _, rfl, _, _, _, rfl, _, _, _, rfl, _, _, _, rfl, _, rfl⟩
        exact Nat.le_of_ble_eq_true rfl
      · obtain ⟨_, rfl, _, _, rfl, rfl, _, _, rfl, ⟨n, rfl⟩, _, _, rfl, rfl, _, _, rfl, rfl, rfl⟩ := he
        exact ⟨List.Perm.refl _, _, rfl, .unary n d r, rfl, fun _ _ => ⟨hd, hr8⟩⟩
    refine sg_when (et_b (ev_op (ev_dat (d := .int pick) rfl) ev_int rr_IB)) (fun _ => ?_) fun _ => ?_
    · refine sg_retQ (ev_tupX (ea_q ev_str (ea_q (ixS binS (ev_lst rfl) rfl hm (List.cons_ne_nil _ _) (by decide)) (ea_q (ev_dat (d := .int d) rfl) (ea_q (ev_dat (d := .int r) rfl) (ea_q (ev_dat (d := .int s3) rfl) ea_q0))))) ?_) fun e he => ?_
      · rintro ds ⟨_, _, rfl, _, _, _, rfl, _, _, _, rfl, _, _, _, rfl, _, _, _, rfl, _, rfl⟩
        exact Nat.le_of_ble_eq_true rfl
      · obtain ⟨_, rfl, _, _, rfl, rfl, _, _, rfl, ⟨n, rfl⟩, _, _, rfl, rfl, _, _, rfl, rfl, _, _, rfl, rfl, rfl⟩ := he
        exact ⟨List.Perm.refl _, _, rfl, .binary n d r s3, rfl, fun _ _ => ⟨hd, hr8, hs8⟩⟩
    refine sg_when (et_andB (et_b (ev_op (ev_dat (d := .int pick) rfl) ev_int rr_IB)) fun _ => et_notB (et_truL (ev_lst rfl))) (fun _ => ?_) fun _ => ?_
    · exact sg_retD (ev_tup (ea_d ev_str (ea_d (ev_dat rfl) (ea_d (ev_dat rfl) ea_d0)))) ⟨List.Perm.refl _, _, rfl, .copy d s3, rfl, fun _ _ => ⟨hd, hs8⟩⟩
    refine sg_when (et_b (ev_op (ev_dat (d := .int pick) rfl) ev_int rr_IB)) (fun _ => ?_) fun _ => ?_
    · exact sg_retD (ev_tup (ea_d ev_str (ea_d (ev_dat rfl) (ea_d (ev_dat rfl) (ea_d (ev_dat rfl) ea_d0))))) ⟨List.Perm.refl _, _, rfl, .load d n r, rfl, fun _ _ => ⟨hd, hr8⟩⟩
    refine sg_when (et_b (ev_op (ev_dat (d := .int pick) rfl) ev_int rr_IB)) (fun _ => ?_) fun _ => ?_
    · exact sg_retD (ev_tup (ea_d ev_str (ea_d (ev_dat rfl) (ea_d (ev_dat rfl) (ea_d (ev_dat rfl) ea_d0))))) ⟨List.Perm.refl _, _, rfl, .store n r s3, rfl, fun _ _ => ⟨hr8, hs8⟩⟩
    refine sg_when (et_b (ev_op (ev_dat (d := .int pick) rfl) ev_int rr_eqI)) (fun _ => ?_) fun _ => ?_
    · exact sg_retD (ev_tup (ea_d ev_str (ea_d (ev_dat rfl) (ea_d (ev_dat rfl) (ea_d (ev_dat rfl) (ea_d (ev_dat rfl) ea_d0)))))) ⟨List.Perm.refl _, _, rfl, .atomic op n r s3, rfl, fun _ _ => ⟨hr8, hs8⟩⟩
    refine sg_letI (P := fun _ => True) (ev_opI (f := fun i j => i + j) (Pa := fun i => True) (Pc := fun _ => True) (ev_int.toI trivial) (ev_draw (slf 0) hm ev_int (by decide) (by decide)) fun a b _ _ => ⟨trivial, rr_II⟩) fun wt _ => ?_
    refine sg_retQ (P := insD na) (ev_ixL (ds := [Ins.barrier wt, Ins.collect op d r wt].map Ins.toD) (ev_lstD (ea_d (ev_tup (ea_d ev_str (ea_d (ev_dat rfl) ea_d0))) (ea_d (ev_tup (ea_d ev_str (ea_d (ev_dat rfl) (ea_d (ev_dat rfl) (ea_d (ev_dat rfl) (ea_d (ev_dat rfl) ea_d0)))))) ea_d0))) (ev_draw (slf 0) hm ev_int (by decide) (by decide)) fun i hi => ?_) fun e he => ⟨List.Perm.refl _, e, rfl, he⟩
    obtain ⟨x, hx, hx2⟩ := at_in (f := Ins.toD) (l := [Ins.barrier wt, Ins.collect op d r wt]) hi.1 hi.2
    refine ⟨_, hx2, x, rfl, ?_⟩
    simp only [List.mem_cons, List.not_mem_nil, or_false] at hx
    rcases hx with h | h <;> rw [h]
    · exact fun _ _ => trivial
    · exact fun _ _ => ⟨hd, hr8⟩
end
end LK

namespace LK
open PySem PySem.Spec PyProof.Rows L2
local macro_rules | `(tactic| walk_at "rr") => `(tactic| first
  | (with_reducible exact rr_head)
  | ((with_reducible refine rr_ixT (d := ?d) ?h); (case h => exact rfl))
  | (with_reducible exact rr_eqS)
  | (with_reducible exact rr_eqI)
  | (with_reducible exact rr_neI)
  | (with_reducible exact rr_II)
  | (with_reducible exact rr_IB))
local macro_rules | `(tactic| walk_at "ev") => `(tactic| first
  | (with_reducible exact ev_int)
  | (with_reducible exact ev_str)
  | (with_reducible exact ev_non)
  | (with_reducible exact ev_bl)
  | ((with_reducible refine ev_dat (d := ?d) ?h); (case h => exact rfl))
  | (with_reducible exact ea_d0)
  | ((with_reducible refine ea_d (d := ?d) (ds := ?ds) ?h1 ?h2); (case h1 => walk_at "ev"); (case h2 => walk_at "ev"))
  | ((with_reducible refine ev_op (da := ?da) (db := ?db) (dc := ?dc) ?h1 ?h2 ?h3); (case h1 => walk_at "ev"); (case h2 => walk_at "ev"); (case h3 => walk_at "rr"))
  | ((with_reducible refine ev_tup (ds := ?ds) ?h1 ?h2); (case h1 => walk_at "ev"); (case h2 => exact Nat.le_of_ble_eq_true rfl))
  | ((with_reducible refine et_b (b := ?b) ?h1); (case h1 => walk_at "ev")))

def codeD (ps : List (Str × Str)) (sh : List Dt) (loc : Nat) (rs : List Ins) : Dt := .tup [.tup (ps.map pD), .tup sh, .int loc, .tup (rs.map Ins.toD)]
structure CodeOk (ps : List (Str × Str)) (sh : List Dt) (loc : Nat) (rs : List Ins) : Prop where
  psz : ps.length ≤ 12
  locz : loc ≤ 3
  few : rs.length ≤ 30
  pos : 0 < rs.length
  rows : ∀ (i : Nat) (x : Ins), rs[i]? = some x → x.Ok rs.length loc ps.length ∧ (i + 1 < rs.length ∨ x = .exit)
def codeQ (d : Dt) : Prop := ∃ ps sh loc rs, d = codeD ps sh loc rs ∧ CodeOk ps sh loc rs
theorem exit_toD : Ins.exit.toD = .tup [.str "exit"] := rfl
section
variable {P : Program} {w : World} {K : PySem.W.Frag} {mg : Str → Option Value} {base : Heap} {f : Addr} {fd : FuncData}
theorem scFcode : FnScope ["_law_stream_here", "_law_params_here", "_law_shared_here", "_law_local", "_law_arrays", "_law_ints", "_law_many", "_law_rows", "_law_at", "_law_pick", "_law_target", "_law_row"] ["_law_stream_here"] (defScope sFcode) := ⟨rfl, rfl, rfl, by decide +kernel, rfl, by decide +kernel, by decide +kernel⟩
def gCode (as : List Sl) (Po : Dt → Prop) : Prop := as = [] ∧ Po = codeQ
theorem ok_code (F : FunP K "_law_code" sFcode f fd) (T : Txt K mg) (c_Fdraw : Cal P w K mg base 1 "_law_draw" ["_law_stream_here", "_law_many"] (spG drawP)) (c_Fparams : Cal P w K mg base 2 "_law_params" ["_law_stream_here"] (spG (genP gParams)))
    (c_Fshared : Cal P w K mg base 2 "_law_shared" ["_law_stream_here"] (spG (genP gShared))) (c_Finstruction : Cal P w K mg base 2 "_law_instruction" ["_law_stream_here", "_law_count", "_law_arrays", "_law_ints"] (spG (genP gInstr))) :
    FnOk P w K mg base CX0 3 f fd ["_law_stream_here"] (spG (genP gCode)) := by
  have sc := scFcode
  refine fn_sg F sc (fun J ss R h => ?_) (fun cdv A outer s H E hr => ⟨_, (pss_cons (ps_set (i := 1) sc.nd rfl (.inr rfl) (pe_call c_Fparams.ok (hr.mono (by decide)) (by rfl) c_Fparams.hm c_Fparams.hk c_Fparams.hb .nil pass0 (pa_cons (pv 0) pa_nil)))
    (pss_cons (ps_set (i := 2) sc.nd rfl (.inl rfl) (pe_call c_Fshared.ok (hr.mono (by decide)) (by rfl) c_Fshared.hm c_Fshared.hk c_Fshared.hb .nil pass0 (pa_cons (pv 0) pa_nil)))
    (pss_cons (ps_set (i := 3) sc.nd rfl (.inl rfl) (pe_call c_Fdraw.ok (hr.mono (by decide)) (by rfl) c_Fdraw.hm c_Fdraw.hk c_Fdraw.hb .nil pass0 (pa_cons (pv 0) (pa_cons pe_int pa_nil))))
    (pss_cons (ps_set (i := 4) sc.nd rfl (.inl rfl) (pe_op op_cat (pe_lc (own := [("_law_at", 8)]) (g := gName 8) (tt := _) (by rfl) sc.nd (pi_range1 (by rfl) T.n_range (pa_cons (pe_callB call_len_seq (by rfl) T.n_len (by decide +kernel) (pa_cons (pv 1) pa_nil)) pa_nil)) (blkOk_by (own := [("_law_at", 8)]) (N := ["_law_stream_here", "_law_params_here", "_law_shared_here", "_law_local", "_law_arrays", "_law_ints", "_law_many", "_law_rows", "_law_at", "_law_pick", "_law_target", "_law_row"]) (sc := defScope sFcode) (by decide +kernel)) (fun _ _ _ _ _ => pg_name (i := 8) sc.nd rfl (Or.inl rfl)) (fun _ _ _ _ _ => by apply pts_at; (exact (pts_one (pt_cmpR op_eq (pe_ix ix_tup (pe_ix ix_tup (pv 1) (pv 8) (fun _ _ => rfl)) pe_int (fun _ _ => rfl)) pe_str (nomark _)))); (try dsimp only [Cx.blk]); try exact rfl) (fun _ _ _ _ _ => by apply pe_at; (exact (pv 8)); (try dsimp only [Cx.blk]); try exact rfl)) (pe_lc (own := [("_law_at", 8)]) (g := gName 8) (tt := tYes) (by rfl) sc.nd (pi_range1 (by rfl) T.n_range (pa_cons (pe_callB call_len_seq (by rfl) T.n_len (by decide +kernel) (pa_cons (pv 2) pa_nil)) pa_nil)) (blkOk_by (own := [("_law_at", 8)]) (N := ["_law_stream_here", "_law_params_here", "_law_shared_here", "_law_local", "_law_arrays", "_law_ints", "_law_many", "_law_rows", "_law_at", "_law_pick", "_law_target", "_law_row"]) (sc := defScope sFcode) (by decide +kernel)) (fun _ _ _ _ _ => pg_name (i := 8) sc.nd rfl (Or.inl rfl)) (fun _ _ _ _ _ => pts_nil) (fun _ _ _ _ _ => by apply pe_at; (exact (pe_op op_add pe_int (pv 8))); (try dsimp only [Cx.blk]); try exact rfl))))
    (pss_cons (ps_setLc (i := 5) (own := [("_law_at", 8)]) (g := gName 8) (tt := _) rfl sc.nd rfl rfl (sw_true rfl rfl rfl (by decide +kernel)) (pi_range1 (by rfl) T.n_range (pa_cons (pe_callB call_len_seq (by rfl) T.n_len (by decide +kernel) (pa_cons (pv 1) pa_nil)) pa_nil)) (blkOk_by (own := [("_law_at", 8)]) (N := ["_law_stream_here", "_law_params_here", "_law_shared_here", "_law_local", "_law_arrays", "_law_ints", "_law_many", "_law_rows", "_law_at", "_law_pick", "_law_target", "_law_row"]) (sc := defScope sFcode) (by decide +kernel)) (fun _ _ _ _ _ => pg_name (i := 8) sc.nd rfl (Or.inl rfl)) (fun _ _ _ _ _ => by apply pts_at; (exact (pts_one (pt_cmpR op_eq (pe_ix ix_tup (pe_ix ix_tup (pv 1) (pv 8) (fun _ _ => rfl)) pe_int (fun _ _ => rfl)) pe_str (nomark _)))); (try dsimp only [Cx.blk]); try exact rfl) (fun _ _ _ _ _ => by apply pe_at; (exact (pv 8)); (try dsimp only [Cx.blk]); try exact rfl))
    (pss_cons (ps_set (i := 6) sc.nd rfl (.inl rfl) (pe_op op_add pe_int (pe_call c_Fdraw.ok (hr.mono (by decide)) (by rfl) c_Fdraw.hm c_Fdraw.hk c_Fdraw.hb .nil pass0 (pa_cons (pv 0) (pa_cons pe_int pa_nil)))))
    (pss_cons (ps_set (i := 7) sc.nd rfl (.inl rfl) (pe_lst pa_nil))
    (pss_cons (ps_for PassesOwn.never rfl (pi_range1 (by rfl) T.n_range (pa_cons (pv 6) pa_nil)) (pg_name (i := 8) sc.nd rfl (.inl rfl)) (pss_cons (ps_set (i := 9) sc.nd rfl (.inl rfl) (pe_call c_Fdraw.ok (hr.mono (by decide)) (by rfl) c_Fdraw.hm c_Fdraw.hk c_Fdraw.hb .nil pass0 (pa_cons (pv 0) (pa_cons pe_int pa_nil))))
    (pss_cons (ps_set (i := 10) sc.nd rfl (.inl rfl) (pe_op op_add (pe_op op_add (pv 8) pe_int) (pe_call c_Fdraw.ok (hr.mono (by decide)) (by rfl) c_Fdraw.hm c_Fdraw.hk c_Fdraw.hb .nil pass0 (pa_cons (pv 0) (pa_cons (pe_op op_sub (pv 6) (pv 8)) pa_nil)))))
    (pss_cons (ps_set (i := 11) sc.nd rfl (.inl rfl) (pe_call c_Finstruction.ok (hr.mono (by decide)) (by rfl) c_Finstruction.hm c_Finstruction.hk c_Finstruction.hb .nil pass0 (pa_cons (pv 0) (pa_cons pe_int (pa_cons (pv 4) (pa_cons (pv 5) pa_nil))))))
    (pss_cons (ps_if (pt_cmpR op_eq (pv 9) pe_int (nomark _)) (pss_one (ps_set (i := 11) sc.nd rfl (.inl rfl) (pe_tup (pa_cons pe_str (pa_cons (pv 10) pa_nil))))) (pss_one (ps_if (pt_cmpR op_lt (pv 9) pe_int (nomark _)) (pss_one (ps_set (i := 11) sc.nd rfl (.inl rfl) (pe_tup (pa_cons pe_str (pa_cons (pe_call c_Fdraw.ok (hr.mono (by decide)) (by rfl) c_Fdraw.hm c_Fdraw.hk c_Fdraw.hb .nil pass0 (pa_cons (pv 0) (pa_cons pe_int pa_nil))) (pa_cons (pv 10) (pa_cons (pe_call c_Fdraw.ok (hr.mono (by decide)) (by rfl) c_Fdraw.hm c_Fdraw.hk c_Fdraw.hb .nil pass0 (pa_cons (pv 0) (pa_cons (pe_op op_add (pv 6) pe_int) pa_nil))) pa_nil))))))) (pss_one (ps_if (PW.pt (pw_and (pt_cmpR op_eq (pv 9) pe_int (nomark _)) (pw_and1 (pt_cmpR op_gt (pv 3) pe_int (nomark _))))) (pss_one (ps_set (i := 11) sc.nd rfl (.inl rfl) (pe_tup (pa_cons pe_str (pa_cons (pe_call c_Fdraw.ok (hr.mono (by decide)) (by rfl) c_Fdraw.hm c_Fdraw.hk c_Fdraw.hb .nil pass0 (pa_cons (pv 0) (pa_cons pe_int pa_nil))) (pa_cons (pe_call c_Fdraw.ok (hr.mono (by decide)) (by rfl) c_Fdraw.hm c_Fdraw.hk c_Fdraw.hb .nil pass0 (pa_cons (pv 0) (pa_cons (pv 3) pa_nil))) pa_nil)))))) (pss_one (ps_if (PW.pt (pw_and (pt_cmpR op_eq (pv 9) pe_int (nomark _)) (pw_and1 (pt_cmpR op_gt (pv 3) pe_int (nomark _))))) (pss_one (ps_set (i := 11) sc.nd rfl (.inl rfl) (pe_tup (pa_cons pe_str (pa_cons (pe_call c_Fdraw.ok (hr.mono (by decide)) (by rfl) c_Fdraw.hm c_Fdraw.hk c_Fdraw.hb .nil pass0 (pa_cons (pv 0) (pa_cons (pv 3) pa_nil))) (pa_cons (pe_call c_Fdraw.ok (hr.mono (by decide)) (by rfl) c_Fdraw.hm c_Fdraw.hk c_Fdraw.hb .nil pass0 (pa_cons (pv 0) (pa_cons pe_int pa_nil))) pa_nil)))))) (pss_one (ps_if (PW.pt (pw_and (pt_cmpR op_eq (pv 9) pe_int (nomark _)) (pw_and1 (pt_cmpR op_eq (pe_call c_Fdraw.ok (hr.mono (by decide)) (by rfl) c_Fdraw.hm c_Fdraw.hk c_Fdraw.hb .nil pass0 (pa_cons (pv 0) (pa_cons pe_int pa_nil))) pe_int (nomark _))))) (pss_one (ps_set (i := 11) sc.nd rfl (.inl rfl) (pe_tup (pa_cons pe_str pa_nil)))) pss_nil)))))))))
    (pss_one (ps_expr (pe_bm PySem.F.plainAttrs_list PySem.F.slot_list_append PySem.F.type_list_append mt_append (pv 7) (pa_cons (pv 11) pa_nil)))))))))
    (pss_one (ps_ret (pe_tup (pa_cons (pv 1) (pa_cons (pv 2) (pa_cons (pv 3) (pa_cons (pe_op op_catA (pe_callTy call_tuple_of (by rfl) T.n_tuple (by decide +kernel) (pa_cons (pv 7) pa_nil)) (pe_tup (pa_cons (pe_tup (pa_cons pe_str pa_nil)) pa_nil))) pa_nil))))))))))))))), fun J ss R h => ?_⟩)
  · obtain ⟨l, as, Po, hm, rfl, ⟨rfl, rfl⟩, rfl⟩ := h
    rfl
  · obtain ⟨l, as, Po, hm, rfl, ⟨rfl, rfl⟩, rfl⟩ := h
    refine sg_letQ (ev_gen (slf 0) hm ea_nil ⟨rfl, rfl⟩) fun d ⟨ps, e, hps⟩ => ?_
    subst e
    refine sg_letQ (ev_gen (slf 0) hm ea_nil ⟨rfl, rfl⟩) fun d ⟨sh, e, hsh⟩ => ?_
    subst e
    refine sg_letI (ev_draw (slf 0) hm ev_int (by decide) (by decide)) fun lc hlc => ?_
    obtain ⟨loc, rfl⟩ : ∃ n : Nat, lc = n := ⟨lc.toNat, by omega⟩
    have hloc : loc ≤ 3 := by omega
    have htest : ∀ {A : Atom} {δ : SE} {i : Nat}, δ[1]? = some (some (.dat (.tup (ps.map pD)))) → i < ps.length → δ[8]? = some (some (.dat (.int i))) → ∀ {K : PySem.W.Frag} {x : Str}, EvT (A :: J) (tTest (tOp rEq (tOp (rIxT K) (tOp (rIxT K) (tVar 1) (tVar 8)) (tC (.int 1))) (tC (.str x)))) δ fun _ => True := fun {A δ i} h1 hi h8 {K x} => by
      have hq : ps[i]? = some ps[i] := List.getElem?_eq_getElem hi
      exact (et_b (ev_op (da := .str ps[i].2) (ev_op (da := pD ps[i]) (ev_op (ev_dat h1) (ev_dat h8) (rr_ixT (at_map hq))) ev_int (rr_ixT (by rfl))) ev_str rr_eqS)).imp fun _ _ => trivial
    have hlen : ∀ {J : List Atom} {δ : SE} {K : PySem.W.Frag}, δ[1]? = some (some (.dat (.tup (ps.map pD)))) → EvA J (tCons (tCB (rLenC K) (tCons (tVar 1) tNil)) tNil) δ fun ss => ss = [.dat (.int ps.length)] := fun h => ea_d (ds := []) (ev_is (ev_lenT (ev_dat h)) (by rw [List.length_map])) ea_d0
    refine sg_letG (P := fun J1 s => J1 = J ∧ ∃ ar : List Int, s = .lst (ar.map Dt.int) ∧ ar.length ≤ 20) ?_ fun J1 s ⟨e1, ar, e2, har⟩ => ?_
    · refine EvG.imp (ev_catLX (P := fun ds => ∃ as : List Int, ds = as.map Dt.int ∧ as.length ≤ 12) (P' := fun ds => ∃ as : List Int, ds = as.map Dt.int ∧ as.length ≤ 3) ?_ ?_ ?_) ?_
      · refine EvG.imp (ev_lcR (n := ps.length) (Ac := fun i acc => ∃ as : List Int, acc = as.map Dt.int ∧ as.length ≤ i) (Pb := fun _ _ => True) (Pe := fun i e => e = .int i) (hlen rfl) (by omega) ⟨[], rfl, Nat.le_refl _⟩ (fun A i hi => htest rfl hi rfl) (fun A i hi _ => ev_dat rfl) (fun i acc hi _ ⟨as, e, h⟩ => ⟨as, e, by omega⟩) fun i acc e hi _ pe ⟨as, e2, h⟩ => ⟨as ++ [(i : Int)], by rw [e2, pe, List.map_append]; rfl, by rw [List.length_append]; show as.length + 1 ≤ _; omega⟩) fun J1 s ⟨e, es, e2, as, e3, h⟩ => ⟨e, es, e2, as, e3, by omega⟩
      · refine EvG.imp (ev_lcR (n := sh.length) (Ac := fun i acc => ∃ as : List Int, acc = as.map Dt.int ∧ as.length ≤ i) (Pb := fun _ _ => True) (Pe := fun i e => e = .int ((6 : Int) + i)) (ea_d (ds := []) (ev_lenT (ev_dat rfl)) ea_d0) (by omega) ⟨[], rfl, Nat.le_refl _⟩ (fun A i hi => et_yes.imp fun _ _ => trivial) (fun A i hi _ => ev_op ev_int (ev_dat (d := .int i) rfl) rr_II) (fun i acc hi _ ⟨as, e, h⟩ => ⟨as, e, by omega⟩) fun i acc e hi _ pe ⟨as, e2, h⟩ => ⟨as ++ [(6 : Int) + i], by rw [e2, pe, List.map_append]; rfl, by rw [List.length_append]; show as.length + 1 ≤ _; omega⟩) fun J1 s ⟨e, es, e2, as, e3, h⟩ => ⟨e, es, e2, as, e3, by omega⟩
      · rintro _ _ ⟨a, rfl, ha⟩ ⟨b, rfl, hb⟩
        rw [List.length_map, List.length_map]
        omega
      · rintro J1 s ⟨e, ds, e2, _, _, e3, ⟨a, rfl, ha⟩, b, rfl, hb⟩
        exact ⟨e, a ++ b, by rw [e2, e3, List.map_append], by rw [List.length_append]; omega⟩
    rw [e1, e2]
    refine sg_letG (P := fun J1 s => J1 = J ∧ ∃ ns : List Nat, s = .lst (ns.map fun n => Dt.int (n : Nat)) ∧ ns.length ≤ 12 ∧ ∀ n ∈ ns, n < ps.length) ?_ fun J1 s ⟨e1, ns, e2, hns, hnb⟩ => ?_
    · refine EvG.imp (ev_lcR (n := ps.length) (Ac := fun i acc => ∃ ns : List Nat, acc = ns.map (fun n => Dt.int (n : Nat)) ∧ ns.length ≤ i ∧ ∀ n ∈ ns, n < i) (Pb := fun _ _ => True) (Pe := fun i e => e = .int i) (hlen rfl) (by omega) ⟨[], rfl, Nat.le_refl _, fun n hn => by cases hn⟩ (fun A i hi => htest rfl hi rfl) (fun A i hi _ => ev_dat rfl)
        (fun i acc hi _ ⟨as, e, h, hb⟩ => ⟨as, e, by omega, fun n hn => by have := hb n hn; omega⟩) fun i acc e hi _ pe ⟨as, e2, h, hb⟩ => ⟨as ++ [i], by rw [e2, pe, List.map_append]; rfl, by rw [List.length_append]; show as.length + 1 ≤ _; omega, fun n hn => (List.mem_append.mp hn).elim (fun hn => by have := hb n hn; omega) fun hn => by rw [List.mem_singleton.mp hn]; omega⟩) fun J1 s ⟨e, es, e2, as, e3, h, hb⟩ => ⟨e, as, by rw [e2, e3], by omega, hb⟩
    rw [e1, e2]
    refine sg_letI (P := fun i => 2 ≤ i ∧ i ≤ 25) (ev_opI (f := fun i j => i + j) (Pa := fun i => i = 2) (ev_int.toI rfl) (ev_draw (slf 0) hm ev_int (by decide) (by decide)) fun x y hx hy => ⟨⟨by omega, by omega⟩, rr_II⟩) fun mm hmm => ?_
    obtain ⟨M, rfl⟩ : ∃ n : Nat, mm = n := ⟨mm.toNat, by omega⟩
    refine sg_newL fun rl => ?_
    let δb : Option Sl → Option Sl → Option Sl → Option Sl → SE := fun a b c d => [some (.val (.ref l)), some (.dat (.tup (ps.map pD))), some (.dat (.tup sh)), some (.dat (.int loc)), some (.lst (ar.map Dt.int)), some (.lst (ns.map fun n => Dt.int (n : Nat))), some (.dat (.int M)), some (.val (.ref rl)), a, b, c, d]
    refine sg_seq (N := fun J1 δ1 => ∃ rs : List Ins, J1 = lstA rl (rs.map Ins.toD) :: J ∧ rs.length = M ∧ (∀ x ∈ rs, x.Ok (M + 1) loc ps.length) ∧ ∃ a b c d, δ1 = δb a b c d) ?_ ?_
    · refine sg_forR1 (n := M) (Iv := fun i J1 δ1 => ∃ rs : List Ins, J1 = lstA rl (rs.map Ins.toD) :: J ∧ rs.length = i ∧ (∀ x ∈ rs, x.Ok (M + 1) loc ps.length) ∧ ∃ a b c d, δ1 = δb a b c d) (ea_d (ds := []) (ev_dat rfl) ea_d0) (by omega) ⟨[], rfl, rfl, (fun x hx => by cases hx), _, _, _, _, rfl⟩ ?_ fun J1 δ1 h => h
      rintro i J1 δ1 hi ⟨rs, rfl, hrl, hrk, a, b, c, dd, rfl⟩
      have hm2 : strA l ∈ lstA rl (rs.map Ins.toD) :: J := List.mem_cons_of_mem _ hm
      refine ⟨_, tg_name, ?_⟩
      refine sg_letI (ev_draw (slf 0) hm2 ev_int (by decide) (by decide)) fun pick hpk => ?_
      refine sg_letI (P := fun t => 0 ≤ t ∧ t ≤ M) (ev_opI (f := fun i j => i + j) (Pa := fun t => t = (i : Int) + 1) (Pb := fun t => 0 ≤ t ∧ t < (M : Int) - i) ((ev_op (ev_dat (d := .int i) rfl) ev_int rr_II).toI rfl) (ev_draw (slf 0) hm2 (ev_op (ev_dat (d := .int M) rfl) (ev_dat (d := .int i) rfl) rr_II) (by omega) (by omega)) fun x y hx hy => ⟨⟨by omega, by omega⟩, rr_II⟩) fun tg htg => ?_
      obtain ⟨tgt, rfl⟩ : ∃ n : Nat, tg = n := ⟨tg.toNat, by omega⟩
      refine sg_letQ (ev_gen (as := [.dat (.int 8), .lst (ar.map Dt.int), .lst (ns.map fun n => Dt.int (n : Nat))]) (slf 0) hm2 (ea_consP (Ps := fun ss => ss = [.lst (ar.map Dt.int), .lst (ns.map fun n => Dt.int (n : Nat))]) ev_int (ea_consP (Ps := fun ss => ss = [.lst (ns.map fun n => Dt.int (n : Nat))]) (ev_lst rfl) (ea_consP (Ps := fun ss => ss = []) (ev_lst rfl) ea_nil fun s ss e1 e2 => by rw [e1, e2]) fun s ss e1 e2 => by rw [e1, e2]) fun s ss ⟨d, e1, e3⟩ e2 => by rw [e1, e2, e3]) ⟨ar, ns, ps.length, har, by omega, hnb, rfl, rfl⟩) fun d ⟨i0, e0, hi0⟩ => ?_
      subst e0
      refine sg_seq (N := fun J1 δ1 => J1 = lstA rl (rs.map Ins.toD) :: J ∧ ∃ x : Ins, x.Ok (M + 1) loc ps.length ∧ δ1 = δb (some (.dat (.int i))) (some (.dat (.int pick))) (some (.dat (.int tgt))) (some (.dat x.toD))) ?_ ?_
      · have ok0 : i0.Ok (M + 1) loc ps.length := hi0 _ _
        have d8 : ∀ {J : List Atom} {δ : SE} {E : XK}, δ[0]? = some (some (.val (.ref l))) → strA l ∈ J → EvQ J (tCall (spG drawP) [] E (tCons (tVar 0) (tCons (tC (.int 8)) tNil))) δ fun d => ∃ n : Nat, d = .int n ∧ n < 8 := fun h0 hm => EvQ.imp (ev_draw (slf 0 h0) hm ev_int (by decide) (by decide)) fun d ⟨n, e, h0, h8⟩ => ⟨n.toNat, by rw [e, show ((n.toNat : Nat) : Int) = n by omega], by omega⟩
        have dl : ∀ {J : List Atom} {δ : SE} {E : XK}, 0 < loc → δ[0]? = some (some (.val (.ref l))) → δ[3]? = some (some (.dat (.int loc))) → strA l ∈ J → EvQ J (tCall (spG drawP) [] E (tCons (tVar 0) (tCons (tVar 3) tNil))) δ fun d => ∃ n : Nat, d = .int n ∧ n < loc := fun hp h0 h3 hm => EvQ.imp (ev_draw (slf 0 h0) hm (ev_dat h3) (by omega) (by omega)) fun d ⟨n, e, h0, h8⟩ => ⟨n.toNat, by rw [e, show ((n.toNat : Nat) : Int) = n by omega], by omega⟩
        refine sg_ifB (et_b (ev_op (ev_dat (d := .int pick) rfl) ev_int rr_eqI)) (fun _ => ?_) fun _ => ?_
        · exact sg_asgQ (ev_tup (ea_d ev_str (ea_d (ev_dat (d := .int tgt) rfl) ea_d0))) fun d hd => by
            subst hd
            exact ⟨rfl, .jump tgt, (show tgt < M + 1 by omega), rfl⟩
        refine sg_ifB (et_b (ev_op (ev_dat (d := .int pick) rfl) ev_int rr_IB)) (fun _ => ?_) fun _ => ?_
        · refine sg_asgQ (ev_tupX (ea_q ev_str (ea_q (d8 rfl hm2) (ea_q (ev_dat (d := .int tgt) rfl) (ea_q (ev_draw (slf 0) hm2 (ev_op (ev_dat (d := .int M) rfl) ev_int rr_II) (by omega) (by omega)) ea_q0)))) ?_) fun d hd => ?_
          · rintro ds ⟨_, _, rfl, _, _, _, rfl, _, _, _, rfl, _, _, _, rfl, _, rfl⟩
            exact Nat.le_of_ble_eq_true rfl
          · obtain ⟨_, rfl, _, _, rfl, rfl, _, _, rfl, ⟨r, rfl, hr⟩, _, _, rfl, rfl, _, _, rfl, ⟨j, rfl, _⟩, rfl⟩ := hd
            exact ⟨rfl, .branch r tgt j, ⟨hr, by omega⟩, rfl⟩
        refine sg_ifB (et_andB (et_b (ev_op (ev_dat (d := .int pick) rfl) ev_int rr_eqI)) fun _ => et_b (ev_op (ev_dat (d := .int loc) rfl) ev_int rr_IB)) (fun e => ?_) fun _ => ?_
        · rw [Bool.and_eq_true] at e
          have hp := of_decide_eq_true e.2
          refine sg_asgQ (ev_tupX (ea_q ev_str (ea_q (d8 rfl hm2) (ea_q (dl (by omega) rfl rfl hm2) ea_q0))) ?_) fun d hd => ?_
          · rintro ds ⟨_, _, rfl, _, _, _, rfl, _, _, _, rfl, _, rfl⟩
            exact Nat.le_of_ble_eq_true rfl
          · obtain ⟨_, rfl, _, _, rfl, rfl, _, _, rfl, ⟨r, rfl, hr⟩, _, _, rfl, ⟨n, rfl, hn⟩, rfl⟩ := hd
            exact ⟨rfl, .get r n, ⟨hr, hn⟩, rfl⟩
        refine sg_ifB (et_andB (et_b (ev_op (ev_dat (d := .int pick) rfl) ev_int rr_eqI)) fun _ => et_b (ev_op (ev_dat (d := .int loc) rfl) ev_int rr_IB)) (fun e => ?_) fun _ => ?_
        · rw [Bool.and_eq_true] at e
          have hp := of_decide_eq_true e.2
          refine sg_asgQ (ev_tupX (ea_q ev_str (ea_q (dl (by omega) rfl rfl hm2) (ea_q (d8 rfl hm2) ea_q0))) ?_) fun d hd => ?_
          · rintro ds ⟨_, _, rfl, _, _, _, rfl, _, _, _, rfl, _, rfl⟩
            exact Nat.le_of_ble_eq_true rfl
          · obtain ⟨_, rfl, _, _, rfl, rfl, _, _, rfl, ⟨n, rfl, hn⟩, _, _, rfl, ⟨r, rfl, hr⟩, rfl⟩ := hd
            exact ⟨rfl, .keep n r, ⟨hn, hr⟩, rfl⟩
        refine sg_if (P := fun _ => True) (et_and (Pa := fun _ => True) (Pb := fun _ => True) ((et_b (ev_op (ev_dat (d := .int pick) rfl) ev_int rr_eqI)).imp fun _ _ => trivial) (fun _ => et_test (EvQ.imp (ev_opQ (Pa := fun d => ∃ n, d = .int n) (Pb := fun d => d = .int 0) (Pc := fun d => ∃ b, d = .bl b) (EvQ.imp (ev_draw (slf 0) hm2 ev_int (by decide) (by decide)) fun d ⟨n, e, _⟩ => ⟨n, e⟩) ev_int fun da db ⟨n, e1⟩ e2 => by subst e1 e2; exact ⟨_, ⟨_, rfl⟩, rr_eqI⟩) fun d ⟨b, e⟩ => ⟨b, e, trivial⟩)) (fun _ => trivial) fun _ _ _ => trivial) (fun _ => ?_) fun _ => ?_
        · exact sg_asgQ (ev_tup (ea_d ev_str ea_d0)) fun d hd => by
            subst hd
            exact ⟨rfl, .exit, trivial, rfl⟩
        · exact sg_next ⟨rfl, i0, ok0, rfl⟩
      · rintro J1 δ1 ⟨rfl, x, hx, rfl⟩
        refine sg_append (s := []) (t := J) (P := fun d => d = x.toD) (slf 7) (ev_dat rfl) (by rw [List.length_map]; omega) fun d hd => ⟨rs ++ [x], ?_, by rw [List.length_append, hrl]; rfl, fun y hy => ?_, _, _, _, _, rfl⟩
        · rw [hd, List.map_append]
          rfl
        · rcases List.mem_append.mp hy with hy | hy
          · exact hrk y hy
          · rw [List.mem_singleton.mp hy]; exact hx
    · rintro J1 δ1 ⟨rs, rfl, hrl, hrk, a, b, c, dd, rfl⟩
      refine sg_rtLose ?_
      refine sg_retD (d := codeD ps sh loc (rs ++ [.exit])) ?_ ⟨_, _, rfl, List.Perm.refl _, _, rfl, ps, sh, loc, rs ++ [.exit], rfl, hps, hloc, ?_, ?_, ?_⟩
      · unfold codeD
        rw [List.map_append]
        exact ev_tup (ea_d (ev_dat rfl) (ea_d (ev_dat rfl) (ea_d (ev_dat rfl) (ea_d (ev_op (ev_tupA (slf 7) (List.mem_cons_self ..)) (ev_tup (ea_d (ev_tup (ea_d ev_str ea_d0)) ea_d0)) (rr_catA (by rw [List.length_map]; show rs.length + 1 ≤ _; omega))) ea_d0))))
      · rw [List.length_append]
        show rs.length + 1 ≤ 30
        omega
      · rw [List.length_append]
        show 0 < rs.length + 1
        omega
      · intro i x hx
        have el : (rs ++ [Ins.exit]).length = M + 1 := by rw [List.length_append, hrl]; rfl
        rw [el]
        by_cases hi : i < rs.length
        · rw [List.getElem?_append_left hi] at hx
          exact ⟨hrk x (List.mem_of_getElem? hx), .inl (by omega)⟩
        · rw [List.getElem?_append_right (by omega)] at hx
          have : i - rs.length = 0 := by
            cases q : i - rs.length with
            | zero => rfl
            | succ n => rw [q] at hx; cases hx
          rw [this] at hx
          cases hx
          exact ⟨trivial, .inr rfl⟩
theorem scFlooping : FnScope ["_law_stream_here", "_law_code_here", "_law_params_here", "_law_shared_here", "_law_local", "_law_rows", "_law_many", "_law_found", "_law_at", "_law_row"] ["_law_stream_here", "_law_code_here"] (defScope sFlooping) := ⟨rfl, rfl, rfl, by decide +kernel, rfl, by decide +kernel, by decide +kernel⟩
def gLoop (as : List Sl) (Po : Dt → Prop) : Prop := ∃ d, codeQ d ∧ as = [.dat d] ∧ Po = codeQ
theorem ok_looping (F : FunP K "_law_looping" sFlooping f fd) (T : Txt K mg) (c_Fdraw : Cal P w K mg base 1 "_law_draw" ["_law_stream_here", "_law_many"] (spG drawP)) : FnOk P w K mg base CX0 2 f fd ["_law_stream_here", "_law_code_here"] (spG (genP gLoop)) := by
  have sc := scFlooping
  refine fn_sg F sc (fun J ss R h => ?_) (fun cdv A outer s H E hr => ⟨_, (pss_cons (ps_asg (pv 1) (pg_tup (by rfl) (pgs_cons (pg_name (i := 2) sc.nd rfl (.inl rfl)) (pgs_cons (pg_name (i := 3) sc.nd rfl (.inl rfl)) (pgs_cons (pg_name (i := 4) sc.nd rfl (.inl rfl)) (pgs_cons (pg_name (i := 5) sc.nd rfl (.inl rfl)) pgs_nil))))))
    (pss_cons (ps_set (i := 6) sc.nd rfl (.inl rfl) (pe_callB call_len_seq (by rfl) T.n_len (by decide +kernel) (pa_cons (pv 5) pa_nil)))
    (pss_cons (ps_set (i := 7) sc.nd rfl (.inl rfl) (pe_lst pa_nil))
    (pss_cons (ps_for PassesOwn.never rfl (pi_range1 (by rfl) T.n_range (pa_cons (pv 6) pa_nil)) (pg_name (i := 8) sc.nd rfl (.inl rfl)) (pss_cons (ps_set (i := 9) sc.nd rfl (.inl rfl) (pe_ix ix_tup (pv 5) (pv 8) (fun _ _ => rfl)))
    (pss_cons (ps_if (PW.pt (pw_and (pt_cmpR op_gt (pv 8) pe_int (nomark _)) (pw_and (pt_cmpR op_eq (pe_ix ix_tup (pv 9) pe_int (fun _ _ => rfl)) pe_str (nomark _)) (pw_and1 (pt_cmpR op_eq (pe_call c_Fdraw.ok (hr.mono (by decide)) (by rfl) c_Fdraw.hm c_Fdraw.hk c_Fdraw.hb .nil pass0 (pa_cons (pv 0) (pa_cons pe_int pa_nil))) pe_int (nomark _)))))) (pss_one (ps_set (i := 9) sc.nd rfl (.inl rfl) (pe_tup (pa_cons pe_str (pa_cons (pe_ix ix_tup (pv 9) pe_int (fun _ _ => rfl)) (pa_cons (pe_call c_Fdraw.ok (hr.mono (by decide)) (by rfl) c_Fdraw.hm c_Fdraw.hk c_Fdraw.hb .nil pass0 (pa_cons (pv 0) (pa_cons (pv 8) pa_nil))) (pa_cons (pe_ix ix_tup (pv 9) pe_int (fun _ _ => rfl)) pa_nil))))))) pss_nil)
    (pss_one (ps_expr (pe_bm PySem.F.plainAttrs_list PySem.F.slot_list_append PySem.F.type_list_append mt_append (pv 7) (pa_cons (pv 9) pa_nil)))))))
    (pss_one (ps_ret (pe_tup (pa_cons (pv 2) (pa_cons (pv 3) (pa_cons (pv 4) (pa_cons (pe_callTy call_tuple_of (by rfl) T.n_tuple (by decide +kernel) (pa_cons (pv 7) pa_nil)) pa_nil))))))))))), fun J ss R h => ?_⟩)
  · obtain ⟨l, as, Po, hm, rfl, ⟨d, hd, rfl, rfl⟩, rfl⟩ := h
    rfl
  · obtain ⟨l, as, Po, hm, rfl, ⟨d, ⟨ps, sh, loc, rs, rfl, hk⟩, rfl, rfl⟩, rfl⟩ := h
    unfold codeD
    refine sg_letT (ev_dat rfl) (tg_tup (tgs_cons tg_name (tgs_cons tg_name (tgs_cons tg_name (tgs_cons tg_name tgs_nil))))) ?_
    refine sg_letD (d := .int rs.length) (ev_is (ev_lenT (ev_dat rfl)) (by rw [List.length_map])) ?_
    refine sg_newL fun fl => ?_
    let δb : Option Sl → Option Sl → SE := fun a b => [some (.val (.ref l)), some (.dat (.tup [.tup (ps.map pD), .tup sh, .int loc, .tup (rs.map Ins.toD)])), some (.dat (.tup (ps.map pD))), some (.dat (.tup sh)), some (.dat (.int loc)), some (.dat (.tup (rs.map Ins.toD))), some (.dat (.int rs.length)), some (.val (.ref fl)), a, b]
    have hfew := hk.few
    refine sg_seq (N := fun J1 δ1 => ∃ fs : List Ins, J1 = lstA fl (fs.map Ins.toD) :: J ∧ fs.length = rs.length ∧ (∀ (i : Nat) (x : Ins), fs[i]? = some x → x.Ok rs.length loc ps.length ∧ (i + 1 < rs.length ∨ x = .exit)) ∧ ∃ a b, δ1 = δb a b) ?_ ?_
    · refine sg_forR1 (n := rs.length) (Iv := fun i J1 δ1 => ∃ fs : List Ins, J1 = lstA fl (fs.map Ins.toD) :: J ∧ fs.length = i ∧ (∀ (i : Nat) (x : Ins), fs[i]? = some x → x.Ok rs.length loc ps.length ∧ (i + 1 < rs.length ∨ x = .exit)) ∧ ∃ a b, δ1 = δb a b) (ea_d (ds := []) (ev_dat rfl) ea_d0) (by omega) ⟨[], rfl, rfl, (fun i x hx => by cases hx), _, _, rfl⟩ ?_ fun J1 δ1 h => h
      rintro i J1 δ1 hi ⟨fs, rfl, hfl, hfk, a, b, rfl⟩
      have hm2 : strA l ∈ lstA fl (fs.map Ins.toD) :: J := List.mem_cons_of_mem _ hm
      refine ⟨_, tg_name, ?_⟩
      have hx : rs[i]? = some rs[i] := List.getElem?_eq_getElem hi
      generalize rs[i] = x at hx
      obtain ⟨okx, endx⟩ := hk.rows i x hx
      refine sg_letD (d := x.toD) (ev_op (ev_dat rfl) (ev_dat (d := .int i) rfl) (rr_ixT (at_map hx))) ?_
      refine sg_seq (N := fun J1 δ1 => J1 = lstA fl (fs.map Ins.toD) :: J ∧ ∃ y : Ins, y.Ok rs.length loc ps.length ∧ (i + 1 < rs.length ∨ y = .exit) ∧ δ1 = δb (some (.dat (.int i))) (some (.dat y.toD))) ?_ ?_
      · refine sg_if (P := fun b => b = true → 2 < i ∧ x.kind = "branch") (et_and (Pa := fun b => b = decide ((2 : Int) < i)) (Pb := fun b => b = true → x.kind = "branch") (et_b (ev_op (ev_dat (d := .int i) rfl) ev_int rr_IB)) (fun _ => et_and (Pa := fun b => b = decide (x.kind = "branch")) (Pb := fun _ => True) (et_b (ev_op (ev_op (da := x.toD) (ev_dat rfl) ev_int rr_head) ev_str rr_eqS)) (fun _ => et_test (EvQ.imp (ev_opQ (Pa := fun d => ∃ n, d = .int n) (Pb := fun d => d = .int 0) (Pc := fun d => ∃ b, d = .bl b) (EvQ.imp (ev_draw (slf 0) hm2 ev_int (by decide) (by decide)) fun d ⟨n, e, _⟩ => ⟨n, e⟩) ev_int fun da db ⟨n, e1⟩ e2 => by subst e1 e2; exact ⟨_, ⟨_, rfl⟩, rr_eqI⟩) fun d ⟨b, e⟩ => ⟨b, e, trivial⟩)) (fun _ z => by cases z) fun b h _ _ => of_decide_eq_true h.symm) (fun _ z => by cases z) fun b h1 h2 hb => ⟨by have := of_decide_eq_true h1.symm; omega, h2 hb⟩) (fun hp => ?_) fun _ => ?_
        · obtain ⟨h2, hkd⟩ := hp rfl
          obtain ⟨r, t, j, rfl⟩ := kind_branch hkd
          refine sg_asgQ (ev_tupX (ea_q ev_str (ea_q (ev_op (da := .tup [.str "branch", .int r, .int t, .int j]) (ev_dat rfl) ev_int (rr_ixT (d := .int r) (by rfl))) (ea_q (ev_draw (slf 0) hm2 (ev_dat (d := .int i) rfl) (by omega) (by omega)) (ea_q (ev_op (da := .tup [.str "branch", .int r, .int t, .int j]) (ev_dat rfl) ev_int (rr_ixT (d := .int j) (by rfl))) ea_q0)))) ?_) fun d hd => ?_
          · rintro ds ⟨_, _, rfl, _, _, _, rfl, _, _, _, rfl, _, _, _, rfl, _, rfl⟩
            exact Nat.le_of_ble_eq_true rfl
          · obtain ⟨_, rfl, _, _, rfl, rfl, _, _, rfl, rfl, _, _, rfl, ⟨tt, rfl, ht⟩, _, _, rfl, rfl, rfl⟩ := hd
            obtain ⟨t2, rfl⟩ : ∃ n : Nat, tt = n := ⟨tt.toNat, by omega⟩
            exact ⟨rfl, .branch r t2 j, ⟨okx.1, by omega⟩, .inl (endx.resolve_right fun z => by cases z), rfl⟩
        · exact sg_next ⟨rfl, x, okx, endx, rfl⟩
      · rintro J1 δ1 ⟨rfl, y, oky, endy, rfl⟩
        refine sg_append (s := []) (t := J) (P := fun d => d = y.toD) (slf 7) (ev_dat rfl) (by rw [List.length_map]; omega) fun d hd => ⟨fs ++ [y], ?_, by rw [List.length_append, hfl]; rfl, fun k z hz => ?_, _, _, rfl⟩
        · rw [hd, List.map_append]
          rfl
        · by_cases hki : k < fs.length
          · rw [List.getElem?_append_left hki] at hz
            exact hfk k z hz
          · rw [List.getElem?_append_right (by omega)] at hz
            have : k - fs.length = 0 := by
              cases q : k - fs.length with
              | zero => rfl
              | succ n => rw [q] at hz; cases hz
            rw [this] at hz
            cases hz
            rw [show k = i by omega]
            exact ⟨oky, endy⟩
    · rintro J1 δ1 ⟨fs, rfl, hfl, hfk, a, b, rfl⟩
      refine sg_rtLose ?_
      refine sg_retD (d := codeD ps sh loc fs) ?_ ⟨_, _, rfl, List.Perm.refl _, _, rfl, ps, sh, loc, fs, rfl, hk.psz, hk.locz, by omega, by rw [hfl]; exact hk.pos, by rw [hfl]; exact hfk⟩
      exact ev_tup (ea_d (ev_dat rfl) (ea_d (ev_dat rfl) (ea_d (ev_dat rfl) (ea_d (ev_tupA (slf 7) (List.mem_cons_self ..)) ea_d0))))
end
end LK

namespace LK
open PySem PySem.Spec PyProof.Rows L2
/-! ### dicts that hold things by ints -/
def dictR (d : Addr) (ks : List Int) (la : Int → Addr) : Atom where
  I F H := (∀ a, F a ↔ a = d) ∧ ks.Nodup ∧ ks.length ≤ 8 ∧ H d = some (.dK (dOf ks fun k => .ref (la k)))
  out F H H1 h k t := ⟨h.1, h.2.1, h.2.2.1, (k d ((h.1 d).mpr rfl)).trans h.2.2.2⟩
  dom F H a h ha := by
    rw [(h.1 a).mp ha, h.2.2.2]
    exact ⟨fun z => (by cases z), fun xs z => (by cases z)⟩
/-- the same under a lock -/
def dictZ (o : Obj) (d : Addr) (ks : List Int) (la : Int → Addr) : Atom where
  I F H := (∀ a, F a ↔ a = d) ∧ ks.Nodup ∧ ks.length ≤ 8 ∧ H d = some (.frz o (.dK (dOf ks fun k => .ref (la k))))
  out F H H1 h k t := ⟨h.1, h.2.1, h.2.2.1, (k d ((h.1 d).mpr rfl)).trans h.2.2.2⟩
  dom F H a h ha := by
    rw [(h.1 a).mp ha, h.2.2.2]
    exact ⟨fun z => (by cases z), fun xs z => (by cases z)⟩
def HasR (J : List Atom) (d : Addr) (ks : List Int) (la : Int → Addr) : Prop := dictR d ks la ∈ J ∨ ∃ o, dictZ o d ks la ∈ J
section
variable {J J0 : List Atom} {δ : SE} {te tv tk ta tb tl ti td ty : TE} {t : TA} {u tb2 : TS} {K : PySem.W.Frag} {O : Outs} {g : TG} {tt : TT} {d : Addr} {ks : List Int} {la : Int → Addr}
theorem hasR_rd {F0 : AS} {H0 H : Hp} {τd : List Sl} {σ : L2.St} {τ : List V} (S : Sta J F0 H0 δ τd σ τ H) (m : HasR J d ks la) : Rd H d (.dK (dOf ks fun k => .ref (la k))) ∧ ks.Nodup ∧ ks.length ≤ 8 := by
  rcases m with m | ⟨o, m⟩
  · obtain ⟨F1, h1, h2, h3, h4⟩ := S.atom m
    exact ⟨.inl h4, h2, h3⟩
  · obtain ⟨F1, h1, h2, h3, h4⟩ := S.atom m
    exact ⟨.inr ⟨o, h4⟩, h2, h3⟩
theorem ev_dgetR {k : Int} (ho : EvV J td δ (.ref d)) (hk : EvD J ty δ (.int k)) (m : HasR J d ks la) (hi : k ∈ ks) : EvV J (tDGet td ty) δ (.ref (la k)) := fun F0 H0 τd σ τ H Q S q =>
  ho _ _ _ _ _ _ _ S fun J1 s u H1 ⟨e, es⟩ S1 => by
    subst e es
    refine hk _ _ _ _ _ _ _ S1 fun J2 s2 u2 H2 ⟨e2, d2, es2, ed2⟩ S2 => ?_
    subst e2 es2 ed2
    have e2 : u2 = .int k := S2.dat
    obtain ⟨F, _, _, eu⟩ := S2.pop.top
    have eu : u = .ref d := eu
    subst e2
    obtain ⟨rd, _, _⟩ := hasR_rd S2 m
    have hg : DGet H2 d (kV (Sum.inl k : L2.Key)) (valV (dOf ks fun k => .ref (la k)) (Sum.inl k : L2.Key)) := .inl ⟨_, _, rd, rfl, rfl⟩
    rw [val_dOf, if_pos hi] at hg
    exact ⟨d, .ref (la k), eu, hg, q J2 _ _ H2 ⟨rfl, rfl⟩ (S2.pop.pop.push fun F _ _ _ _ => rfl)⟩
theorem ev_newR (la : Int → Addr) : EvG J tDNewK δ fun J1 s => ∃ d, J1 = dictR d [] la :: J ∧ s = .val (.ref d) := fun F0 H0 τd σ τ H Q S k => fun p hp =>
  k _ (.val (.ref p)) _ _ ⟨p, rfl, rfl⟩ ((S.own1 (A := dictR p [] la) hp ⟨fun _ => Iff.rfl, List.nodup_nil, Nat.zero_le _, upd_same⟩).push fun F _ _ _ _ => rfl)
/-- d[k] = a new thing -/
theorem sg_dputR {P : JO} {k : Int} (hv : EvG J tv δ P) (hz : (addK ks k).length ≤ 8) (q : ∀ J1 s1, P J1 s1 → ∃ s t l, J1 = s ++ dictR d ks la :: t ∧ s1 = .val (.ref l) ∧ EvV J1 td δ (.ref d) ∧ EvD J1 ty δ (.int k) ∧ O.nx (s ++ dictR d (addK ks k) (upF la k l) :: t) δ) :
    SG J (sDPut td ty tv) δ O := fun F0 H0 τd σ τ H D S a b c => hv _ _ _ _ _ _ _ S fun J1 s1 v H1 p S1 => by
  obtain ⟨s, t, l, e1, e2, ho, hk, n⟩ := q J1 s1 p
  subst e2
  refine ho _ _ _ _ _ _ _ S1 fun J2 s2 u H2 ⟨e2, es2⟩ S2 => ?_
  subst e2 es2
  refine hk _ _ _ _ _ _ _ S2 fun J3 s3 u3 H3 ⟨e3, d3, es3, ed3⟩ S3 => ?_
  subst e3 es3 ed3
  have e3 : u3 = .int k := S3.dat
  obtain ⟨F, _, _, eu⟩ := S3.pop.top
  have eu : u = .ref d := eu
  obtain ⟨F', _, _, ev⟩ := S3.pop.pop.top
  have ev : v = .ref l := ev
  subst e3 ev e1
  obtain ⟨F1, ef, hn, hl, hd⟩ := S3.atom (A := dictR d ks la) (by simp)
  refine ⟨d, _, eu, DPut.k (k := (Sum.inl k : L2.Key)) hd (by rw [dOf_len]; exact Nat.lt_of_le_of_lt hl (by decide)), a _ δ σ _ n ?_⟩
  rw [put_dOf]
  refine S3.pop.pop.pop.putAt fun F2 ⟨ef, _, _, _⟩ => ⟨(ef d).mpr rfl, ef, addK_nodup hn, hz, ?_⟩
  rw [upd_same]
  congr 3
  funext j
  unfold upF
  split <;> rfl
/-- a statement under a lock -/
theorem sg_lock (h : ∀ o, SG (dictZ o d ks la :: J) u δ ⟨fun J1 δ1 => ∃ J2, J1.Perm (dictZ o d ks la :: J2) ∧ O.nx (dictR d ks la :: J2) δ1, fun J1 s => ∃ J2, J1.Perm (dictZ o d ks la :: J2) ∧ O.rt (dictR d ks la :: J2) s, fun J1 δ1 => ∃ J2, J1.Perm (dictZ o d ks la :: J2) ∧ O.bk (dictR d ks la :: J2) δ1⟩) :
    SG (dictR d ks la :: J) (tLock u) δ O := fun F0 H0 τd σ τ H D S a b c => by
  obtain ⟨F1, ef, hn, hl, hd⟩ := S.atom (A := dictR d ks la) (List.mem_cons_self ..)
  refine ⟨d, _, hd, trivial, fun o => ?_⟩
  have S1 : Sta (dictZ o d ks la :: J) F0 H0 δ τd σ τ (upd H d (.frz o (.dK (dOf ks fun k => .ref (la k))))) := S.put fun F2 ⟨ef, hn, hl, _⟩ => ⟨(ef d).mpr rfl, ef, hn, hl, upd_same⟩
  have back : ∀ {J2 : List Atom} {δ1 : SE} {ts : List Sl} {σ1 : L2.St} {tv : List V} {H1 : Hp}, Sta (dictZ o d ks la :: J2) F0 H0 δ1 ts σ1 tv H1 → H1 d = some (.frz o (.dK (dOf ks fun k => .ref (la k)))) ∧ Sta (dictR d ks la :: J2) F0 H0 δ1 ts σ1 tv (upd H1 d (.dK (dOf ks fun k => .ref (la k)))) := fun S => by
    obtain ⟨F1, ef, hn, hl, hd⟩ := S.atom (A := dictZ o d ks la) (List.mem_cons_self ..)
    exact ⟨hd, S.put fun F2 ⟨ef, hn, hl, _⟩ => ⟨(ef d).mpr rfl, ef, hn, hl, upd_same⟩⟩
  refine h o F0 H0 τd σ τ _ _ S1 (fun J1 δ1 σ1 H1 ⟨J2, p, n⟩ S2 => ?_) (fun J1 s v δ1 σ1 H1 ⟨J2, p, n⟩ S2 => ?_) fun J1 δ1 σ1 H1 ⟨J2, p, n⟩ S2 => ?_
  · obtain ⟨e, S3⟩ := back (S2.perm p)
    exact ⟨e, a _ _ _ _ n S3⟩
  · obtain ⟨e, S3⟩ := back (S2.perm p)
    exact ⟨e, b _ _ _ _ _ _ n S3⟩
  · obtain ⟨e, S3⟩ := back (S2.perm p)
    exact ⟨e, c _ _ _ _ n S3⟩
theorem keys_at {i : Nat} {k : L2.Key} {v : V} (h : (dOf ks fun k => .ref (la k))[i]? = some (k, v)) : ∃ n, ks[i]? = some n ∧ k = Sum.inl n := by
  unfold dOf at h
  rw [List.getElem?_map] at h
  cases q : ks[i]? with
  | none => rw [q] at h; cases h
  | some n =>
    rw [q] at h
    cases h
    exact ⟨n, rfl, rfl⟩
/-- for k in d, under its lock -/
theorem sg_forK {o : Obj} {Iv : Nat → List Atom → SE → Prop} (ho : EvV J td δ (.ref d)) (hz : ∀ i J1 δ1, Iv i J1 δ1 → dictZ o d ks la ∈ J1) (h0 : Iv 0 J δ) (hs : ∀ (i : Nat) (k : Int) (J1 : List Atom) (δ1 : SE), ks[i]? = some k → Iv i J1 δ1 → ∃ δ2, EvTg g (.dat (.int k)) δ1 δ2 ∧ SG J1 tb2 δ2 ⟨Iv (i + 1), O.rt, O.nx⟩)
    (hd : ∀ J1 δ1, Iv ks.length J1 δ1 → O.nx J1 δ1) : SG J (tFor (iKeys td) g tb2) δ O := fun F0 H0 τd σ τ H D S a b c =>
  ho _ _ _ _ _ _ _ S fun J1 s v H1 ⟨e, es⟩ S1 => by
    subst e es
    obtain ⟨F, _, _, ev⟩ := S1.top
    have ev : v = .ref d := ev
    subst ev
    have at1 : ∀ {i : Nat} {J2 : List Atom} {δ2 : SE} {σ' : L2.St} {H' : Hp}, Iv i J2 δ2 → Sta J2 F0 H0 δ2 τd σ' τ H' → H' d = some (.frz o (.dK (dOf ks fun k => .ref (la k)))) := fun iv S => by
      obtain ⟨F1, _, _, _, h⟩ := S.atom (hz _ _ _ iv)
      exact h
    refine ⟨d, o, rfl, .inl ⟨dOf ks fun k => .ref (la k), at1 h0 S1.pop, ?_⟩⟩
    refine ⟨fun i m σ' H' => m = ks.length - i ∧ i ≤ ks.length ∧ ∃ J2 δ2, Iv i J2 δ2 ∧ Sta J2 F0 H0 δ2 τd σ' τ H', ⟨ks.length, by omega, Nat.zero_le _, J1, δ, h0, S1.pop⟩, ?_⟩
    rintro i m σ' H' ⟨rfl, hi, J2, δ2, iv, S2⟩
    have hd2 := at1 iv S2
    by_cases hlt : i < ks.length
    · refine .inr ⟨⟨hd2, by rw [dOf_len]; exact hlt⟩, fun σ'' H'' => ∃ J2 δ2, Iv (i + 1) J2 δ2 ∧ Sta J2 F0 H0 δ2 τd σ'' τ H'', fun σ'' H'' p => ⟨ks.length - (i + 1), by omega, rfl, hlt, p⟩, ?_⟩
      rintro x H3 ⟨eh, k, w, hk, ex⟩
      subst eh ex
      obtain ⟨n, hn, rfl⟩ := keys_at hk
      obtain ⟨δ3, htg, hsg⟩ := hs i n J2 δ2 hn iv
      refine htg J2 F0 H0 _ σ' _ (.int n) _ _ (S2.flat (d := .int n) rfl) fun σ2 S4 => ?_
      exact hsg F0 H0 _ σ2 _ _ _ S4 (fun J3 δ4 σ3 H3 n S5 => ⟨J3, δ4, n, S5⟩) (fun J3 s v δ4 σ3 H3 r S5 => b J3 s v δ4 σ3 H3 r S5) fun J3 δ4 σ3 H3 n S5 => a J3 δ4 σ3 H3 n S5
    · obtain rfl : i = ks.length := by omega
      exact .inl ⟨⟨hd2, by rw [dOf_len]; exact Nat.le_refl _⟩, a J2 δ2 σ' H' (hd _ _ iv) S2⟩
/-- [e(k) for k in d if f(k)], under its lock -/
theorem ev_lcK {o : Obj} {j : Nat} {f : Int → Bool} {m : Int → Dt} (ho : EvV J td δ (.ref d)) (hz : dictZ o d ks la ∈ J) (ht : ∀ A k, k ∈ ks → EvB (A :: J) tt (δ.set j (some (.dat (.int k)))) (f k)) (he : ∀ A k, k ∈ ks → f k = true → EvD (A :: J) te (δ.set j (some (.dat (.int k)))) (m k)) :
    EvL J (tLc (iKeys td) (gName j) tt te [j]) δ ((ks.filter f).map m) := fun F0 H0 τd σ τ H Q S kk =>
  ho _ _ _ _ _ _ _ S fun J1 s v H1 ⟨e, es⟩ S1 => by
    subst e es
    obtain ⟨F, _, _, ev⟩ := S1.top
    have ev : v = .ref d := ev
    subst ev
    have at1 : ∀ {A : Atom} {δ2 : SE} {σ' : L2.St} {H' : Hp}, Sta (A :: J1) F0 H0 δ2 τd σ' τ H' → ks.length ≤ 8 ∧ H' d = some (.frz o (.dK (dOf ks fun k => .ref (la k)))) := fun S => by
      obtain ⟨F1, _, _, h2, h⟩ := S.atom (List.mem_cons_of_mem _ hz)
      exact ⟨h2, h⟩
    obtain ⟨F1, _, _, _, hdd⟩ := S1.atom hz
    refine ⟨d, o, rfl, .inl ⟨dOf ks fun k => .ref (la k), hdd, fun D hD => ?_⟩⟩
    refine ⟨fun i mm H' => mm = ks.length - i ∧ i ≤ ks.length ∧ Sta (lstA D (((ks.take i).filter f).map m) :: J1) F0 H0 δ τd σ τ H', ⟨ks.length, by omega, Nat.zero_le _, S1.pop.newA hD rfl⟩, ?_⟩
    rintro i mm H' ⟨rfl, hi, S3⟩
    obtain ⟨h8, hd2⟩ := at1 S3
    by_cases hlt : i < ks.length
    · refine .inr ⟨⟨hd2, by rw [dOf_len]; exact hlt⟩, fun H'' => Sta (lstA D (((ks.take (i + 1)).filter f).map m) :: J1) F0 H0 δ τd σ τ H'', fun H'' p => ⟨ks.length - (i + 1), by omega, rfl, hlt, p⟩, ?_⟩
      rintro x H3 ⟨eh, k, w, hk, ex⟩
      subst eh ex
      obtain ⟨n, hn, rfl⟩ := keys_at hk
      have hm := List.mem_of_getElem? hn
      have et : ks.take (i + 1) = ks.take i ++ [n] := by rw [List.take_add_one, hn]; rfl
      have hlen : ((((ks.take i).filter f).map m)).length < 100000 := by
        rw [List.length_map]
        have h1 := List.length_filter_le f (ks.take i)
        rw [List.length_take] at h1
        omega
      refine lc_turn S3 (d := .int n) (v := .int n) rfl hlen (Pb := fun b => b = f n) (Pe := fun d => d = m n) (ht _ n hm) (fun pb => he _ n hm pb.symm) (fun pb H4 S4 => ?_) fun pb e H4 pe S4 => ?_
      · rw [et, List.filter_append, List.filter_cons_of_neg (by rw [← pb]; exact Bool.false_ne_true)]
        simpa using S4
      · rw [et, List.filter_append, List.filter_cons_of_pos (by rw [← pb]), List.map_append]
        rw [pe] at S4
        simpa using S4
    · obtain rfl : i = ks.length := by omega
      refine .inl ⟨⟨hd2, by rw [dOf_len]; exact Nat.le_refl _⟩, ?_⟩
      rw [List.take_length] at S3
      exact kk J1 _ _ H' ⟨rfl, rfl⟩ S3.freeL
/-- min(d) -/
theorem ev_minR (ho : EvV J te δ (.ref d)) (m : dictR d ks la ∈ J) (hne : ks ≠ []) : EvI J (tCB rMinK (tCons te tNil)) δ fun n => n ∈ ks ∧ ∀ j ∈ ks, n ≤ j := fun F0 H0 τd σ τ H Q S k => ho _ _ _ _ _ _ _ S fun J1 s v H1 ⟨e, es⟩ S1 => by
  subst e es
  obtain ⟨F, _, _, ev⟩ := S1.top
  have ev : v = .ref d := ev
  subst ev
  obtain ⟨F1, _, _, _, hd⟩ := S1.atom m
  exact ⟨d, _, ks, rfl, hd, dOf_keys .., hne, fun n h1 h2 => k J1 _ _ H1 ⟨rfl, _, rfl, n, rfl, h1, h2⟩ (S1.pop.flat (d := .int n) rfl)⟩
/-- [x] * n -/
theorem ev_repL {x : Dt} {n : Nat} (ha : EvL J ta δ [x]) (hb : EvD J tb δ (.int n)) (hz : n ≤ 1000) : EvL J (tOp rRep ta tb) δ (List.replicate n x) := fun F0 H0 τd σ τ H Q S k => ha _ _ _ _ _ _ _ S fun J1 s v H1 ⟨e, es⟩ S1 => by
  subst e es
  refine hb _ _ _ _ _ _ _ S1 fun J2 s2 v2 H2 ⟨e2, d2, es2, ed2⟩ S2 => ?_
  subst e2 es2 ed2
  have ev : v2 = .int n := S2.dat
  subst ev
  obtain ⟨l, vs, rfl, hl, hs⟩ := S2.pop.lst
  obtain ⟨w, r, rfl, hw, hr⟩ := hs
  have er : r = [] := hr
  subst er
  refine ⟨l, n, [w], rfl, rfl, hl, by omega, by omega, ?_, fun p hp => k _ _ _ _ ⟨rfl, rfl⟩ (S2.pop.pop.newLst hp ?_)⟩
  · show 1 * (n : Int).toNat ≤ sizeLine
    rw [Nat.one_mul, Int.toNat_natCast]
    exact Nat.le_trans hz (by decide)
  · rw [Int.toNat_natCast, rep_one]
    exact isDs_rep hw n
/-- all(bools) -/
theorem ev_all {bs : List Bool} (ha : EvL J te δ (bs.map Dt.bl)) : EvD J (tCB (rAll K) (tCons te tNil)) δ (.bl (bs.all id)) := fun F0 H0 τd σ τ H Q S k => ha _ _ _ _ _ _ _ S fun J1 s v H1 ⟨e, es⟩ S1 => by
  subst e es
  obtain ⟨l, vs, rfl, hl, hs⟩ := S1.lst
  have ev : vs = bs.map V.bl := by
    have h := (isDs_flat (ds := bs.map Dt.bl) (by rw [List.all_map]; exact List.all_eq_true.mpr fun _ _ => rfl) hs).1
    rw [h, List.map_map]
    rfl
  subst ev
  exact ⟨l, bs, rfl, SqL.of hl, k J1 _ _ H1 ⟨rfl, _, rfl, rfl⟩ (S1.pop.flat (d := .bl (bs.all id)) rfl)⟩
end
end LK

namespace LK
open PySem PySem.Spec PyProof.Rows L2
local macro_rules | `(tactic| walk_at "rr") => `(tactic| first
  | (with_reducible exact rr_head)
  | ((with_reducible refine rr_ixT (d := ?d) ?h); (case h => exact rfl))
  | (with_reducible exact rr_eqS)
  | (with_reducible exact rr_eqI)
  | (with_reducible exact rr_neI)
  | (with_reducible exact rr_II)
  | (with_reducible exact rr_IB))
local macro_rules | `(tactic| walk_at "ev") => `(tactic| first
  | (with_reducible exact ev_int)
  | (with_reducible exact ev_str)
  | (with_reducible exact ev_non)
  | (with_reducible exact ev_bl)
  | ((with_reducible refine ev_dat (d := ?d) ?h); (case h => exact rfl))
  | (with_reducible exact ea_d0)
  | ((with_reducible refine ea_d (d := ?d) (ds := ?ds) ?h1 ?h2); (case h1 => walk_at "ev"); (case h2 => walk_at "ev"))
  | ((with_reducible refine ev_op (da := ?da) (db := ?db) (dc := ?dc) ?h1 ?h2 ?h3); (case h1 => walk_at "ev"); (case h2 => walk_at "ev"); (case h3 => walk_at "rr"))
  | ((with_reducible refine ev_tup (ds := ?ds) ?h1 ?h2); (case h1 => walk_at "ev"); (case h2 => exact Nat.le_of_ble_eq_true rfl))
  | ((with_reducible refine et_b (b := ?b) ?h1); (case h1 => walk_at "ev")))

section
variable {J J0 : List Atom} {δ : SE} {te tv tk ta tb tl ti td ty : TE} {t : TA} {u tb2 : TS} {K : PySem.W.Frag} {O : Outs} {g : TG} {tt : TT}
/-! ### k not in dict(pairs) -/
theorem val_merge : ∀ (more acc : List (L2.Key × V)) (j : L2.Key), (valV (mergeK acc more) j).isSome = true ↔ (valV acc j).isSome = true ∨ j ∈ more.map (·.1)
  | [], acc, j => by
    show (valV acc j).isSome = true ↔ _
    simp
  | (k, v) :: more, acc, j => by
    show (valV (mergeK (putK acc k v) more) j).isSome = true ↔ _
    rw [val_merge more, valV_put]
    by_cases e : j = k
    · rw [if_pos e]
      simp [e]
    · rw [if_neg e]
      simp [e]
theorem pairs_of {H : Hp} {X : Int → Dt} : ∀ {as : List Int} {vs : List V}, IsDs H (as.map fun k => .tup [.int k, X k]) vs → ∃ (ps : List Addr) (kvs : List (L2.Key × V)), vs = ps.map V.ref ∧ Paired (fun p kv => SqT K H p [kV kv.1, kv.2]) ps kvs ∧ kvs.map (·.1) = as.map Sum.inl
  | [], vs, h => by
    have e : vs = [] := h
    exact ⟨[], [], e, .nil, rfl⟩
  | a :: as, vs, h => by
    obtain ⟨v, r, rfl, ⟨q, ws, rfl, hq, x, r2, rfl, hx, y, r3, rfl, hy, hr3⟩, h2⟩ := h
    have e3 : r3 = [] := hr3
    have ex : x = .int a := hx
    subst e3 ex
    obtain ⟨ps, kvs, rfl, p, e⟩ := pairs_of h2
    exact ⟨q :: ps, (Sum.inl a, y) :: kvs, rfl, .cons (SqT.of hq) p, by rw [List.map_cons, e]; rfl⟩
theorem ev_notinP {k : Int} {as : List Int} {X : Int → Dt} (hk : EvD J ty δ (.int k)) (hl : EvL J te δ (as.map fun k => .tup [.int k, X k])) :
    EvD J (tDNotIn ty (tCB (fun xs H Q => ∃ (a : Addr) (ps : List Addr) (kvs : List (L2.Key × V)), xs = [.ref a] ∧ SqL K H a (ps.map V.ref) ∧ Paired (fun p kv => SqT K H p [kV kv.1, kv.2]) ps kvs ∧ ∀ p, H p = none → Q (.ref p) (upd H p (.dK (mergeK [] kvs)))) (tCons te tNil))) δ (.bl (!decide (k ∈ as))) := fun F0 H0 τd σ τ H Q S q =>
  hk _ _ _ _ _ _ _ S fun J1 s1 u H1 ⟨e1, d1, es1, ed1⟩ S1 => by
    subst e1 es1 ed1
    refine hl _ _ _ _ _ _ _ S1 fun J2 s2 u2 H2 ⟨e2, es2⟩ S2 => ?_
    subst e2 es2
    have eu : u = .int k := S2.pop.dat
    subst eu
    obtain ⟨l, vs, rfl, hl2, hs⟩ := S2.lst
    obtain ⟨ps, kvs, rfl, hp, hke⟩ := pairs_of (K := K) hs
    refine ⟨l, ps, kvs, rfl, SqL.of hl2, hp, fun p hpn => ?_⟩
    have hg : DGet (upd H2 p (.dK (mergeK [] kvs))) p (kV (Sum.inl k : L2.Key)) (valV (mergeK [] kvs) (Sum.inl k : L2.Key)) := DGet.k upd_same
    refine ⟨p, _, rfl, hg, ?_⟩
    have eb : (valV (mergeK [] kvs) (Sum.inl k : L2.Key)).isSome = decide (k ∈ as) := by
      rw [Bool.eq_iff_iff, val_merge, hke, decide_eq_true_iff]
      show (false = true ∨ _) ↔ _
      simp
    rw [eb]
    have S3 : Sta J2 F0 H0 δ (.any :: τd) σ (.ref p :: τ) (upd H2 p (.dK (mergeK [] kvs))) := S2.pop.pop.new hpn fun _ _ _ => trivial
    exact q J2 _ _ _ ⟨rfl, _, rfl, rfl⟩ (S3.pop.flat (d := .bl (!decide (k ∈ as))) rfl)
/-! ### lists of lanes that are the same -/
mutual
def pyD : Dt → PyData
  | .non => .none
  | .bl b => .bool b
  | .int i => .int i
  | .str s => .str s
  | .tup ds => .tuple (pyDs ds)
def pyDs : List Dt → List PyData
  | [] => []
  | d :: ds => pyD d :: pyDs ds
end
mutual
theorem dp_of {H : Hp} : ∀ {d : Dt} {v : V}, IsD H d v → Dp K H v (pyD d)
  | .non, v, h => by
    obtain rfl : v = .non := h
    exact .non
  | .bl b, v, h => by
    obtain rfl : v = .bl b := h
    exact .bl b
  | .int i, v, h => by
    obtain rfl : v = .int i := h
    exact .int i
  | .str s, v, h => by
    obtain rfl : v = .str s := h
    exact .str s
  | .tup ds, v, h => by
    obtain ⟨a, vs, rfl, ha, hs⟩ := h
    exact .tup (SqT.of ha) (dpAll_of hs)
theorem dpAll_of {H : Hp} : ∀ {ds : List Dt} {vs : List V}, IsDs H ds vs → DpAll K H vs (pyDs ds)
  | [], vs, h => by
    obtain rfl : vs = [] := h
    exact .nil
  | d :: ds, vs, h => by
    obtain ⟨v, r, rfl, h1, h2⟩ := h
    exact .cons (dp_of h1) (dpAll_of h2)
end
theorem lay_ints : ∀ ns : List Int, PyData.canLayAll0 (pyDs (ns.map Dt.int)) = true ∧ PyData.depthAll (pyDs (ns.map Dt.int)) = 0
  | [] => ⟨rfl, rfl⟩
  | n :: ns => by
    obtain ⟨h1, h2⟩ := lay_ints ns
    refine ⟨?_, ?_⟩
    · show (true && PyData.canLayAll0 (pyDs (ns.map Dt.int))) = true
      rw [h1]
      rfl
    · show max 0 (PyData.depthAll (pyDs (ns.map Dt.int))) = 0
      rw [h2]
      rfl
theorem lay_lane (l : Lane) : PyData.canLay0 (pyD l.toD) = true ∧ PyData.depth (pyD l.toD) ≤ 2 := by
  obtain ⟨h1, h2⟩ := lay_ints l.regs
  obtain ⟨h3, h4⟩ := lay_ints l.cells
  refine ⟨?_, ?_⟩
  · show (true && (PyData.canLayAll0 (pyDs (l.regs.map Dt.int)) && (PyData.canLayAll0 (pyDs (l.cells.map Dt.int)) && true))) = true
    rw [h1, h3]
    rfl
  · show max 0 (max (PyData.depthAll (pyDs (l.regs.map Dt.int)) + 1) (max (PyData.depthAll (pyDs (l.cells.map Dt.int)) + 1) 0)) + 1 ≤ 2
    rw [h2, h4]
    decide
theorem lay_lanes : ∀ ls : List Lane, PyData.canLayAll0 (pyDs (ls.map Lane.toD)) = true ∧ PyData.depthAll (pyDs (ls.map Lane.toD)) ≤ 2
  | [] => ⟨rfl, Nat.zero_le _⟩
  | l :: ls => by
    obtain ⟨h1, h2⟩ := lay_lanes ls
    obtain ⟨h3, h4⟩ := lay_lane l
    refine ⟨?_, ?_⟩
    · show (PyData.canLay0 (pyD l.toD) && PyData.canLayAll0 (pyDs (ls.map Lane.toD))) = true
      rw [h1, h3]
      rfl
    · show max (PyData.depth (pyD l.toD)) (PyData.depthAll (pyDs (ls.map Lane.toD))) ≤ 2
      omega
theorem ev_neL {l : Addr} {ls : List Lane} (ha : EvV J ta δ (.ref l)) (m : lstA l (ls.map Lane.toD) ∈ J) (hb : EvL J tb δ (ls.map Lane.toD)) : EvD J (tOp (rNeD K) ta tb) δ (.bl false) := fun F0 H0 τd σ τ H Q S k =>
  ha _ _ _ _ _ _ _ S fun J1 s v H1 ⟨e, es⟩ S1 => by
    subst e es
    refine hb _ _ _ _ _ _ _ S1 fun J2 s2 v2 H2 ⟨e2, es2⟩ S2 => ?_
    subst e2 es2
    obtain ⟨F, _, _, ev⟩ := S2.pop.top
    have ev : v = .ref l := ev
    subst ev
    obtain ⟨F1, _, vs, hl, hs⟩ := S2.atom m
    obtain ⟨l2, vs2, rfl, hl2, hs2⟩ := S2.lst
    obtain ⟨h1, h2⟩ := lay_lanes ls
    have hlay : PyData.canLay0 (.list (pyDs (ls.map Lane.toD))) = true := h1
    have hsh : SeqAt.shaped (.list (pyDs (ls.map Lane.toD))) = true := by
      unfold SeqAt.shaped
      rw [hlay]
      show (true && decide (PyData.depthAll (pyDs (ls.map Lane.toD)) + 1 ≤ 64)) = true
      rw [decide_eq_true (by omega)]
      rfl
    refine ⟨.list (pyDs (ls.map Lane.toD)), .list (pyDs (ls.map Lane.toD)), .lst (SqL.of hl) (dpAll_of hs), .lst (SqL.of hl2) (dpAll_of hs2), hsh, hsh, ?_⟩
    rw [SeqAt.eqv_refl _ hlay]
    exact k J2 _ _ H2 ⟨rfl, _, rfl, rfl⟩ (S2.pop.pop.flat (d := .bl false) rfl)
end
/-! ### words told -/
theorem fmod_nat (a b : Nat) : ((a : Int)).fmod (b : Int) = ((a % b : Nat) : Int) := by
  rw [Int.fmod_eq_emod_of_nonneg _ (by omega)]
  rfl
def needS (x : Str) : Bool := decide (x = "load") || decide (x = "collect")
def wordN (ws : List Int) (need : Bool) (n : Nat) : Int := if need = true then ws.getD (n % ws.length) 0 else 0
def tellF (as : List Int) (nd : Int → Bool) (tl : Int → Nat) (k : Int) : Nat := if k ∈ as ∧ nd k = true then tl k + 1 else tl k
def toldP : List Atom → List Sl → JO → Prop := fun J ss R => ∃ (dw : Addr) (ks : List Int) (la : Int → Addr) (dt : Addr) (tl : Int → Nat) (J0 : List Atom) (ws : Int → List Int) (as : List Int) (kd : Int → Str) (rr : Int → List Dt),
  J.Perm (dictD dt ks (fun k => .int (tl k)) :: J0) ∧ HasR J0 dw ks la ∧ (∀ k ∈ ks, lstA (la k) ((ws k).map Dt.int) ∈ J0 ∧ ws k ≠ []) ∧ as.Nodup ∧ (∀ k ∈ as, k ∈ ks) ∧ as.length ≤ 6 ∧ ks.length ≤ 8 ∧
  ss = [.val (.ref dw), .val (.ref dt), .lst (as.map fun k => .tup [.int k, .tup (.str (kd k) :: rr k)])] ∧
  R = fun J1 s => J1.Perm (dictD dt ks (fun k => .int (tellF as (fun k => needS (kd k)) tl k)) :: J0) ∧ s = .lst (as.map fun k => .int (wordN (ws k) (needS (kd k)) (tl k)))
section
variable {P : Program} {w : World} {K : PySem.W.Frag} {mg : Str → Option Value} {base : Heap} {f : Addr} {fd : FuncData}
theorem scFtold : FnScope ["_law_words", "_law_told_here", "_law_asked", "_law_found", "_law_tid", "_law_row", "_law_word"] ["_law_words", "_law_told_here", "_law_asked"] (defScope sFtold) := ⟨rfl, rfl, rfl, by decide +kernel, rfl, by decide +kernel, by decide +kernel⟩
theorem ok_told (F : FunP K "_law_told" sFtold f fd) (T : Txt K mg) : FnOk P w K mg base CX0 1 f fd ["_law_words", "_law_told_here", "_law_asked"] (spG toldP) := by
  have sc := scFtold
  refine fn_sg F sc (fun J ss R h => ?_) (fun cdv A outer s H E hr => ⟨_, (pss_cons (ps_set (i := 3) sc.nd rfl (.inl rfl) (pe_lst pa_nil))
    (pss_cons (ps_for PassesOwn.never rfl (pi_list (pv 2)) (pg_tup (by rfl) (pgs_cons (pg_name (i := 4) sc.nd rfl (.inl rfl)) (pgs_cons (pg_name (i := 5) sc.nd rfl (.inl rfl)) pgs_nil))) (pss_cons (ps_set (i := 6) sc.nd rfl (.inl rfl) pe_int)
    (pss_cons (ps_if (pt_cmpR op_in_seq (pe_ix ix_tup (pv 5) pe_int (fun _ _ => rfl)) (pe_tup (pa_cons pe_str (pa_cons pe_str pa_nil))) (by rfl)) (pss_cons (ps_set (i := 6) sc.nd rfl (.inl rfl) (pe_ix ix_list (pe_dget (hu_of hr) (pv 0) (pv 4) (fun _ _ => rfl)) (pe_op op_modN (pe_callTy call_int1 (by rfl) T.n_int (by decide +kernel) (pa_cons (pe_dget (hu_of hr) (pv 1) (pv 4) (fun _ _ => rfl)) pa_nil)) (pe_callB call_len_seq (by rfl) T.n_len (by decide +kernel) (pa_cons (pe_dget (hu_of hr) (pv 0) (pv 4) (fun _ _ => rfl)) pa_nil))) (fun _ _ => rfl)))
    (pss_one (ps_dput (hu_of hr) (pv 1) (pv 4) (pe_op op_add (pe_dget (hu_of hr) (pv 1) (pv 4) (fun _ _ => rfl)) pe_int) rfl))) pss_nil)
    (pss_one (ps_expr (pe_bm PySem.F.plainAttrs_list PySem.F.slot_list_append PySem.F.type_list_append mt_append (pv 3) (pa_cons (pv 6) pa_nil)))))))
    (pss_one (ps_ret (pv 3))))), fun J ss R h => ?_⟩)
  · obtain ⟨dw, ks, la, dt, tl, J0, ws, as, kd, rr, p, hR, hw, hn, hk, h6, h8, rfl, rfl⟩ := h
    rfl
  · obtain ⟨dw, ks, la, dt, tl, J0, ws, as, kd, rr, p, hR, hw, hn, hk, h6, h8, rfl, rfl⟩ := h
    refine sg_newL fun fl => ?_
    refine SG.perm (p.cons _) ?_
    let δb : Option Sl → Option Sl → Option Sl → SE := fun a b c => [some (.val (.ref dw)), some (.val (.ref dt)), some (.lst (as.map fun k => .tup [.int k, .tup (.str (kd k) :: rr k)])), some (.val (.ref fl)), a, b, c]
    let Ji : Nat → List Atom := fun i => lstA fl ((as.take i).map fun k => Dt.int (wordN (ws k) (needS (kd k)) (tl k))) :: dictD dt ks (fun k => .int (tellF (as.take i) (fun k => needS (kd k)) tl k)) :: J0
    refine sg_seq (N := fun J1 δ1 => J1 = Ji as.length ∧ ∃ a b c, δ1 = δb a b c) ?_ ?_
    · refine sg_forL (J' := Ji 0) (ds := as.map fun k => .tup [.int k, .tup (.str (kd k) :: rr k)]) (Iv := fun i J1 δ1 => J1 = Ji i ∧ ∃ a b c, δ1 = δb a b c) ?_ ⟨rfl, _, _, _, rfl⟩ ?_ fun J1 δ1 h => by rw [List.length_map] at h; exact h
      · have e : (fun k => Dt.int (tellF (as.take 0) (fun k => needS (kd k)) tl k : Nat)) = fun k => Dt.int (tl k : Nat) := by
          funext k
          unfold tellF
          rw [if_neg fun z => by cases z.1]
        show EvG _ _ _ fun J1 s => J1 = lstA fl [] :: dictD dt ks (fun k => Dt.int (tellF (as.take 0) (fun k => needS (kd k)) tl k : Nat)) :: J0 ∧ _
        rw [e]
        exact ev_lst rfl
      · rintro i d J1 δ1 hd ⟨rfl, a, b, c, rfl⟩
        rw [List.getElem?_map] at hd
        cases hi : as[i]? with
        | none => rw [hi] at hd; cases hd
        | some k =>
          rw [hi] at hd
          cases hd
          have hm := List.mem_of_getElem? hi
          have hkk := hk k hm
          have et : as.take (i + 1) = as.take i ++ [k] := by rw [List.take_add_one, hi]; rfl
          have hnk : k ∉ as.take i := fun z => by
            have h2 : (as.take (i + 1)).Nodup := hn.sublist (List.take_sublist ..)
            rw [et, List.nodup_append] at h2
            exact h2.2.2 k z k (List.mem_singleton.mpr rfl) rfl
          have etl : tellF (as.take i) (fun k => needS (kd k)) tl k = tl k := by
            unfold tellF
            rw [if_neg fun z => hnk z.1]
          obtain ⟨hwm, hwn⟩ := hw k hkk
          have hmR : HasR (Ji i) dw ks la := hR.elim (fun h => .inl (List.mem_cons_of_mem _ (List.mem_cons_of_mem _ h))) fun ⟨o, h⟩ => .inr ⟨o, List.mem_cons_of_mem _ (List.mem_cons_of_mem _ h)⟩
          have hmW : lstA (la k) ((ws k).map Dt.int) ∈ Ji i := List.mem_cons_of_mem _ (List.mem_cons_of_mem _ hwm)
          have hmT : dictD dt ks (fun k => .int (tellF (as.take i) (fun k => needS (kd k)) tl k)) ∈ Ji i := List.mem_cons_of_mem _ (List.mem_cons_self ..)
          refine ⟨_, tg_tup (ds := [.int k, .tup (.str (kd k) :: rr k)]) (tgs_cons tg_name (tgs_cons tg_name tgs_nil)), ?_⟩
          refine sg_letD ev_int ?_
          refine sg_seq (N := fun J1 δ1 => J1 = lstA fl ((as.take i).map fun k => Dt.int (wordN (ws k) (needS (kd k)) (tl k))) :: dictD dt ks (fun k => .int (tellF (as.take (i + 1)) (fun k => needS (kd k)) tl k)) :: J0 ∧ δ1 = δb (some (.dat (.int k))) (some (.dat (.tup (.str (kd k) :: rr k)))) (some (.dat (.int (wordN (ws k) (needS (kd k)) (tl k)))))) ?_ ?_
          · refine sg_ifB (z := needS (kd k)) (et_b (ev_in2 (x := kd k) (ev_op (da := .tup (.str (kd k) :: rr k)) (ev_dat rfl) ev_int rr_head) (by walk_at "ev"))) (fun e => ?_) fun e => ?_
            · have hpos : 0 < (ws k).length := Nat.pos_of_ne_zero fun z => hwn (List.eq_nil_of_length_eq_zero z)
              refine sg_letQ (P := fun d => d = .int (wordN (ws k) (needS (kd k)) (tl k))) (ev_ixA (ds := (ws k).map Dt.int) (P := fun j => j = ((tl k % (ws k).length : Nat) : Int)) (ev_dgetR (slf 0) (ev_dat (d := .int k) rfl) hmR hkk) hmW (EvD.toI (n := ((tl k : Nat) : Int).fmod (((ws k).length : Nat) : Int)) (ev_op (ev_intI (ev_is (ev_dget (slf 1) (ev_dat (d := .int k) rfl) hmT hkk) (by show Dt.int _ = Dt.int _; rw [etl]))) (ev_is (ev_lenA (ev_dgetR (slf 0) (ev_dat (d := .int k) rfl) hmR hkk) hmW) (by rw [List.length_map])) (rr_modN (by omega))) (fmod_nat _ _)) fun j hj => ?_) fun dd hdd => ?_
              · refine ⟨_, by rw [hj]; exact at_int (Nat.mod_lt _ hpos), ?_⟩
                unfold wordN
                rw [if_pos e]
              · subst hdd
                refine sg_dput (s := [lstA fl ((as.take i).map fun k => Dt.int (wordN (ws k) (needS (kd k)) (tl k)))]) (t := J0) (ks := ks) (g := fun k => .int (tellF (as.take i) (fun k => needS (kd k)) tl k)) (k := k) (e := .int ((tl k : Int) + 1)) (ev_op (ev_is (ev_dget (slf 1) (ev_dat (d := .int k) rfl) hmT hkk) (by show Dt.int _ = Dt.int _; rw [etl])) ev_int rr_II) (slf 1) (ev_dat rfl) (by rw [addK_in hkk]; exact h8) ⟨?_, rfl⟩
                rw [addK_in hkk]
                have ef : upF (fun k => Dt.int (tellF (as.take i) (fun k => needS (kd k)) tl k : Nat)) k (.int ((tl k : Int) + 1)) = fun k => Dt.int (tellF (as.take (i + 1)) (fun k => needS (kd k)) tl k : Nat) := by
                  funext j
                  by_cases ej : j = k
                  · subst ej
                    rw [upF_same]
                    unfold tellF
                    rw [if_pos ⟨by rw [et]; exact List.mem_append_right _ (List.mem_singleton.mpr rfl), e⟩]
                    rfl
                  · rw [upF_ne ej]
                    unfold tellF
                    rw [et]
                    simp [ej]
                rw [ef]
                rfl
            · refine sg_next ⟨?_, ?_⟩
              · have ef : (fun k => Dt.int (tellF (as.take i) (fun k => needS (kd k)) tl k : Nat)) = fun k => Dt.int (tellF (as.take (i + 1)) (fun k => needS (kd k)) tl k : Nat) := by
                  funext j
                  unfold tellF
                  rw [et]
                  by_cases ej : j = k
                  · subst ej
                    rw [if_neg fun z => hnk z.1, if_neg fun z => by have z2 : needS (kd j) = true := z.2; rw [e] at z2; cases z2]
                  · simp [ej]
                show lstA fl _ :: dictD dt ks (fun k => Dt.int (tellF (as.take i) (fun k => needS (kd k)) tl k : Nat)) :: J0 = _
                rw [ef]
              · unfold wordN
                rw [if_neg (by rw [e]; exact Bool.false_ne_true)]
                rfl
          · rintro J1 δ1 ⟨rfl, rfl⟩
            refine sg_append (s := []) (P := fun d => d = .int (wordN (ws k) (needS (kd k)) (tl k))) (slf 3) (ev_dat rfl) (by rw [List.length_map, List.length_take]; omega) fun d hd => ⟨?_, _, _, _, rfl⟩
            show _ = lstA fl ((as.take (i + 1)).map fun k => Dt.int (wordN (ws k) (needS (kd k)) (tl k))) :: _
            rw [hd, et, List.map_append]
            rfl
    · rintro J1 δ1 ⟨rfl, a, b, c, rfl⟩
      show SG (lstA fl ((as.take as.length).map fun k => Dt.int (wordN (ws k) (needS (kd k)) (tl k))) :: dictD dt ks (fun k => .int (tellF (as.take as.length) (fun k => needS (kd k)) tl k)) :: J0) _ _ _
      rw [List.take_length]
      exact sg_retA (slf 3) ⟨List.Perm.refl _, rfl⟩
/-! ### a lane alone -/
def needI : Ins → Bool
  | .load .. => true
  | .collect .. => true
  | _ => false
theorem need_kind (i : Ins) : needS i.kind = needI i := by
  cases i <;> first | rfl | (unfold needS; decide +kernel)
theorem need_rkind (i : Ins) : needS (rkind i) = needI i := by
  cases i <;> first | rfl | (unfold needS; decide +kernel)
/-- the lane and the words told, after n instructions -/
def alN (p : Prg) (t : Int) (ws : List Int) : Nat → Lane × Nat
  | 0 => (Lane.first p, 0)
  | n + 1 => let q := alN p t ws n
    (behindN p t q.1 (wordN ws (needI (q.1.ins p)) q.2), if needI (q.1.ins p) = true then q.2 + 1 else q.2)
theorem wordN_wd {ws : List Int} (h : ∀ x ∈ ws, Wd x) {b : Bool} {n : Nat} : Wd (wordN ws b n) := by
  unfold wordN
  split
  · exact getD_wd h _
  · exact ⟨by decide, by decide⟩
theorem alN_ok {p : Prg} (hp : p.Ok) {t : Int} (h0 : 0 ≤ t) (h1 : t ≤ 1000) {ws : List Int} (hw : ∀ x ∈ ws, Wd x) : ∀ n, (alN p t ws n).1.Ok p
  | 0 => Lane.first_ok hp
  | n + 1 => behindN_ok hp (alN_ok hp h0 h1 hw n) h0 h1 (wordN_wd hw)
def seenN (p : Prg) (t : Int) (ws : List Int) (n : Nat) : List Lane := (List.range n).map fun i => (alN p t ws (i + 1)).1
theorem seenN_succ {p : Prg} {t : Int} {ws : List Int} {n : Nat} : seenN p t ws (n + 1) = seenN p t ws n ++ [(alN p t ws (n + 1)).1] := by
  unfold seenN
  rw [List.range_succ, List.map_append]
  rfl
theorem seenN_len {p : Prg} {t : Int} {ws : List Int} {n : Nat} : (seenN p t ws n).length = n := by
  unfold seenN
  rw [List.length_map, List.length_range]
def aloneP : List Atom → List Sl → JO → Prop := fun J ss R => ∃ (p : Prg) (t : Int) (l : Addr) (ws : List Int) (many : Nat), p.Ok ∧ 0 ≤ t ∧ t ≤ 1000 ∧ (∀ x ∈ ws, Wd x) ∧ ws ≠ [] ∧ lstA l (ws.map Dt.int) ∈ J ∧ many ≤ 1000 ∧
  ss = [.dat p.code, .dat p.launch, .dat (.int t), .val (.ref l), .dat (.int many)] ∧ R = fun J1 s => J1 = J ∧ s = .lst ((seenN p t ws many).map Lane.toD)
theorem scFalone : FnScope ["_law_code_here", "_law_launch_here", "_law_thread", "_law_words", "_law_many", "_law_lane", "_law_found", "_law_at", "_law_k", "_law_word"] ["_law_code_here", "_law_launch_here", "_law_thread", "_law_words", "_law_many"] (defScope sFalone) := ⟨rfl, rfl, rfl, by decide +kernel, rfl, by decide +kernel, by decide +kernel⟩
theorem ok_alone (F : FunP K "_law_alone" sFalone f fd) (T : Txt K mg) (c_Ffirstlane : Cal P w K mg base 1 "first_lane" ["code"] (spG (pureP rFirst))) (c_Fbehind : Cal P w K mg base 5 "behind" ["code", "launch", "thread", "lane", "word"] (spG (pureP rBehind))) :
    FnOk P w K mg base CX0 6 f fd ["_law_code_here", "_law_launch_here", "_law_thread", "_law_words", "_law_many"] (spG aloneP) := by
  have sc := scFalone
  refine fn_sg F sc (fun J ss R h => ?_) (fun cdv A outer s H E hr => ⟨_, (pss_cons (ps_set (i := 5) sc.nd rfl (.inl rfl) (pe_call c_Ffirstlane.ok (hr.mono (by decide)) (by rfl) c_Ffirstlane.hm c_Ffirstlane.hk c_Ffirstlane.hb .nil pass0 (pa_cons (pv 0) pa_nil)))
    (pss_cons (ps_set (i := 6) sc.nd rfl (.inl rfl) (pe_lst pa_nil))
    (pss_cons (ps_set (i := 7) sc.nd rfl (.inl rfl) pe_int)
    (pss_cons (ps_for PassesOwn.never rfl (pi_range1 (by rfl) T.n_range (pa_cons (pv 4) pa_nil)) (pg_name (i := 8) sc.nd rfl (.inl rfl)) (pss_cons (ps_set (i := 9) sc.nd rfl (.inl rfl) pe_int)
    (pss_cons (ps_if (pt_cmpR op_in_seq (pe_ix ix_tup (pe_ix ix_tup (pe_ix ix_tup (pv 0) pe_int (fun _ _ => rfl)) (pe_ix ix_tup (pv 5) pe_int (fun _ _ => rfl)) (fun _ _ => rfl)) pe_int (fun _ _ => rfl)) (pe_tup (pa_cons pe_str (pa_cons pe_str pa_nil))) (by rfl)) (pss_cons (ps_set (i := 9) sc.nd rfl (.inl rfl) (pe_ix ix_list (pv 3) (pe_op op_modN (pe_callTy call_int1 (by rfl) T.n_int (by decide +kernel) (pa_cons (pv 7) pa_nil)) (pe_callB call_len_seq (by rfl) T.n_len (by decide +kernel) (pa_cons (pv 3) pa_nil))) (fun _ _ => rfl)))
    (pss_one (ps_set (i := 7) sc.nd rfl (.inl rfl) (pe_op op_add (pv 7) pe_int)))) pss_nil)
    (pss_cons (ps_set (i := 5) sc.nd rfl (.inl rfl) (pe_call c_Fbehind.ok (hr.mono (by decide)) (by rfl) c_Fbehind.hm c_Fbehind.hk c_Fbehind.hb .nil pass0 (pa_cons (pv 0) (pa_cons (pv 1) (pa_cons (pv 2) (pa_cons (pv 5) (pa_cons (pv 9) pa_nil)))))))
    (pss_one (ps_expr (pe_bm PySem.F.plainAttrs_list PySem.F.slot_list_append PySem.F.type_list_append mt_append (pv 6) (pa_cons (pv 5) pa_nil))))))))
    (pss_one (ps_ret (pv 6))))))), fun J ss R h => ?_⟩)
  · obtain ⟨p, t, l, ws, many, hp, h0, h1, hw, hne, hm, hmany, rfl, rfl⟩ := h
    rfl
  · obtain ⟨p, t, l, ws, many, hp, h0, h1, hw, hne, hm, hmany, rfl, rfl⟩ := h
    have hpos : 0 < ws.length := Nat.pos_of_ne_zero fun z => hne (List.eq_nil_of_length_eq_zero z)
    refine sg_letD (ev_pure (ea_d (ev_dat rfl) ea_d0) ⟨p, hp, rfl, rfl⟩) ?_
    refine sg_newL fun fl => ?_
    refine sg_letD ev_int ?_
    let δb : Nat → Option Sl → Option Sl → SE := fun n a b => [some (.dat p.code), some (.dat p.launch), some (.dat (.int t)), some (.val (.ref l)), some (.dat (.int many)), some (.dat (alN p t ws n).1.toD), some (.val (.ref fl)), some (.dat (.int (alN p t ws n).2)), a, b]
    refine sg_seq (N := fun J1 δ1 => J1 = lstA fl ((seenN p t ws many).map Lane.toD) :: J ∧ ∃ a b, δ1 = δb many a b) ?_ ?_
    · refine sg_forR1 (n := many) (Iv := fun i J1 δ1 => J1 = lstA fl ((seenN p t ws i).map Lane.toD) :: J ∧ ∃ a b, δ1 = δb i a b) (ea_d (ds := []) (ev_dat rfl) ea_d0) (by omega) ⟨rfl, _, _, rfl⟩ ?_ fun J1 δ1 h => h
      rintro i J1 δ1 hi ⟨rfl, a, b, rfl⟩
      refine ⟨_, tg_name, ?_⟩
      have hlk := alN_ok hp h0 h1 hw i
      obtain ⟨hat, hok, _⟩ := Lane.ins_ok hp hlk
      have hsx : alN p t ws (i + 1) = (behindN p t (alN p t ws i).1 (wordN ws (needI ((alN p t ws i).1.ins p)) (alN p t ws i).2), if needI ((alN p t ws i).1.ins p) = true then (alN p t ws i).2 + 1 else (alN p t ws i).2) := rfl
      have hss := seenN_succ (p := p) (t := t) (ws := ws) (n := i)
      rw [hsx] at hss
      show SG _ _ ([some (.dat p.code), some (.dat p.launch), some (.dat (.int t)), some (.val (.ref l)), some (.dat (.int many)), some (.dat (alN p t ws i).1.toD), some (.val (.ref fl)), some (.dat (.int (alN p t ws i).2)), some (.dat (.int i)), b]) ⟨fun J1 δ1 => J1 = lstA fl ((seenN p t ws (i + 1)).map Lane.toD) :: J ∧ ∃ a b, δ1 = [some (.dat p.code), some (.dat p.launch), some (.dat (.int t)), some (.val (.ref l)), some (.dat (.int many)), some (.dat (alN p t ws (i + 1)).1.toD), some (.val (.ref fl)), some (.dat (.int (alN p t ws (i + 1)).2)), a, b], _, _⟩
      rw [hss, hsx]
      generalize (alN p t ws i).1 = ln at *
      generalize (alN p t ws i).2 = n at *
      have hm2 : lstA l (ws.map Dt.int) ∈ lstA fl ((seenN p t ws i).map Lane.toD) :: J := List.mem_cons_of_mem _ hm
      generalize hins : ln.ins p = ins at *
      refine sg_letD ev_int ?_
      refine sg_seq (N := fun J1 δ1 => J1 = lstA fl ((seenN p t ws i).map Lane.toD) :: J ∧ δ1 = [some (.dat p.code), some (.dat p.launch), some (.dat (.int t)), some (.val (.ref l)), some (.dat (.int many)), some (.dat ln.toD), some (.val (.ref fl)), some (.dat (.int (if needI ins = true then n + 1 else n : Nat))), some (.dat (.int i)), some (.dat (.int (wordN ws (needI ins) n)))]) ?_ ?_
      · refine sg_ifB (z := needI ins) ?_ (fun e => ?_) fun e => ?_
        · rw [← need_kind]
          exact et_b (ev_in2 (x := ins.kind) (ev_op (da := ins.toD) (ev_op (da := .tup (p.rows.map Ins.toD)) (ev_op (da := p.code) (ev_dat rfl) (ev_int (n := 3)) (rr_ixT (by rfl))) (ev_op (da := ln.toD) (ev_dat rfl) ev_int (rr_ixT (d := .int ln.at_) (by rfl))) (rr_ixT (at_map hat))) ev_int rr_head) (by walk_at "ev"))
        · refine sg_letQ (P := fun d => d = .int (wordN ws (needI ins) n)) (ev_ixA (ds := ws.map Dt.int) (P := fun j => j = ((n % ws.length : Nat) : Int)) (slf 3) hm2 (EvD.toI (n := ((n : Nat) : Int).fmod ((ws.length : Nat) : Int)) (ev_op (ev_intI (ev_dat (d := .int n) rfl)) (ev_is (ev_lenA (slf 3) hm2) (by rw [List.length_map])) (rr_modN (by omega))) (fmod_nat _ _)) fun j hj => ?_) fun dd hdd => ?_
          · refine ⟨_, by rw [hj]; exact at_int (Nat.mod_lt _ hpos), ?_⟩
            unfold wordN
            rw [if_pos e]
          · subst hdd
            refine sg_asgQ (ev_op (ev_dat (d := .int n) rfl) ev_int rr_II) fun d hd => ⟨rfl, ?_⟩
            subst hd
            rw [if_pos e]
            rfl
        · refine sg_next ⟨rfl, ?_⟩
          rw [if_neg (by rw [e]; exact Bool.false_ne_true)]
          unfold wordN
          rw [if_neg (by rw [e]; exact Bool.false_ne_true)]
          rfl
      · rintro J1 δ1 ⟨rfl, rfl⟩
        refine sg_letD (ev_pure (ea_d (ev_dat rfl) (ea_d (ev_dat rfl) (ea_d (ev_dat (d := .int t) rfl) (ea_d (ev_dat rfl) (ea_d (ev_dat rfl) ea_d0))))) ⟨p, ln, t, _, hp, hlk, h0, h1, wordN_wd hw, rfl, rfl⟩) ?_
        refine sg_append (s := []) (P := fun d => d = (behindN p t ln (wordN ws (needI ins) n)).toD) (slf 6) (ev_dat rfl) (by rw [List.length_map, seenN_len]; omega) fun d hd => ⟨?_, _, _, rfl⟩
        rw [hd, List.map_append]
        rfl
    · rintro J1 δ1 ⟨rfl, a, b, rfl⟩
      exact sg_retA (slf 6) ⟨rfl, rfl⟩
end
end LK

namespace LK
open PySem PySem.Spec PyProof.Rows L2
/-- what the walk knows of a kind of warp -/
structure Mode (m : Bool) where
  gG : WSt → List Sl → Sl → Prop
  gA : WSt → List Sl → Sl → Prop
  gS : WSt → WSt → List Sl → Prop
  gR : WSt → WSt → List Sl → Prop
  grp : WSt → Nat
  act : WSt → Nat → List Int
  Good : WSt → Prop
  ok : ∀ {W}, Good W → W.Ok
  few : ∀ {W}, Good W → grp W ≤ 6
  hG : ∀ {W}, Good W → gG W [] (.dat (.int (grp W)))
  hA : ∀ {W} {g : Nat}, Good W → g < grp W → gA W [.dat (.int g)] (.lst ((act W g).map (askD W)))
  ne : ∀ {W} {g : Nat}, Good W → g < grp W → act W g ≠ []
  nd : ∀ {W} {g : Nat}, Good W → g < grp W → (act W g).Nodup
  ks : ∀ {W} {g : Nat} {k : Int}, Good W → g < grp W → k ∈ act W g → k ∈ W.ks
  same : ∀ {W} {g : Nat} {j k : Int}, Good W → g < grp W → j ∈ act W g → k ∈ act W g → insOf W j = insOf W k
  hS : ∀ {W} {g : Nat} {ps : List (Int × Int)}, Good W → g < grp W → ps.map (·.1) = act W g → (∀ r ∈ ps, Wd r.2) → ∃ W', gS W W' [.dat (.int g), .lst (ps.map fun q => .int q.2)] ∧ Good W' ∧ W'.ks = W.ks ∧ W'.p = W.p ∧ W'.base = W.base ∧
    (∀ k z, (k, z) ∈ ps → W'.st k = if (insOf W k).isWait = true then W.st k else behindN W.p (W.base + k) (W.st k) z) ∧ ∀ k, k ∉ act W g → W'.st k = W.st k
  hR : ∀ {W} {ps : List (Int × Int)}, Good W → grp W = 0 → W.wk ≠ [] → ps.map (·.1) = ascI W.wk → (∀ r ∈ ps, Wd r.2) → ∃ W', gR W W' [.lst (ps.map fun q => .int q.2)] ∧ Good W' ∧ W'.ks = W.ks ∧ W'.p = W.p ∧ W'.base = W.base ∧
    (∀ k z, (k, z) ∈ ps → W'.st k = behindN W.p (W.base + k) (W.st k) z) ∧ ∀ k, k ∉ W.wk → W'.st k = W.st k
theorem stay_exit {p : Prg} {t z : Int} {l : Lane} (h : (l.ins p).isExit = true) : behindN p t l z = l := by
  unfold behindN
  generalize l.ins p = i at h ⊢
  cases i <;> first | rfl | cases h
theorem go_keep {W : WSt} (ok : W.Ok) : ∀ {ps : List (Int × Int)}, (ps.map (·.1)).Nodup → (∀ k z, (k, z) ∈ ps → (goes W ps).st k = behindN W.p (W.base + k) (W.st k) z) ∧ ∀ k, k ∉ ps.map (·.1) → (goes W ps).st k = W.st k := by
  intro ps
  induction ps using snoc_ind with
  | h0 => exact fun _ => ⟨fun k z h => by (cases h), fun k _ => rfl⟩
  | hs ps q ih =>
    intro n
    rw [List.map_append, List.nodup_append] at n
    obtain ⟨n1, n2, n3⟩ := n
    obtain ⟨i1, i2⟩ := ih n1
    obtain ⟨g1, g2, g3, g4, _⟩ := goes_wk (W := W) (ps := ps)
    obtain ⟨a, b⟩ := q
    have hna : a ∉ ps.map (·.1) := fun hm => n3 a hm a (by simp) rfl
    rw [goes_snoc]
    refine ⟨fun k z hk => ?_, fun k hk => ?_⟩
    · rcases List.mem_append.mp hk with hk | hk
      · have hne : k ≠ a := fun e => hna (by rw [← e]; exact List.mem_map.mpr ⟨_, hk, rfl⟩)
        show upF _ a _ k = _
        rw [upF_ne hne]
        exact i1 k z hk
      · have e := List.mem_singleton.mp hk
        cases e
        show upF _ a _ a = _
        rw [upF_same, g3, g4, i2 a hna]
    · rw [List.map_append, List.mem_append] at hk
      show upF _ a _ k = _
      rw [upF_ne fun e => hk (.inr (by rw [e]; exact List.mem_singleton.mpr rfl))]
      exact i2 k fun z => hk (.inl z)
theorem adv_st {W : WSt} (ok : W.Ok) {ps : List (Int × Int)} (hn : (ps.map (·.1)).Nodup) (hp : ∀ q ∈ ps, q.1 ∈ W.ks ∧ Wd q.2) {k z : Int} (h : (k, z) ∈ ps) : (adv W ps).st k = if (insOf W k).isWait = true then W.st k else behindN W.p (W.base + k) (W.st k) z := by
  rw [(adv_facts ok hn hp).1 k z h]
  cases hw : (insOf W k).isWait with
  | true => rfl
  | false =>
    cases hx : (insOf W k).isExit with
    | true =>
      rw [if_neg Bool.false_ne_true]
      show W.st k = _
      exact (stay_exit hx).symm
    | false => rfl
/-! ### the two kinds -/
theorem placeN_none {W : WSt} (h : (placeN W).length = 0) : runN W = [] := by
  have e := List.eq_nil_of_length_eq_zero h
  cases q : runN W with
  | nil => rfl
  | cons k r =>
    have : plc W k ∈ placeN W := mem_ascI.mpr (List.mem_map.mpr ⟨k, by rw [q]; exact List.mem_cons_self .., rfl⟩)
    rw [e] at this
    cases this
def modeF : Mode false where
  gG := gGroupsF
  gA := gAsksF
  gS := gStepF
  gR := gRelF
  grp := fun W => (placeN W).length
  act := actF
  Good := WSt.Ok
  ok := id
  few := fun {W} ok => by
    refine Nat.le_trans (sub_len (asc_nodup (asc_ascI _)) fun k hk => mem_ascI.mp hk) ?_
    rw [List.length_map]
    exact run_len ok
  hG := fun ok => ⟨rfl, rfl⟩
  hA := fun ok hg => ⟨_, hg, rfl, rfl⟩
  ne := fun ok hg => act_ne hg
  nd := fun ok hg => (run_nodup ok).filter _
  ks := fun ok hg h => mem_runks (act_mem h)
  same := fun ok hg h1 h2 => ins_same ((of_decide_eq_true (List.mem_filter.mp h1).2).trans (of_decide_eq_true (List.mem_filter.mp h2).2).symm)
  hS := fun {W g ps} ok hg hps hw => by
    have hn : (ps.map (·.1)).Nodup := by rw [hps]; exact (run_nodup ok).filter _
    have hp : ∀ q ∈ ps, q.1 ∈ W.ks ∧ Wd q.2 := fun r hr => ⟨mem_runks (act_mem (by rw [← hps]; exact List.mem_map.mpr ⟨r, hr, rfl⟩)), hw r hr⟩
    obtain ⟨ok1, k1, kp, kb, kst⟩ := adv_keep ok (ps := ps) (qs := []) (by rw [List.append_nil]; exact hn) hp
    exact ⟨adv W ps, ⟨g, ps, hg, hps, hw, rfl, rfl⟩, ok1, k1, kp, kb, fun k z h => adv_st ok hn hp h, fun k hk => kst k (by rw [hps]; exact hk)⟩
  hR := fun {W ps} ok hg hwk hps hw => by
    have hn : (ps.map (·.1)).Nodup := by rw [hps]; exact asc_nodup (asc_ascI _)
    have hp : ∀ q ∈ ps, q.1 ∈ W.ks ∧ Wd q.2 := fun r hr => ⟨wk_ks ok (by rw [← hps]; exact List.mem_map.mpr ⟨r, hr, rfl⟩), hw r hr⟩
    obtain ⟨okg, ksg⟩ := goes_keep ok hp
    obtain ⟨g1, g2, g3, g4, _⟩ := goes_wk (W := W) (ps := ps)
    obtain ⟨s1, s2⟩ := go_keep ok hn
    exact ⟨relF W ps, ⟨ps, hps, hw, placeN_none hg, hwk, rfl, rfl⟩, ⟨okg.p, okg.asc, okg.len, okg.st, okg.thr, List.nodup_nil, okg.gn, (fun k hk => by cases hk), okg.gs⟩, ksg, g3, g4, s1, fun k hk => s2 k (by rw [hps]; exact fun z => hk (mem_ascI.mp z))⟩
theorem top_of {W : WSt} (h : W.stack ≠ []) : ∃ s e, W.stack = s ++ [e] ∧ topL W = e.lanes := ⟨_, _, (List.dropLast_concat_getLast h).symm, top_some (List.dropLast_concat_getLast h).symm⟩
theorem grpW {W : WSt} {g : Nat} (h : g < (if W.stack = [] then 0 else 1)) : W.stack ≠ [] ∧ g = 0 := by
  split at h
  · omega
  · rename_i hn
    exact ⟨hn, by omega⟩
def modeW : Mode true where
  gG := gGroupsW
  gA := gAsksW
  gS := gStepW
  gR := gRelW
  grp := fun W => if W.stack = [] then 0 else 1
  act := fun W _ => topL W
  Good := fun W => W.Ok ∧ SOk W
  ok := fun h => h.1
  few := fun {W} h => by
    show (if W.stack = [] then 0 else 1) ≤ 6
    split <;> omega
  hG := fun {W} h => ⟨rfl, by
    show Sl.dat (.int ((if W.stack = [] then 0 else 1 : Nat) : Int)) = _
    split <;> rfl⟩
  hA := fun {W g} h hg => by
    obtain ⟨hne, rfl⟩ := grpW hg
    obtain ⟨s, e, hs, ht⟩ := top_of hne
    have hl := h.2.ln e (by rw [hs]; exact List.mem_append_right _ (List.mem_singleton.mpr rfl))
    exact ⟨hne, by rw [ht]; exact fun k hk => mem_runks (hl.2.2 k hk), by rw [ht]; exact Nat.le_trans (sub_len hl.2.1 hl.2.2) (run_len h.1), rfl, rfl⟩
  ne := fun {W g} h hg => by
    obtain ⟨s, e, hs, ht⟩ := top_of (grpW hg).1
    rw [ht]
    exact (h.2.ln e (by rw [hs]; exact List.mem_append_right _ (List.mem_singleton.mpr rfl))).1
  nd := fun {W g} h hg => by
    obtain ⟨s, e, hs, ht⟩ := top_of (grpW hg).1
    rw [ht]
    exact (h.2.ln e (by rw [hs]; exact List.mem_append_right _ (List.mem_singleton.mpr rfl))).2.1
  ks := fun {W g k} h hg hk => by
    obtain ⟨s, e, hs, ht⟩ := top_of (grpW hg).1
    rw [ht] at hk
    exact mem_runks ((h.2.ln e (by rw [hs]; exact List.mem_append_right _ (List.mem_singleton.mpr rfl))).2.2 k hk)
  same := fun {W g j k} h hg hj hk => by
    obtain ⟨s, e, hs, ht⟩ := top_of (grpW hg).1
    rw [ht] at hj hk
    exact ins_same ((h.2.top hs hj).2.symm.trans (h.2.top hs hk).2)
  hS := fun {W g ps} h hg hps hw => by
    obtain ⟨hne, rfl⟩ := grpW hg
    obtain ⟨s, e, hs, ht⟩ := top_of hne
    rw [ht] at hps
    have so := h.2.step h.1 hs hps hw
    obtain ⟨ok1, k1, kp, kb, kst⟩ := adv_keep (cut_ok h.1 s) (ps := ps) (qs := []) (by rw [List.append_nil]; exact so.pn) so.pk
    have hmid : ∀ {α : Type} (f : WSt → α), (∀ V L, f { V with stack := L } = f V) → f (stepW W s e ps) = f (adv (W.cut s) ps) := fun f hf => by
      unfold stepW midW WSt.clear
      rw [hf]
      split
      · rfl
      · exact hf _ _
    have okm : (stepW W s e ps).Ok := by
      have q := hmid (fun V => V.Ok) fun V L => propext ⟨fun h => ⟨h.p, h.asc, h.len, h.st, h.thr, h.wn, h.gn, h.ws, h.gs⟩, fun h => ⟨h.p, h.asc, h.len, h.st, h.thr, h.wn, h.gn, h.ws, h.gs⟩⟩
      exact q.mpr ok1
    have est : (stepW W s e ps).st = (adv (W.cut s) ps).st := hmid (fun V => V.st) fun V L => rfl
    refine ⟨stepW W s e ps, ⟨s, e, ps, so, rfl, rfl⟩, ⟨okm, step_sok h.1 h.2 so⟩, (hmid (fun V => V.ks) fun V L => rfl).trans k1, (hmid (fun V => V.p) fun V L => rfl).trans kp, (hmid (fun V => V.base) fun V L => rfl).trans kb, fun k z hk => ?_, fun k hk => ?_⟩
    · rw [est]
      exact adv_st (cut_ok h.1 s) so.pn so.pk hk
    · rw [est]
      exact kst k (by rw [hps, ← ht]; exact hk)
  hR := fun {W ps} h hg hwk hps hw => by
    have hs : W.stack = [] := by
      have hg : (if W.stack = [] then 0 else 1) = 0 := hg
      split at hg
      · assumption
      · omega
    have hn : (ps.map (·.1)).Nodup := by rw [hps]; exact asc_nodup (asc_ascI _)
    have hp : ∀ q ∈ ps, q.1 ∈ W.ks ∧ Wd q.2 := fun r hr => ⟨wk_ks h.1 (by rw [← hps]; exact List.mem_map.mpr ⟨r, hr, rfl⟩), hw r hr⟩
    obtain ⟨okg, ksg⟩ := goes_keep h.1 hp
    obtain ⟨g1, g2, g3, g4, _⟩ := goes_wk (W := W) (ps := ps)
    obtain ⟨s1, s2⟩ := go_keep h.1 hn
    exact ⟨relW W ps, ⟨ps, hps, hw, hs, hwk, rfl, rfl⟩, ⟨⟨okg.p, okg.asc, okg.len, okg.st, okg.thr, List.nodup_nil, okg.gn, (fun k hk => by cases hk), okg.gs⟩, rel_sok h.1 h.2 hs hps hw⟩, ksg, g3, g4, s1, fun k hk => s2 k (by rw [hps]; exact fun z => hk (mem_ascI.mp z))⟩
end LK

namespace LK
open PySem PySem.Spec PyProof.Rows L2
local macro_rules | `(tactic| walk_at "rr") => `(tactic| first
  | (with_reducible exact rr_head)
  | ((with_reducible refine rr_ixT (d := ?d) ?h); (case h => exact rfl))
  | (with_reducible exact rr_eqS)
  | (with_reducible exact rr_eqI)
  | (with_reducible exact rr_neI)
  | (with_reducible exact rr_II)
  | (with_reducible exact rr_IB))
local macro_rules | `(tactic| walk_at "ev") => `(tactic| first
  | (with_reducible exact ev_int)
  | (with_reducible exact ev_str)
  | (with_reducible exact ev_non)
  | (with_reducible exact ev_bl)
  | ((with_reducible refine ev_dat (d := ?d) ?h); (case h => exact rfl))
  | (with_reducible exact ea_d0)
  | ((with_reducible refine ea_d (d := ?d) (ds := ?ds) ?h1 ?h2); (case h1 => walk_at "ev"); (case h2 => walk_at "ev"))
  | ((with_reducible refine ev_op (da := ?da) (db := ?db) (dc := ?dc) ?h1 ?h2 ?h3); (case h1 => walk_at "ev"); (case h2 => walk_at "ev"); (case h3 => walk_at "rr"))
  | ((with_reducible refine ev_tup (ds := ?ds) ?h1 ?h2); (case h1 => walk_at "ev"); (case h2 => exact Nat.le_of_ble_eq_true rfl))
  | ((with_reducible refine et_b (b := ?b) ?h1); (case h1 => walk_at "ev")))

/-! ### arguments that change things -/
def EvAG (J : List Atom) (ta : TA) (δ : SE) (P : List Atom → List Sl → Prop) : Prop := ∀ (F0 : AS) (H0 : Hp) (τd : List Sl) (σ : L2.St) (τ : List V) (H : Hp) (Q : List V → Hp → Prop), Sta J F0 H0 δ τd σ τ H →
  (∀ J1 ss vs H1, P J1 ss → vs.length = ss.length → Sta J1 F0 H0 δ (ss ++ τd) σ (vs ++ τ) H1 → Q vs H1) → ta σ H Q
section
variable {J J0 : List Atom} {δ : SE} {te tv tk ta tb tl ti td ty : TE} {t : TA} {u tb2 : TS} {K : PySem.W.Frag} {O : Outs} {g : TG} {tt : TT}
theorem eag_one {P : JO} (h : EvG J te δ P) : EvAG J (tCons te tNil) δ fun J1 ss => ∃ s, ss = [s] ∧ P J1 s := fun F0 H0 τd σ τ H Q S k => h _ _ _ _ _ _ _ S fun J1 s v H1 p S1 => k J1 [s] [v] H1 ⟨s, rfl, p⟩ rfl S1
theorem eag_cons {d : Dt} {P : List Atom → List Sl → Prop} (h : EvD J te δ d) (hr : EvAG J t δ P) : EvAG J (tCons te t) δ fun J1 ss => ∃ r, ss = .dat d :: r ∧ P J1 r := fun F0 H0 τd σ τ H Q S k =>
  h _ _ _ _ _ _ _ S fun J1 s v H1 ⟨e, d1, e2, e3⟩ S1 => by
    subst e e2 e3
    refine hr _ _ _ _ _ _ _ S1 fun J2 ss vs H2 ps l S2 => ?_
    exact k J2 (.dat d1 :: ss) (v :: vs) H2 ⟨ss, rfl, ps⟩ (by rw [List.length_cons, List.length_cons, l]) (Sta.turn l S2)
theorem ev_methG {C : Addr} {m : Str} {x : Addr} {Pre : List Atom → List Sl → JO → Prop} {E : XK} {Ps : List Atom → List Sl → Prop} {P : JO} (ho : EvV J te δ (.ref x)) (hi : ∀ F H, Own J F H → ∃ dx fs, H x = some (.ins C dx fs) ∧ fs.lookup m = none) (h : EvAG J t δ Ps)
    (hp : ∀ J1 ss, Ps J1 ss → ∃ R, Pre J1 (.val (.ref x) :: ss) R ∧ ∀ J2 s, R J2 s → P J2 s) : EvG J (tMeth C m (spG Pre) [] E te t) δ P := fun F0 H0 τd σ τ H Q S k =>
  ho _ _ _ _ _ _ _ S fun J1 s v H1 ⟨e, es⟩ S1 => by
    subst e es
    obtain ⟨F1, _, o1, ev⟩ := S1.top
    have ev : v = .ref x := ev
    subst ev
    obtain ⟨dx, fs, hx, hm⟩ := hi _ _ o1
    refine ⟨x, dx, fs, rfl, hx, hm, h _ _ _ _ _ _ _ S1.pop fun J2 ss vs H2 p l S2 => ?_⟩
    obtain ⟨F, y, o, d, t⟩ := S2.ex
    obtain ⟨t1, t2⟩ := TmpD.splitL l t
    obtain ⟨R, pre, hR⟩ := hp J2 ss p
    refine ⟨J2, F, .val (.ref x) :: ss, R, o, ⟨_, vs ++ [], rfl, rfl, by rw [List.append_nil]; exact t1⟩, pre, fun J3 s v F1 H3 r f o1 hv => k J3 s v H3 (hR _ _ r) ⟨F1, y.trans f, o1, d.fr f, v, τ, rfl, hv, t2.fr f⟩⟩
theorem ev_wrG {C x : Addr} {m : Bool} {A : WA} {W W' : WSt} {J3 : List Atom} {nm : Str} {G : WSt → WSt → List Sl → Prop} {E : XK} {as : List Sl} (p : J.Perm (wpJ C x m A W ++ J0)) (ok : W.Ok) (ho : EvV J te δ (.ref x)) (hn : fldN.all (fun g => !decide (nm = g)) = true) (ha : EvAG J t δ fun J1 ss => J1.Perm (wpJ C x m A W ++ J3) ∧ ss = as) (g : G W W' as) :
    EvG J (tMeth C nm (spG (wrP C m G)) [] E te t) δ fun J1 _ => ∃ A', J1.Perm (wpJ C x m A' W' ++ J3) :=
  ev_methG ho (fun F H o => ⟨A.dx, _, own_ins (hasW_perm p) o, lk_no hn⟩) ha fun J1 ss ⟨p1, e⟩ => ⟨_, ⟨x, A, W, W', J3, as, p1, ok, by rw [e], g, rfl⟩, fun J1 s h => h⟩
theorem EvG.toD {d : Dt} (h : EvP J te δ fun s => s = .dat d) : EvD J te δ d := h.imp fun J1 s ⟨e, es⟩ => ⟨e, d, es, rfl⟩
theorem et_truB {b : Bool} (h : EvD J te δ (.bl b)) : EvB J (fun σ H Q => te σ H fun x H' => ∃ k, TruV K x H' k ∧ Q k H') δ b := fun F0 H0 τd σ τ H Q S k => h _ _ _ _ _ _ _ S fun J1 s v H1 ⟨e, d, es, ed⟩ S1 => by
  subst e es ed
  have ev : v = .bl b := S1.dat
  subst ev
  exact ⟨b, rfl, k b H1 rfl S1.pop⟩
end
/-! ### the walk's state -/
structure WI (m : Bool) (md : Mode m) (p : Prg) (b : Nat) (ks : List Int) (ws : Int → List Int) (W : WSt) (tl cnt : Int → Nat) : Prop where
  good : md.Good W
  pe : W.p = p
  be : W.base = (b : Int) * 6
  ke : W.ks = ks
  al : ∀ k ∈ ks, W.st k = (alN p ((b : Int) * 6 + k) (ws k) (cnt k)).1 ∧ tl k = (alN p ((b : Int) * 6 + k) (ws k) (cnt k)).2
def SJ (p : Prg) (b : Nat) (ws : Int → List Int) (lb : Int → Addr) (ks : List Int) (cnt : Int → Nat) : List Atom := ks.map fun k => lstA (lb k) ((seenN p ((b : Int) * 6 + k) (ws k) (cnt k)).map Lane.toD)
def bump (as : List Int) (cnt : Int → Nat) (k : Int) : Nat := if k ∈ as then cnt k + 1 else cnt k
theorem bump_le {as : List Int} {cnt : Int → Nat} {i : Nat} (h : ∀ k, cnt k ≤ i) (k : Int) : bump as cnt k ≤ i + 1 := by
  have := h k
  unfold bump
  split <;> omega
theorem sj_split {p : Prg} {b : Nat} {ws : Int → List Int} {lb : Int → Addr} {ks : List Int} {k : Int} (hn : ks.Nodup) (hk : k ∈ ks) : ∃ A B : (Int → Nat) → List Atom, ∀ cnt cnt' : Int → Nat, (∀ j, j ≠ k → cnt' j = cnt j) → SJ p b ws lb ks cnt = A cnt ++ lstA (lb k) ((seenN p ((b : Int) * 6 + k) (ws k) (cnt k)).map Lane.toD) :: B cnt ∧ A cnt' = A cnt ∧ B cnt' = B cnt := by
  obtain ⟨s, t, rfl⟩ := List.append_of_mem hk
  rw [List.nodup_append] at hn
  obtain ⟨n1, n2, n3⟩ := hn
  have n4 := (List.nodup_cons.mp n2).1
  refine ⟨fun cnt => SJ p b ws lb s cnt, fun cnt => SJ p b ws lb t cnt, fun cnt cnt' h => ⟨?_, ?_, ?_⟩⟩
  · unfold SJ
    rw [List.map_append, List.map_cons]
  · refine List.map_congr_left fun j hj => ?_
    rw [h j fun e => n3 j hj k (List.mem_cons_self ..) e]
  · refine List.map_congr_left fun j hj => ?_
    rw [h j fun e => n4 (by rw [← e]; exact hj)]
theorem perm_pull {X Y Z J0 : List Atom} {T R a : Atom} : (X ++ (T :: R :: ((Y ++ a :: Z) ++ J0))).Perm (a :: (X ++ (T :: R :: ((Y ++ Z) ++ J0)))) := by
  have h := List.perm_middle (a := a) (l₁ := X ++ T :: R :: Y) (l₂ := Z ++ J0)
  simpa using h
def dW (l x dw : Addr) (n : Nat) (m : Bool) (dt ds : Addr) (a7 a8 a9 a10 a11 a12 a13 a14 a15 : Option Sl) : SE := [some (.val (.ref l)), some (.val (.ref x)), some (.val (.ref dw)), some (.dat (.int n)), some (.dat (.bl m)), some (.val (.ref dt)), some (.val (.ref ds)), a7, a8, a9, a10, a11, a12, a13, a14, a15]
theorem keysN_at {lo n : Nat} {k : Int} (h : k ∈ keysN lo n) : (keysN lo n)[(k - lo).toNat]? = some k := by
  obtain ⟨h1, h2⟩ := mem_keysN.mp h
  unfold keysN
  rw [List.getElem?_map, List.getElem?_eq_getElem (by rw [List.length_range]; omega), List.getElem_range]
  show some ((lo : Int) + ((k - lo).toNat : Nat)) = some k
  congr 1
  omega
section
variable {J J0 : List Atom} {K K2 : PySem.W.Frag} {O : Outs} {C x l dw dt ds : Addr} {m : Bool} {A : WA} {W : WSt} {n first b : Nat} {p : Prg} {ws : Int → List Int} {lb la : Int → Addr} {cnt : Int → Nat} {T : Atom} {E : XK} {as : List Int} {X : Int → Dt} {a7 a8 a9 a10 a12 a13 a14 a15 : Option Sl}
/-- for tid, row in asked: seen[tid].append(warp.lanes()[tid - min(words)]) -/
theorem sg_seen (ok : W.Ok) (hks : W.ks = keysN first n) (hn : 0 < n) (hR : dictR dw (keysN first n) la ∈ J0) (has : as.Nodup) (hak : ∀ k ∈ as, k ∈ keysN first n) (hz : ∀ k, cnt k ≤ 1000)
    (hal : ∀ k ∈ as, W.st k = (alN p ((b : Int) * 6 + k) (ws k) (cnt k + 1)).1) (pj : J.Perm (wpJ C x m A W ++ (T :: dictR ds (keysN first n) lb :: (SJ p b ws lb (keysN first n) cnt ++ J0))))
    (q : ∀ J1 a7 a12, J1.Perm (wpJ C x m A W ++ (T :: dictR ds (keysN first n) lb :: (SJ p b ws lb (keysN first n) (bump as cnt) ++ J0))) → O.nx J1 (dW l x dw n m dt ds a7 a8 a9 a10 (some (.lst (as.map fun k => .tup [.int k, X k]))) a12 a13 a14 a15)) :
    SG J (tFor (iList K (tVar 11)) (gTup K2 2 (gCons (gName 7) (gCons (gName 12) gNil))) (tDrop (tBM K "list" rAppend (tDGet (tVar 6) (tVar 7)) (tCons (tOp (rIxL K) (tMeth C "lanes" (spG (rdP C m gLanes)) [] E (tVar 1) tNil) (tOp (rI0 fun i j => .int (i - j)) (tVar 7) (tCB rMinK (tCons (tVar 2) tNil)))) tNil))))
      (dW l x dw n m dt ds a7 a8 a9 a10 (some (.lst (as.map fun k => .tup [.int k, X k]))) a12 a13 a14 a15) O := by
  refine sg_forL (J' := J) (ds := as.map fun k => .tup [.int k, X k]) (Iv := fun i J1 δ1 => J1.Perm (wpJ C x m A W ++ (T :: dictR ds (keysN first n) lb :: (SJ p b ws lb (keysN first n) (bump (as.take i) cnt) ++ J0))) ∧ ∃ a7 a12, δ1 = dW l x dw n m dt ds a7 a8 a9 a10 (some (.lst (as.map fun k => .tup [.int k, X k]))) a12 a13 a14 a15) (ev_lst rfl) ⟨?_, _, _, rfl⟩ ?_ ?_
  · have e : bump (as.take 0) cnt = cnt := by
      funext k
      unfold bump
      rw [if_neg (by simp)]
    rw [e]
    exact pj
  · rintro i d J1 δ1 hd ⟨p1, a7, a12, rfl⟩
    rw [List.getElem?_map] at hd
    cases hi : as[i]? with
    | none => rw [hi] at hd; cases hd
    | some k =>
      rw [hi] at hd
      cases hd
      have hm := List.mem_of_getElem? hi
      have hkk := hak k hm
      have et : as.take (i + 1) = as.take i ++ [k] := by rw [List.take_add_one, hi]; rfl
      have hnk : k ∉ as.take i := fun z => by
        have h2 : (as.take (i + 1)).Nodup := has.sublist (List.take_sublist ..)
        rw [et, List.nodup_append] at h2
        exact h2.2.2 k z k (List.mem_singleton.mpr rfl) rfl
      have ec : bump (as.take i) cnt k = cnt k := if_neg hnk
      have ec2 : bump (as.take (i + 1)) cnt k = cnt k + 1 := if_pos (by rw [et]; exact List.mem_append_right _ (List.mem_singleton.mpr rfl))
      have ej : ∀ j, j ≠ k → bump (as.take (i + 1)) cnt j = bump (as.take i) cnt j := fun j hj => by
        unfold bump
        rw [et]
        simp [hj]
      obtain ⟨Y, Z, hsp⟩ := sj_split (p := p) (b := b) (ws := ws) (lb := lb) (asc_nodup (keysN_asc first n)) hkk
      obtain ⟨s1, s2, s3⟩ := hsp _ _ ej
      obtain ⟨s4, _, _⟩ := hsp (bump (as.take (i + 1)) cnt) _ fun j _ => rfl
      refine ⟨_, tg_tup (ds := [.int k, X k]) (tgs_cons tg_name (tgs_cons tg_name tgs_nil)), ?_⟩
      rw [s1, ec] at p1
      rw [s4, ec2, s2, s3]
      generalize Y (bump (as.take i) cnt) = Y at *
      generalize Z (bump (as.take i) cnt) = Z at *
      refine SG.perm (p1.trans perm_pull) ?_
      have p2 : (lstA (lb k) ((seenN p ((b : Int) * 6 + k) (ws k) (cnt k)).map Lane.toD) :: (wpJ C x m A W ++ (T :: dictR ds (keysN first n) lb :: ((Y ++ Z) ++ J0)))).Perm (wpJ C x m A W ++ (lstA (lb k) ((seenN p ((b : Int) * 6 + k) (ws k) (cnt k)).map Lane.toD) :: (T :: dictR ds (keysN first n) lb :: ((Y ++ Z) ++ J0)))) := List.perm_middle.symm
      have hds : HasR (lstA (lb k) ((seenN p ((b : Int) * 6 + k) (ws k) (cnt k)).map Lane.toD) :: (wpJ C x m A W ++ (T :: dictR ds (keysN first n) lb :: ((Y ++ Z) ++ J0)))) ds (keysN first n) lb := .inl (List.mem_cons_of_mem _ (List.mem_append_right _ (List.mem_cons_of_mem _ (List.mem_cons_self ..))))
      have hdw : dictR dw (keysN first n) la ∈ (lstA (lb k) ((seenN p ((b : Int) * 6 + k) (ws k) (cnt k)).map Lane.toD) :: (wpJ C x m A W ++ (T :: dictR ds (keysN first n) lb :: ((Y ++ Z) ++ J0)))) := List.mem_cons_of_mem _ (List.mem_append_right _ (List.mem_cons_of_mem _ (List.mem_cons_of_mem _ (List.mem_append_right _ hR))))
      refine sg_append (s := []) (l := lb k) (P := fun d => d = ((alN p ((b : Int) * 6 + k) (ws k) (cnt k + 1)).1).toD) (ev_dgetR (slf 6) (ev_dat (d := .int k) rfl) hds hkk) ?_ ?_ fun d hd => ?_
      · rw [← hal k hm]
        refine ev_ixL (ds := W.ks.map fun k => (W.st k).toD) (P := fun j => j = k - first) (ev_rd p2 ok (slf 1) (by decide +kernel) ea_nil ⟨rfl, rfl⟩) (ev_opI (f := fun i j => i - j) (Pa := fun j => j = k) ((ev_dat (d := .int k) rfl).toI rfl) (ev_minR (slf 2) hdw (fun z => by rw [z] at hkk; cases hkk)) fun a c ha hc => ⟨?_, rr_II⟩) fun j hj => ?_
        · have h1 := (mem_keysN.mp hc.1).1
          have h2 := hc.2 first (mem_keysN.mpr ⟨by omega, by omega⟩)
          omega
        · have h1 := (mem_keysN.mp hkk).1
          refine ⟨_, ?_, rfl⟩
          rw [hj, show (k - first : Int) = (((k - first).toNat : Nat) : Int) by omega, hks]
          exact at_map (f := fun k => (W.st k).toD) (keysN_at hkk)
      · have := hz k
        rw [List.length_map, seenN_len]
        omega
      · refine ⟨?_, _, _, rfl⟩
        have e : (seenN p ((b : Int) * 6 + k) (ws k) (cnt k)).map Lane.toD ++ [d] = (seenN p ((b : Int) * 6 + k) (ws k) (cnt k + 1)).map Lane.toD := by
          rw [seenN_succ, List.map_append, hd]
          rfl
        rw [e]
        exact perm_pull.symm
  · rintro J1 δ1 ⟨p1, a7, a12, rfl⟩
    rw [List.length_map, List.take_length] at p1
    exact q J1 a7 a12 p1
/-- what told's call does -/
theorem ev_told {δ : SE} {ks : List Int} {tl : Int → Nat} {kd : Int → Str} {rr : Int → List Dt} {tw tt ta : TE} (hw : EvV J tw δ (.ref dw)) (ht : EvV J tt δ (.ref dt)) (ha : EvL J ta δ (as.map fun k => .tup [.int k, .tup (.str (kd k) :: rr k)])) (pj : J.Perm (dictD dt ks (fun k => .int (tl k)) :: J0)) (hR : HasR J0 dw ks la)
    (hws : ∀ k ∈ ks, lstA (la k) ((ws k).map Dt.int) ∈ J0 ∧ ws k ≠ []) (has : as.Nodup) (hak : ∀ k ∈ as, k ∈ ks) (h6 : as.length ≤ 6) (h8 : ks.length ≤ 8) :
    EvG J (tCall (spG toldP) [] E (tCons tw (tCons tt (tCons ta tNil)))) δ fun J1 s => J1.Perm (dictD dt ks (fun k => .int (tellF as (fun k => needS (kd k)) tl k)) :: J0) ∧ s = .lst (as.map fun k => .int (wordN (ws k) (needS (kd k)) (tl k))) :=
  ev_call (Ps := fun ss => ss = [.val (.ref dw), .val (.ref dt), .lst (as.map fun k => .tup [.int k, .tup (.str (kd k) :: rr k)])]) (ea_consP (Ps := fun ss => ss = [.val (.ref dt), .lst (as.map fun k => .tup [.int k, .tup (.str (kd k) :: rr k)])]) hw (ea_consP (Ps := fun ss => ss = [.lst (as.map fun k => .tup [.int k, .tup (.str (kd k) :: rr k)])]) ht (ea_consP (Ps := fun ss => ss = []) ha ea_nil fun s ss e1 e2 => by rw [e1, e2]) fun s ss e1 e2 => by rw [e1, e2]) fun s ss e1 e2 => by rw [e1, e2])
    fun ss e => ⟨_, ⟨dw, ks, la, dt, tl, J0, ws, as, kd, rr, pj, hR, hws, has, hak, h6, h8, e, rfl⟩, fun J1 s h => h⟩
end
end LK

namespace LK
open PySem PySem.Spec PyProof.Rows L2
local macro_rules | `(tactic| walk_at "rr") => `(tactic| first
  | (with_reducible exact rr_head)
  | ((with_reducible refine rr_ixT (d := ?d) ?h); (case h => exact rfl))
  | (with_reducible exact rr_eqS)
  | (with_reducible exact rr_eqI)
  | (with_reducible exact rr_neI)
  | (with_reducible exact rr_II)
  | (with_reducible exact rr_IB))
local macro_rules | `(tactic| walk_at "ev") => `(tactic| first
  | (with_reducible exact ev_int)
  | (with_reducible exact ev_str)
  | (with_reducible exact ev_non)
  | (with_reducible exact ev_bl)
  | ((with_reducible refine ev_dat (d := ?d) ?h); (case h => exact rfl))
  | (with_reducible exact ea_d0)
  | ((with_reducible refine ea_d (d := ?d) (ds := ?ds) ?h1 ?h2); (case h1 => walk_at "ev"); (case h2 => walk_at "ev"))
  | ((with_reducible refine ev_op (da := ?da) (db := ?db) (dc := ?dc) ?h1 ?h2 ?h3); (case h1 => walk_at "ev"); (case h2 => walk_at "ev"); (case h3 => walk_at "rr"))
  | ((with_reducible refine ev_tup (ds := ?ds) ?h1 ?h2); (case h1 => walk_at "ev"); (case h2 => exact Nat.le_of_ble_eq_true rfl))
  | ((with_reducible refine et_b (b := ?b) ?h1); (case h1 => walk_at "ev")))

def reqT (l : Lane) (i : Ins) : List Dt := match reqD l i with | .tup (_ :: r) => r | _ => []
theorem reqD_eq (l : Lane) (i : Ins) : reqD l i = .tup (.str (rkind i) :: reqT l i) := by
  cases i <;> rfl
theorem askD_eq (W : WSt) : askD W = fun k => .tup [.int k, .tup (.str (rkind (insOf W k)) :: reqT (W.st k) (insOf W k))] := by
  funext k
  unfold askD reqW
  rw [reqD_eq]
theorem al_go {m : Bool} {md : Mode m} {p : Prg} {b : Nat} {ks : List Int} {ws : Int → List Int} {W W' : WSt} {tl cnt : Int → Nat} {k : Int} (wi : WI m md p b ks ws W tl cnt) (hk : k ∈ ks) (h : W'.st k = behindN W.p (W.base + k) (W.st k) (wordN (ws k) (needS (rkind (insOf W k))) (tl k))) :
    W'.st k = (alN p ((b : Int) * 6 + k) (ws k) (cnt k + 1)).1 ∧ (if needS (rkind (insOf W k)) = true then tl k + 1 else tl k) = (alN p ((b : Int) * 6 + k) (ws k) (cnt k + 1)).2 := by
  obtain ⟨h1, h2⟩ := wi.al k hk
  have e1 : insOf W k = (alN p ((b : Int) * 6 + k) (ws k) (cnt k)).1.ins p := by
    unfold insOf
    rw [h1, wi.pe]
  rw [h, need_rkind, e1, wi.pe, wi.be, h1, h2]
  exact ⟨rfl, rfl⟩
theorem inD_ints (k : Int) : ∀ ns : List Int, inD (.int k) (ns.map Dt.int) = decide (k ∈ ns)
  | [] => rfl
  | n :: ns => by
    have h := inD_ints k ns
    show (eqV (.int n) (.int k) || inD (.int k) (ns.map Dt.int)) = _
    rw [h]
    have e : eqV (.int n) (.int k) = decide (k = n) := by
      show (n == k) = _
      rw [Bool.eq_iff_iff, beq_iff_eq, decide_eq_true_iff]
      exact ⟨Eq.symm, Eq.symm⟩
    rw [e, Bool.eq_iff_iff, Bool.or_eq_true, decide_eq_true_iff, decide_eq_true_iff, decide_eq_true_iff, List.mem_cons]
theorem flat_ints (ns : List Int) : (ns.map Dt.int).all Dt.flat = true := by
  rw [List.all_map]
  exact List.all_eq_true.mpr fun _ _ => rfl
theorem flat_len : ∀ {s : List Ent} {i : Nat}, (∀ e ∈ s, e.lanes.length ≤ 6) → ((s.take i).flatMap Ent.lanes).length ≤ 6 * s.length
  | [], i, _ => by simp
  | e :: s, 0, _ => by simp
  | e :: s, i + 1, h => by
    have h1 := h e (List.mem_cons_self ..)
    have h2 := flat_len (s := s) (i := i) fun e he => h e (List.mem_cons_of_mem _ he)
    rw [List.take_succ_cons, List.flatMap_cons, List.length_append, List.length_cons]
    omega
/-- a walk's promise -/
def walkP (C : Addr) (m : Bool) : List Atom → List Sl → JO → Prop := fun J ss R => ∃ (l x : Addr) (A : WA) (p : Prg) (b first n : Nat) (dw : Addr) (la : Int → Addr) (ws : Int → List Int) (J0 : List Atom),
  J.Perm (wpJ C x m A (WSt.init p b first n) ++ J0) ∧ strA l ∈ J0 ∧ dictR dw (keysN first n) la ∈ J0 ∧ (∀ k ∈ keysN first n, lstA (la k) ((ws k).map Dt.int) ∈ J0 ∧ ws k ≠ [] ∧ ∀ z ∈ ws k, Wd z) ∧ p.Ok ∧ 0 < n ∧ first + n ≤ 6 ∧ b ≤ 100 ∧
  ss = [.val (.ref l), .val (.ref x), .val (.ref dw), .dat (.int (n : Nat)), .dat (.bl m)] ∧
  R = fun J1 s => ∃ (ds : Addr) (lb : Int → Addr) (cnt : Int → Nat) (J2 : List Atom), s = .val (.ref ds) ∧ J1.Perm (J2 ++ J0) ∧ dictR ds (keysN first n) lb ∈ J2 ∧ ∀ k ∈ keysN first n, lstA (lb k) ((seenN p ((b : Int) * 6 + k) (ws k) (cnt k)).map Lane.toD) ∈ J2 ∧ cnt k ≤ 200
section
variable {P : Program} {w : World} {K : PySem.W.Frag} {mg : Str → Option Value} {base : Heap} {f : Addr} {fd : FuncData} {C : Addr}
theorem scFwalk : FnScope ["_law_stream_here", "_law_warp", "_law_words", "_law_count", "_law_masks", "_law_told_here", "_law_seen", "_law_tid", "_law_k", "_law_many", "_law_group", "_law_asked", "_law_row", "_law_inside", "_law_entry", "_law_running"] ["_law_stream_here", "_law_warp", "_law_words", "_law_count", "_law_masks"] (defScope sFwalk) := ⟨rfl, rfl, rfl, by decide +kernel, rfl, by decide +kernel, by decide +kernel⟩
theorem ok_walkF (F : FunP K "_law_walk" sFwalk f fd) (T : Txt K mg) (q : ClsF K C) (m_groups : CalM P w K mg base C 3 "groups" ["self"] (spG (rdP C false modeF.gG))) (m_asks : CalM P w K mg base C 4 "asks" ["self", "group"] (spG (rdP C false modeF.gA)))
    (m_step : CalM P w K mg base C 8 "step" ["self", "group", "words"] (spG (wrP C false modeF.gS))) (m_release : CalM P w K mg base C 7 "release" ["self", "words"] (spG (wrP C false modeF.gR))) (m_waits : CalM P w K mg base C 2 "waits" ["self"] (spG (rdP C false gWaits)))
    (m_lanes : CalM P w K mg base C 1 "lanes" ["self"] (spG (rdP C false gLanes))) (c_Fdraw : Cal P w K mg base 1 "_law_draw" ["_law_stream_here", "_law_many"] (spG drawP)) (c_Ftold : Cal P w K mg base 1 "_law_told" ["_law_words", "_law_told_here", "_law_asked"] (spG toldP)) :
    FnOk P w K mg base CX0 9 f fd ["_law_stream_here", "_law_warp", "_law_words", "_law_count", "_law_masks"] (spG (walkP C false)) := by
  have sc := scFwalk
  refine fn_sg F sc (fun J ss R h => ?_) (fun cdv A outer s H E hr => ⟨_, (pss_cons (ps_set (i := 5) sc.nd rfl (.inl rfl) pe_dnewK)
    (pss_cons (ps_set (i := 6) sc.nd rfl (.inl rfl) pe_dnewK)
    (pss_cons (ps_lock (ps_for PassesOwn.never rfl (pi_keys (pv 2)) (pg_name (i := 7) sc.nd rfl (.inl rfl)) (pss_cons (ps_dput (hu_of hr) (pv 5) (pv 7) pe_int rfl)
    (pss_one (ps_dput (hu_of hr) (pv 6) (pv 7) (pe_lst pa_nil) rfl)))))
    (pss_cons (ps_for PassesOwn.never rfl (pi_range1 (by rfl) T.n_range (pa_cons pe_int pa_nil)) (pg_name (i := 8) sc.nd rfl (.inl rfl)) (pss_cons (ps_set (i := 9) sc.nd rfl (.inl rfl) (pe_meth0 (pv 1) q.cl m_groups.mt m_groups.ok (hr.mono (by decide)) m_groups.hb .nil pass0))
    (pss_cons (ps_if (pt_cmpR op_gt (pv 9) pe_int (nomark _)) (pss_cons (ps_set (i := 10) sc.nd rfl (.inl rfl) (pe_call c_Fdraw.ok (hr.mono (by decide)) (by rfl) c_Fdraw.hm c_Fdraw.hk c_Fdraw.hb .nil pass0 (pa_cons (pv 0) (pa_cons (pv 9) pa_nil))))
    (pss_cons (ps_set (i := 11) sc.nd rfl (.inl rfl) (pe_meth (pv 1) q.cl m_asks.mt m_asks.ok (hr.mono (by decide)) m_asks.hb .nil pass0 (pa_cons (pv 10) pa_nil)))
    (pss_one (ps_if (pt_cmpR op_in_seq (pe_ix ix_tup (pe_ix ix_tup (pe_ix ix_list (pv 11) pe_int (fun _ _ => rfl)) pe_int (fun _ _ => rfl)) pe_int (fun _ _ => rfl)) (pe_tup (pa_cons pe_str (pa_cons pe_str pa_nil))) (by rfl)) (pss_one (ps_expr (pe_meth (pv 1) q.cl m_step.mt m_step.ok (hr.mono (by decide)) m_step.hb .nil pass0 (pa_cons (pv 10) (pa_cons (pe_op op_rep (pe_lst (pa_cons pe_int pa_nil)) (pe_callB call_len_seq (by rfl) T.n_len (by decide +kernel) (pa_cons (pv 11) pa_nil))) pa_nil))))) (pss_cons (ps_expr (pe_meth (pv 1) q.cl m_step.mt m_step.ok (hr.mono (by decide)) m_step.hb .nil pass0 (pa_cons (pv 10) (pa_cons (pe_call c_Ftold.ok (hr.mono (by decide)) (by rfl) c_Ftold.hm c_Ftold.hk c_Ftold.hb .nil pass0 (pa_cons (pv 2) (pa_cons (pv 5) (pa_cons (pv 11) pa_nil)))) pa_nil))))
    (pss_one (ps_for PassesOwn.never rfl (pi_list (pv 11)) (pg_tup (by rfl) (pgs_cons (pg_name (i := 7) sc.nd rfl (.inl rfl)) (pgs_cons (pg_name (i := 12) sc.nd rfl (.inl rfl)) pgs_nil))) (pss_one (ps_expr (pe_bm PySem.F.plainAttrs_list PySem.F.slot_list_append PySem.F.type_list_append mt_append (pe_dget (hu_of hr) (pv 6) (pv 7) (fun _ _ => rfl)) (pa_cons (pe_ix ix_list (pe_meth0 (pv 1) q.cl m_lanes.mt m_lanes.ok (hr.mono (by decide)) m_lanes.hb .nil pass0) (pe_op op_sub (pv 7) (pe_callB (cr_minK rfl) (by rfl) T.n_min (by decide +kernel) (pa_cons (pv 2) pa_nil))) (fun _ _ => rfl)) pa_nil))))))))))) (pss_one (ps_if (pt_truth (pe_meth0 (pv 1) q.cl m_waits.mt m_waits.ok (hr.mono (by decide)) m_waits.hb .nil pass0) (by intro _; rfl)) (pss_cons (ps_set (i := 11) sc.nd rfl (.inl rfl) (pe_meth0 (pv 1) q.cl m_waits.mt m_waits.ok (hr.mono (by decide)) m_waits.hb .nil pass0))
    (pss_cons (ps_expr (pe_meth (pv 1) q.cl m_release.mt m_release.ok (hr.mono (by decide)) m_release.hb .nil pass0 (pa_cons (pe_call c_Ftold.ok (hr.mono (by decide)) (by rfl) c_Ftold.hm c_Ftold.hk c_Ftold.hb .nil pass0 (pa_cons (pv 2) (pa_cons (pv 5) (pa_cons (pv 11) pa_nil)))) pa_nil)))
    (pss_one (ps_for PassesOwn.never rfl (pi_list (pv 11)) (pg_tup (by rfl) (pgs_cons (pg_name (i := 7) sc.nd rfl (.inl rfl)) (pgs_cons (pg_name (i := 12) sc.nd rfl (.inl rfl)) pgs_nil))) (pss_one (ps_expr (pe_bm PySem.F.plainAttrs_list PySem.F.slot_list_append PySem.F.type_list_append mt_append (pe_dget (hu_of hr) (pv 6) (pv 7) (fun _ _ => rfl)) (pa_cons (pe_ix ix_list (pe_meth0 (pv 1) q.cl m_lanes.mt m_lanes.ok (hr.mono (by decide)) m_lanes.hb .nil pass0) (pe_op op_sub (pv 7) (pe_callB (cr_minK rfl) (by rfl) T.n_min (by decide +kernel) (pa_cons (pv 2) pa_nil))) (fun _ _ => rfl)) pa_nil)))))))) (pss_one ps_break))))
    (pss_one (ps_if (pt_truth (pv 4) (by intro _; rfl)) pss_never pss_nil)))))
    (pss_one (ps_ret (pv 6))))))), fun J ss R h => ?_⟩)
  · obtain ⟨l, x, A, p, b, first, n, dw, la, ws, J0, pj, hl, hdw, hws, hp, hn, hfn, hb, rfl, rfl⟩ := h
    rfl
  · obtain ⟨l, x, A, p, b, first, n, dw, la, ws, J0, pj, hl, hdw, hws, hp, hn, hfn, hb, rfl, rfl⟩ := h
    refine sg_letG (ev_newD fun _ => .int 0) fun J1 s ⟨dt, e1, e2⟩ => ?_
    rw [e1, e2]
    refine sg_letG (ev_newR fun _ => x) fun J1 s ⟨ds, e1, e2⟩ => ?_
    rw [e1, e2]
    obtain ⟨J0r, pr⟩ := mem_perm hdw
    have hnd := asc_nodup (keysN_asc first n)
    have hks6 : (keysN first n).length ≤ 6 := by rw [keysN_len]; omega
    generalize hks : keysN first n = ks at *
    let dw9 : Option Sl → Option Sl → Option Sl → Option Sl → Option Sl → Option Sl → Option Sl → Option Sl → Option Sl → SE := dW l x dw n false dt ds
    refine sg_seq (N := fun J1 δ1 => ∃ lb, J1.Perm (wpJ C x false A (WSt.init p b first n) ++ (dictD dt ks (fun _ => .int ((0 : Nat) : Int)) :: dictR ds ks lb :: (SJ p b ws lb ks (fun _ => 0) ++ J0))) ∧ ∃ a7, δ1 = dw9 a7 none none none none none none none none) ?_ ?_
    · refine SG.perm (J' := dictR dw ks la :: (dictR ds [] (fun _ => x) :: dictD dt [] (fun _ => .int 0) :: (wpJ C x false A (WSt.init p b first n) ++ J0r))) ?_ ?_
      · have h1 : J.Perm (dictR dw ks la :: (wpJ C x false A (WSt.init p b first n) ++ J0r)) := pj.trans ((List.Perm.append_left _ pr).trans List.perm_middle)
        exact (((h1.cons _).cons _).trans ((List.Perm.swap ..).cons _)).trans (List.Perm.swap ..)
      refine sg_lock fun o => ?_
      refine sg_forK (o := o) (Iv := fun i J1 δ1 => ∃ lb, J1.Perm (dictZ o dw ks la :: (dictR ds (ks.take i) lb :: dictD dt (ks.take i) (fun _ => .int 0) :: (((ks.take i).map fun k => lstA (lb k) []) ++ (wpJ C x false A (WSt.init p b first n) ++ J0r)))) ∧ ∃ a7, δ1 = dw9 a7 none none none none none none none none) (slf 2) (fun i J1 δ1 ⟨lb, p1, _⟩ => p1.mem_iff.mpr (List.mem_cons_self ..)) ⟨fun _ => x, List.Perm.refl _, _, rfl⟩ ?_ ?_
      · rintro i k J1 δ1 hi ⟨lb, p1, a7, rfl⟩
        have hm := List.mem_of_getElem? hi
        have et : ks.take (i + 1) = ks.take i ++ [k] := by rw [List.take_add_one, hi]; rfl
        have hnk : k ∉ ks.take i := fun z => by
          have h2 : (ks.take (i + 1)).Nodup := hnd.sublist (List.take_sublist ..)
          rw [et, List.nodup_append] at h2
          exact h2.2.2 k z k (List.mem_singleton.mpr rfl) rfl
        have eadd : addK (ks.take i) k = ks.take (i + 1) := by rw [et]; exact if_neg hnk
        have hlen : (ks.take (i + 1)).length ≤ 8 := by rw [List.length_take]; omega
        refine ⟨_, tg_name, ?_⟩
        refine SG.perm p1 ?_
        refine sg_seq (N := fun J1 δ1 => J1 = dictZ o dw ks la :: (dictR ds (ks.take i) lb :: dictD dt (ks.take (i + 1)) (fun _ => .int 0) :: (((ks.take i).map fun k => lstA (lb k) []) ++ (wpJ C x false A (WSt.init p b first n) ++ J0r))) ∧ δ1 = dw9 (some (.dat (.int k))) none none none none none none none none) ?_ ?_
        · refine sg_dput (s := [dictZ o dw ks la, dictR ds (ks.take i) lb]) (t := ((ks.take i).map fun k => lstA (lb k) []) ++ (wpJ C x false A (WSt.init p b first n) ++ J0r)) (ks := ks.take i) (g := fun _ => .int 0) (k := k) (e := .int 0) ev_int (slf 5) (ev_dat rfl) (by rw [eadd]; exact hlen) ⟨?_, rfl⟩
          rw [eadd, upF_const]
          rfl
        · rintro J2 δ2 ⟨rfl, rfl⟩
          refine sg_dputR (ev_newL (ds := []) ea_d0 (Nat.zero_le _)) (by rw [eadd]; exact hlen) fun J3 s ⟨qa, e1, e2⟩ => ⟨[lstA qa [], dictZ o dw ks la], dictD dt (ks.take (i + 1)) (fun _ => .int 0) :: (((ks.take i).map fun k => lstA (lb k) []) ++ (wpJ C x false A (WSt.init p b first n) ++ J0r)), qa, e1, e2, slf 6, ev_dat rfl, upF lb k qa, ?_, _, rfl⟩
          rw [eadd, et, List.map_append]
          have em : ((ks.take i).map fun j => lstA (upF lb k qa j) []) = (ks.take i).map fun k => lstA (lb k) [] := List.map_congr_left fun j hj => by rw [upF_ne fun e => hnk (by rw [← e]; exact hj)]
          have em2 : ([k].map fun j => lstA (upF lb k qa j) []) = [lstA qa []] := by
            show [lstA (upF lb k qa k) []] = _
            rw [upF_same]
          rw [em, em2]
          have h := List.perm_middle (a := lstA qa []) (l₁ := dictZ o dw ks la :: dictR ds (ks.take i ++ [k]) (upF lb k qa) :: dictD dt (ks.take i ++ [k]) (fun _ => .int 0) :: ((ks.take i).map fun k => lstA (lb k) [])) (l₂ := wpJ C x false A (WSt.init p b first n) ++ J0r)
          simpa using h.symm
      · rintro J1 δ1 ⟨lb, p1, a7, rfl⟩
        rw [List.take_length] at p1
        refine ⟨_, p1, lb, ?_, _, rfl⟩
        have h1 : (wpJ C x false A (WSt.init p b first n) ++ (dictD dt ks (fun _ => .int ((0 : Nat) : Int)) :: dictR ds ks lb :: (SJ p b ws lb ks (fun _ => 0) ++ J0))).Perm (wpJ C x false A (WSt.init p b first n) ++ (dictD dt ks (fun _ => .int ((0 : Nat) : Int)) :: dictR ds ks lb :: (SJ p b ws lb ks (fun _ => 0) ++ (dictR dw ks la :: J0r)))) := List.Perm.append_left _ (((List.Perm.append_left _ pr).cons _).cons _)
        refine List.Perm.trans ?_ h1.symm
        show (dictR dw ks la :: dictR ds ks lb :: dictD dt ks (fun _ => .int ((0 : Nat) : Int)) :: (SJ p b ws lb ks (fun _ => 0) ++ (wpJ C x false A (WSt.init p b first n) ++ J0r))).Perm _
        generalize dictR dw ks la = z1
        generalize dictR ds ks lb = z2
        generalize dictD dt ks (fun _ => .int ((0 : Nat) : Int)) = z3
        generalize SJ p b ws lb ks (fun _ => 0) = z4
        generalize wpJ C x false A (WSt.init p b first n) = z5
        classical
        rw [List.perm_iff_count]
        intro a
        simp only [List.count_append, List.count_cons]
        omega
    rintro J1 δ1 ⟨lb, p1, a7, rfl⟩
    have hgood : modeF.Good (WSt.init p b first n) := by
      first | exact init_ok hp hb hfn | exact ⟨init_ok hp hb hfn, init_sok hn⟩
    let IvW : Nat → List Atom → SE → Prop := fun i J1 δ1 => ∃ A W tl cnt, J1.Perm (wpJ C x false A W ++ (dictD dt ks (fun k => .int (tl k : Nat)) :: dictR ds ks lb :: (SJ p b ws lb ks cnt ++ J0))) ∧ WI false modeF p b ks ws W tl cnt ∧ (∀ k, cnt k ≤ i) ∧ ∃ a7 a8 a9 a10 a11 a12 a13 a14 a15, δ1 = dw9 a7 a8 a9 a10 a11 a12 a13 a14 a15
    refine sg_seq (N := fun J1 δ1 => IvW 150 J1 δ1) ?_ ?_
    · refine sg_forR1 (n := 150) (Iv := IvW) (ea_d (ds := []) ev_int ea_d0) (by decide) ⟨A, WSt.init p b first n, fun _ => 0, fun _ => 0, p1, ⟨hgood, rfl, rfl, hks, fun k hk => ⟨rfl, rfl⟩⟩, fun k => Nat.le_refl 0, _, _, _, _, _, _, _, _, _, rfl⟩ ?_ fun J1 δ1 h => h
      clear p1
      rintro i J1 δ1 hi ⟨A, W, tl, cnt, p1, wi, hc, a7, a8, a9, a10, a11, a12, a13, a14, a15, rfl⟩
      refine ⟨_, tg_name, ?_⟩
      have okW := modeF.ok wi.good
      have hS : strA l ∈ J1 := p1.mem_iff.mpr (List.mem_append_right _ (List.mem_cons_of_mem _ (List.mem_cons_of_mem _ (List.mem_append_right _ hl))))
      have hfew := modeF.few wi.good
      have hksW : W.ks = keysN first n := by rw [wi.ke, hks]
      have hdw2 : dictR dw (keysN first n) la ∈ J0 := by rw [hks]; exact hdw
      have ptold : ∀ {J2 : List Atom}, J2.Perm (wpJ C x false A W ++ (dictD dt ks (fun k => .int (tl k : Nat)) :: dictR ds ks lb :: (SJ p b ws lb ks cnt ++ J0))) → J2.Perm (dictD dt ks (fun k => .int (tl k : Nat)) :: (wpJ C x false A W ++ (dictR ds ks lb :: (SJ p b ws lb ks cnt ++ J0)))) := fun h => h.trans List.perm_middle
      have hRt : HasR (wpJ C x false A W ++ (dictR ds ks lb :: (SJ p b ws lb ks cnt ++ J0))) dw ks la := .inl (List.mem_append_right _ (List.mem_cons_of_mem _ (List.mem_append_right _ hdw)))
      have hwt : ∀ k ∈ ks, lstA (la k) ((ws k).map Dt.int) ∈ wpJ C x false A W ++ (dictR ds ks lb :: (SJ p b ws lb ks cnt ++ J0)) ∧ ws k ≠ [] := fun k hk => ⟨List.mem_append_right _ (List.mem_cons_of_mem _ (List.mem_append_right _ (hws k hk).1)), (hws k hk).2.1⟩
      have hasked := askD_eq W
      refine sg_letD (EvG.toD (ev_rd p1 okW (slf 1) (by decide +kernel) ea_nil (modeF.hG wi.good))) ?_
      refine sg_seq (N := IvW (i + 1)) ?_ ?_
      · refine sg_ifB (et_b (ev_op (ev_dat (d := .int (modeF.grp W)) rfl) ev_int rr_IB)) (fun e => ?_) fun e => ?_
        · have hpos := of_decide_eq_true e
          refine sg_letI (ev_draw (slf 0) hS (ev_dat (d := .int (modeF.grp W)) rfl) (by omega) (by omega)) fun gi hgi => ?_
          obtain ⟨g, rfl⟩ : ∃ n : Nat, gi = n := ⟨gi.toNat, by omega⟩
          have hg : g < modeF.grp W := by omega
          refine sg_letG (ev_rd (s0 := .lst ((modeF.act W g).map (askD W))) p1 okW (slf 1) (by decide +kernel) (ea_d (ds := []) (ev_dat rfl) ea_d0) (modeF.hA wi.good hg)) fun J2 s ⟨e1, e2⟩ => ?_
          rw [e1, e2, hasked]
          have hne := modeF.ne wi.good hg
          have hand := modeF.nd wi.good hg
          have hak : ∀ k ∈ modeF.act W g, k ∈ ks := fun k hk => by rw [← wi.ke]; exact modeF.ks wi.good hg hk
          have ha6 : (modeF.act W g).length ≤ 6 := Nat.le_trans (sub_len hand hak) hks6
          have hsame := fun j k => modeF.same (j := j) (k := k) wi.good hg
          have hst := fun ps => modeF.hS (ps := ps) wi.good hg
          obtain ⟨k0, r0, hk0⟩ : ∃ k0 r0, modeF.act W g = k0 :: r0 := by
            cases q : modeF.act W g with
            | nil => exact absurd q hne
            | cons a r => exact ⟨a, r, rfl⟩
          have hm0 : k0 ∈ modeF.act W g := by rw [hk0]; exact List.mem_cons_self ..
          generalize modeF.act W g = act at *
          refine sg_ifB (z := (insOf W k0).isWait) ?_ (fun ew => ?_) fun ew => ?_
          · rw [← rk_wait]
            refine et_b (ev_in2 (x := rkind (insOf W k0)) (ev_op (da := .tup (.str (rkind (insOf W k0)) :: reqT (W.st k0) (insOf W k0))) (ev_op (da := .tup [.int k0, .tup (.str (rkind (insOf W k0)) :: reqT (W.st k0) (insOf W k0))]) ?_ ev_int (rr_ixT (d := .tup (.str (rkind (insOf W k0)) :: reqT (W.st k0) (insOf W k0))) (by rfl))) ev_int rr_head) (by walk_at "ev"))
            exact ev_ixL (ds := act.map fun k => .tup [.int k, .tup (.str (rkind (insOf W k)) :: reqT (W.st k) (insOf W k))]) (P := fun i => i = 0) (ev_lst rfl) (ev_int.toI rfl) fun i hi => ⟨_, by rw [hi, hk0]; exact atI_nat (j := 0) rfl, rfl⟩
          · obtain ⟨W', gs, good', k', p', b', s1, s2⟩ := hst (act.map fun k => (k, 0)) (by rw [List.map_map]; exact List.map_id act) fun r hr => by
              obtain ⟨k, _, rfl⟩ := List.mem_map.mp hr
              show Wd 0
              exact ⟨by decide, by decide⟩
            refine sg_dropG (ev_wr (W' := W') p1 okW (slf 1) (by decide +kernel) (ea_consP (Ps := fun ss => ss = [.lst ((act.map fun k => (k, (0 : Int))).map fun q => .int q.2)]) (ev_dat (d := .int g) rfl) (ea_consP (Ps := fun ss => ss = []) (ev_repL (x := .int 0) (n := act.length) (ev_lstD (ea_d ev_int ea_d0)) (ev_is (ev_lenL (ev_lst rfl)) (by rw [List.length_map])) (by omega)) ea_nil fun s ss e1 e2 => ?_) fun s ss ⟨d, e1, e3⟩ e2 => by rw [e1, e2, e3]) gs) fun J3 s ⟨A2, p2⟩ => ⟨A2, W', tl, cnt, p2, ⟨good', p'.trans wi.pe, b'.trans wi.be, k'.trans wi.ke, fun k hk => ?_⟩, fun k => Nat.le_succ_of_le (hc k), _, _, _, _, _, _, _, _, _, rfl⟩
            · rw [e1, e2, List.map_map]
              congr 2
              exact (List.map_const' ..).symm
            · have eq : W'.st k = W.st k := by
                by_cases hka : k ∈ act
                · rw [s1 k 0 (List.mem_map.mpr ⟨k, hka, rfl⟩), if_pos (by rw [hsame k k0 hka hm0]; exact ew)]
                · exact s2 k hka
              rw [eq]
              exact wi.al k hk
          · obtain ⟨W', gs, good', k', p', b', s1, s2⟩ := hst (act.map fun k => (k, wordN (ws k) (needS (rkind (insOf W k))) (tl k))) (by rw [List.map_map]; exact List.map_id act) fun r hr => by
              obtain ⟨k, hk, rfl⟩ := List.mem_map.mp hr
              exact wordN_wd (hws k (hak k hk)).2.2
            have hgo : ∀ k ∈ act, W'.st k = behindN W.p (W.base + k) (W.st k) (wordN (ws k) (needS (rkind (insOf W k))) (tl k)) := fun k hk => by
              rw [s1 k _ (List.mem_map.mpr ⟨k, hk, rfl⟩), if_neg (by rw [hsame k k0 hk hm0, ew]; exact Bool.false_ne_true)]
            refine sg_seq (N := fun J2 δ2 => (∃ A2, J2.Perm (wpJ C x false A2 W' ++ (dictD dt ks (fun k => .int (tellF act (fun k => needS (rkind (insOf W k))) tl k : Nat)) :: dictR ds ks lb :: (SJ p b ws lb ks cnt ++ J0)))) ∧ δ2 = dw9 a7 (some (.dat (.int i))) (some (.dat (.int (modeF.grp W)))) (some (.dat (.int g))) (some (.lst (act.map fun k => .tup [.int k, .tup (.str (rkind (insOf W k)) :: reqT (W.st k) (insOf W k))]))) a12 a13 a14 a15) ?_ ?_
            · refine sg_dropG (ev_wrG (J3 := dictD dt ks (fun k => .int (tellF act (fun k => needS (rkind (insOf W k))) tl k : Nat)) :: dictR ds ks lb :: (SJ p b ws lb ks cnt ++ J0)) (A := A) (W' := W') p1 okW (slf 1) (by decide +kernel) ?_ gs) fun J3 s h => ⟨h, rfl⟩
              refine fun F0 H0 τd σ τ H Q S kk => eag_cons (ev_dat (d := .int g) rfl) (eag_one (ev_told (ws := ws) (tl := tl) (kd := fun k => rkind (insOf W k)) (rr := fun k => reqT (W.st k) (insOf W k)) (slf 2) (slf 5) (ev_lst rfl) (ptold p1) hRt hwt hand hak ha6 (Nat.le_trans hks6 (by decide)))) F0 H0 τd σ τ H Q S fun J4 ss vs H4 ⟨r, er, s, es, pq, e5⟩ lv S4 => kk J4 ss vs H4 ⟨pq.trans List.perm_middle.symm, ?_⟩ lv S4
              rw [er, es, e5, List.map_map]
              rfl
            · rintro J2 δ2 ⟨⟨A2, p2⟩, rfl⟩
              have okW' := modeF.ok good'
              refine sg_seen (b := b) (p := p) (ws := ws) (cnt := cnt) (X := fun k => .tup (.str (rkind (insOf W k)) :: reqT (W.st k) (insOf W k))) okW' (k'.trans hksW) hn hdw2 hand (by rw [hks]; exact hak) (fun k => Nat.le_trans (hc k) (by omega)) (fun k hk => (al_go wi (hak k hk) (hgo k hk)).1) (by rw [hks]; exact p2) fun J3 a7 a12 p3 => ⟨A2, W', tellF act (fun k => needS (rkind (insOf W k))) tl, bump act cnt, by rw [hks] at p3; exact p3, ⟨good', p'.trans wi.pe, b'.trans wi.be, k'.trans wi.ke, fun k hk => ?_⟩, bump_le hc, _, _, _, _, _, _, _, _, _, rfl⟩
              by_cases hka : k ∈ act
              · obtain ⟨g1, g2⟩ := al_go wi hk (hgo k hka)
                unfold bump tellF
                rw [if_pos hka, ← g2]
                refine ⟨g1, ?_⟩
                cases hnd2 : needS (rkind (insOf W k)) with
                | true => rw [if_pos ⟨hka, hnd2⟩, if_pos rfl]
                | false => rw [if_neg fun z => by (have z2 : needS (rkind (insOf W k)) = true := z.2; rw [hnd2] at z2; cases z2), if_neg Bool.false_ne_true]
              · unfold bump tellF
                rw [if_neg hka, if_neg fun z => hka z.1, s2 k hka]
                exact wi.al k hk
        · have hg0 : modeF.grp W = 0 := by
            have := of_decide_eq_false e
            omega
          refine sg_ifB (et_truL (ds := (ascI W.wk).map (askD W)) (ev_rd p1 okW (slf 1) (by decide +kernel) ea_nil ⟨rfl, rfl⟩)) (fun e => ?_) fun e => ?_
          · have hwk : W.wk ≠ [] := fun z => by rw [z] at e; cases e
            refine sg_letG (ev_rd (s0 := .lst ((ascI W.wk).map (askD W))) p1 okW (slf 1) (by decide +kernel) ea_nil ⟨rfl, rfl⟩) fun J2 s ⟨e1, e2⟩ => ?_
            rw [e1, e2, hasked]
            have hand : (ascI W.wk).Nodup := asc_nodup (asc_ascI _)
            have hak : ∀ k ∈ ascI W.wk, k ∈ ks := fun k hk => by rw [← wi.ke]; exact wk_ks okW hk
            have ha6 : (ascI W.wk).length ≤ 6 := Nat.le_trans (sub_len hand hak) hks6
            obtain ⟨W', gs, good', k', p', b', s1, s2⟩ := modeF.hR (ps := (ascI W.wk).map fun k => (k, wordN (ws k) (needS (rkind (insOf W k))) (tl k))) wi.good hg0 hwk (by rw [List.map_map]; exact List.map_id _) fun r hr => by
              obtain ⟨k, hk, rfl⟩ := List.mem_map.mp hr
              exact wordN_wd (hws k (hak k hk)).2.2
            have hgo : ∀ k ∈ ascI W.wk, W'.st k = behindN W.p (W.base + k) (W.st k) (wordN (ws k) (needS (rkind (insOf W k))) (tl k)) := fun k hk => s1 k _ (List.mem_map.mpr ⟨k, hk, rfl⟩)
            have s2 : ∀ k, k ∉ ascI W.wk → W'.st k = W.st k := fun k hk => s2 k fun z => hk (mem_ascI.mpr z)
            generalize ascI W.wk = act at *
            refine sg_seq (N := fun J2 δ2 => (∃ A2, J2.Perm (wpJ C x false A2 W' ++ (dictD dt ks (fun k => .int (tellF act (fun k => needS (rkind (insOf W k))) tl k : Nat)) :: dictR ds ks lb :: (SJ p b ws lb ks cnt ++ J0)))) ∧ δ2 = dw9 a7 (some (.dat (.int i))) (some (.dat (.int (modeF.grp W)))) a10 (some (.lst (act.map fun k => .tup [.int k, .tup (.str (rkind (insOf W k)) :: reqT (W.st k) (insOf W k))]))) a12 a13 a14 a15) ?_ ?_
            · refine sg_dropG (ev_wrG (J3 := dictD dt ks (fun k => .int (tellF act (fun k => needS (rkind (insOf W k))) tl k : Nat)) :: dictR ds ks lb :: (SJ p b ws lb ks cnt ++ J0)) (A := A) (W' := W') p1 okW (slf 1) (by decide +kernel) ?_ gs) fun J3 s h => ⟨h, rfl⟩
              refine fun F0 H0 τd σ τ H Q S kk => eag_one (ev_told (ws := ws) (tl := tl) (kd := fun k => rkind (insOf W k)) (rr := fun k => reqT (W.st k) (insOf W k)) (slf 2) (slf 5) (ev_lst rfl) (ptold p1) hRt hwt hand hak ha6 (Nat.le_trans hks6 (by decide))) F0 H0 τd σ τ H Q S fun J4 ss vs H4 ⟨s, es, pq, e5⟩ lv S4 => kk J4 ss vs H4 ⟨pq.trans List.perm_middle.symm, ?_⟩ lv S4
              rw [es, e5, List.map_map]
              rfl
            · rintro J2 δ2 ⟨⟨A2, p2⟩, rfl⟩
              have okW' := modeF.ok good'
              refine sg_seen (b := b) (p := p) (ws := ws) (cnt := cnt) (X := fun k => .tup (.str (rkind (insOf W k)) :: reqT (W.st k) (insOf W k))) okW' (k'.trans hksW) hn hdw2 hand (by rw [hks]; exact hak) (fun k => Nat.le_trans (hc k) (by omega)) (fun k hk => (al_go wi (hak k hk) (hgo k hk)).1) (by rw [hks]; exact p2) fun J3 a7 a12 p3 => ⟨A2, W', tellF act (fun k => needS (rkind (insOf W k))) tl, bump act cnt, by rw [hks] at p3; exact p3, ⟨good', p'.trans wi.pe, b'.trans wi.be, k'.trans wi.ke, fun k hk => ?_⟩, bump_le hc, _, _, _, _, _, _, _, _, _, rfl⟩
              by_cases hka : k ∈ act
              · obtain ⟨g1, g2⟩ := al_go wi hk (hgo k hka)
                unfold bump tellF
                rw [if_pos hka, ← g2]
                refine ⟨g1, ?_⟩
                cases hnd2 : needS (rkind (insOf W k)) with
                | true => rw [if_pos ⟨hka, hnd2⟩, if_pos rfl]
                | false => rw [if_neg fun z => by (have z2 : needS (rkind (insOf W k)) = true := z.2; rw [hnd2] at z2; cases z2), if_neg Bool.false_ne_true]
              · unfold bump tellF
                rw [if_neg hka, if_neg fun z => hka z.1, s2 k hka]
                exact wi.al k hk
          · exact sg_break ⟨A, W, tl, cnt, p1, wi, fun k => Nat.le_trans (hc k) (by omega), _, _, _, _, _, _, _, _, _, rfl⟩
      clear p1 wi hc okW hS hfew hksW ptold hRt hwt hasked A W tl cnt a7 a8 a9 a10 a11 a12 a13 a14 a15
      rintro J1 δ1 ⟨A, W, tl, cnt, p1, wi, hc, a7, a8, a9, a10, a11, a12, a13, a14, a15, rfl⟩
      exact sg_ifB (et_truB (ev_dat (d := .bl false) rfl)) (fun e => by cases e) fun _ => sg_next ⟨A, W, tl, cnt, p1, wi, hc, _, _, _, _, _, _, _, _, _, rfl⟩
    · rintro J2 δ1 ⟨A2, W, tl, cnt, p2, wi, hc, a7, a8, a9, a10, a11, a12, a13, a14, a15, rfl⟩
      refine sg_retG (ev_var (i := 6) rfl) fun J3 s ⟨e1, e2⟩ => ⟨ds, lb, cnt, wpJ C x false A2 W ++ (dictD dt ks (fun k => .int (tl k : Nat)) :: dictR ds ks lb :: SJ p b ws lb ks cnt), e2, by rw [e1]; simpa using p2, List.mem_append_right _ (List.mem_cons_of_mem _ (List.mem_cons_self ..)), fun k hk => ⟨List.mem_append_right _ (List.mem_cons_of_mem _ (List.mem_cons_of_mem _ (List.mem_map.mpr ⟨k, hk, rfl⟩))), Nat.le_trans (hc k) (by decide)⟩⟩

theorem ok_walkW (F : FunP K "_law_walk" sFwalk f fd) (T : Txt K mg) (q : ClsF K C) (m_groups : CalM P w K mg base C 1 "groups" ["self"] (spG (rdP C true modeW.gG))) (m_asks : CalM P w K mg base C 2 "asks" ["self", "group"] (spG (rdP C true modeW.gA)))
    (m_step : CalM P w K mg base C 8 "step" ["self", "group", "words"] (spG (wrP C true modeW.gS))) (m_release : CalM P w K mg base C 7 "release" ["self", "words"] (spG (wrP C true modeW.gR))) (m_waits : CalM P w K mg base C 2 "waits" ["self"] (spG (rdP C true gWaits)))
    (m_lanes : CalM P w K mg base C 1 "lanes" ["self"] (spG (rdP C true gLanes))) (m_ended : CalM P w K mg base C 1 "ended" ["self"] (spG (rdP C true gEnded))) (m_entries : CalM P w K mg base C 1 "entries" ["self"] (spG (rdP C true gEntries))) (c_Fdraw : Cal P w K mg base 1 "_law_draw" ["_law_stream_here", "_law_many"] (spG drawP)) (c_Ftold : Cal P w K mg base 1 "_law_told" ["_law_words", "_law_told_here", "_law_asked"] (spG toldP)) :
    FnOk P w K mg base CX0 9 f fd ["_law_stream_here", "_law_warp", "_law_words", "_law_count", "_law_masks"] (spG (walkP C true)) := by
  have sc := scFwalk
  refine fn_sg F sc (fun J ss R h => ?_) (fun cdv A outer s H E hr => ⟨_, (pss_cons (ps_set (i := 5) sc.nd rfl (.inl rfl) pe_dnewK)
    (pss_cons (ps_set (i := 6) sc.nd rfl (.inl rfl) pe_dnewK)
    (pss_cons (ps_lock (ps_for PassesOwn.never rfl (pi_keys (pv 2)) (pg_name (i := 7) sc.nd rfl (.inl rfl)) (pss_cons (ps_dput (hu_of hr) (pv 5) (pv 7) pe_int rfl)
    (pss_one (ps_dput (hu_of hr) (pv 6) (pv 7) (pe_lst pa_nil) rfl)))))
    (pss_cons (ps_for PassesOwn.never rfl (pi_range1 (by rfl) T.n_range (pa_cons pe_int pa_nil)) (pg_name (i := 8) sc.nd rfl (.inl rfl)) (pss_cons (ps_set (i := 9) sc.nd rfl (.inl rfl) (pe_meth0 (pv 1) q.cl m_groups.mt m_groups.ok (hr.mono (by decide)) m_groups.hb .nil pass0))
    (pss_cons (ps_if (pt_cmpR op_gt (pv 9) pe_int (nomark _)) (pss_cons (ps_set (i := 10) sc.nd rfl (.inl rfl) (pe_call c_Fdraw.ok (hr.mono (by decide)) (by rfl) c_Fdraw.hm c_Fdraw.hk c_Fdraw.hb .nil pass0 (pa_cons (pv 0) (pa_cons (pv 9) pa_nil))))
    (pss_cons (ps_set (i := 11) sc.nd rfl (.inl rfl) (pe_meth (pv 1) q.cl m_asks.mt m_asks.ok (hr.mono (by decide)) m_asks.hb .nil pass0 (pa_cons (pv 10) pa_nil)))
    (pss_one (ps_if (pt_cmpR op_in_seq (pe_ix ix_tup (pe_ix ix_tup (pe_ix ix_list (pv 11) pe_int (fun _ _ => rfl)) pe_int (fun _ _ => rfl)) pe_int (fun _ _ => rfl)) (pe_tup (pa_cons pe_str (pa_cons pe_str pa_nil))) (by rfl)) (pss_one (ps_expr (pe_meth (pv 1) q.cl m_step.mt m_step.ok (hr.mono (by decide)) m_step.hb .nil pass0 (pa_cons (pv 10) (pa_cons (pe_op op_rep (pe_lst (pa_cons pe_int pa_nil)) (pe_callB call_len_seq (by rfl) T.n_len (by decide +kernel) (pa_cons (pv 11) pa_nil))) pa_nil))))) (pss_cons (ps_expr (pe_meth (pv 1) q.cl m_step.mt m_step.ok (hr.mono (by decide)) m_step.hb .nil pass0 (pa_cons (pv 10) (pa_cons (pe_call c_Ftold.ok (hr.mono (by decide)) (by rfl) c_Ftold.hm c_Ftold.hk c_Ftold.hb .nil pass0 (pa_cons (pv 2) (pa_cons (pv 5) (pa_cons (pv 11) pa_nil)))) pa_nil))))
    (pss_one (ps_for PassesOwn.never rfl (pi_list (pv 11)) (pg_tup (by rfl) (pgs_cons (pg_name (i := 7) sc.nd rfl (.inl rfl)) (pgs_cons (pg_name (i := 12) sc.nd rfl (.inl rfl)) pgs_nil))) (pss_one (ps_expr (pe_bm PySem.F.plainAttrs_list PySem.F.slot_list_append PySem.F.type_list_append mt_append (pe_dget (hu_of hr) (pv 6) (pv 7) (fun _ _ => rfl)) (pa_cons (pe_ix ix_list (pe_meth0 (pv 1) q.cl m_lanes.mt m_lanes.ok (hr.mono (by decide)) m_lanes.hb .nil pass0) (pe_op op_sub (pv 7) (pe_callB (cr_minK rfl) (by rfl) T.n_min (by decide +kernel) (pa_cons (pv 2) pa_nil))) (fun _ _ => rfl)) pa_nil))))))))))) (pss_one (ps_if (pt_truth (pe_meth0 (pv 1) q.cl m_waits.mt m_waits.ok (hr.mono (by decide)) m_waits.hb .nil pass0) (by intro _; rfl)) (pss_cons (ps_set (i := 11) sc.nd rfl (.inl rfl) (pe_meth0 (pv 1) q.cl m_waits.mt m_waits.ok (hr.mono (by decide)) m_waits.hb .nil pass0))
    (pss_cons (ps_expr (pe_meth (pv 1) q.cl m_release.mt m_release.ok (hr.mono (by decide)) m_release.hb .nil pass0 (pa_cons (pe_call c_Ftold.ok (hr.mono (by decide)) (by rfl) c_Ftold.hm c_Ftold.hk c_Ftold.hb .nil pass0 (pa_cons (pv 2) (pa_cons (pv 5) (pa_cons (pv 11) pa_nil)))) pa_nil)))
    (pss_one (ps_for PassesOwn.never rfl (pi_list (pv 11)) (pg_tup (by rfl) (pgs_cons (pg_name (i := 7) sc.nd rfl (.inl rfl)) (pgs_cons (pg_name (i := 12) sc.nd rfl (.inl rfl)) pgs_nil))) (pss_one (ps_expr (pe_bm PySem.F.plainAttrs_list PySem.F.slot_list_append PySem.F.type_list_append mt_append (pe_dget (hu_of hr) (pv 6) (pv 7) (fun _ _ => rfl)) (pa_cons (pe_ix ix_list (pe_meth0 (pv 1) q.cl m_lanes.mt m_lanes.ok (hr.mono (by decide)) m_lanes.hb .nil pass0) (pe_op op_sub (pv 7) (pe_callB (cr_minK rfl) (by rfl) T.n_min (by decide +kernel) (pa_cons (pv 2) pa_nil))) (fun _ _ => rfl)) pa_nil)))))))) (pss_one ps_break))))
    (pss_one (ps_if (pt_truth (pv 4) (by intro _; rfl)) (pss_cons (ps_set (i := 13) sc.nd rfl (.inr rfl) (pe_lst pa_nil))
    (pss_cons (ps_for PassesOwn.never rfl (pi_list (pe_meth0 (pv 1) q.cl m_entries.mt m_entries.ok (hr.mono (by decide)) m_entries.hb .nil pass0)) (pg_name (i := 14) sc.nd rfl (.inl rfl)) (pss_one (ps_set (i := 13) sc.nd rfl (.inr rfl) (pe_op op_cat (pv 13) (pe_callTy call_list_of (by rfl) T.n_list (by decide +kernel) (pa_cons (pe_ix ix_tup (pv 14) pe_int (fun _ _ => rfl)) pa_nil))))))
    (pss_cons (ps_lock (ps_setLc (i := 15) (own := [("_law_tid", 7)]) (g := gName 7) (tt := _) rfl sc.nd rfl rfl (sw_true rfl rfl rfl (by decide +kernel)) (pi_keys (pv 2)) (blkOk_by (own := [("_law_tid", 7)]) (N := ["_law_stream_here", "_law_warp", "_law_words", "_law_count", "_law_masks", "_law_told_here", "_law_seen", "_law_tid", "_law_k", "_law_many", "_law_group", "_law_asked", "_law_row", "_law_inside", "_law_entry", "_law_running"]) (sc := defScope sFwalk) (by decide +kernel)) (fun _ _ _ _ _ => pg_name (i := 7) sc.nd rfl (Or.inl rfl)) (fun _ _ _ _ _ => by apply pts_at; (exact (pts_one (PW.pt (pw_and (pt_cmpR op_notIn_seq (pv 7) (pe_meth0 (pv 1) q.cl m_ended.mt m_ended.ok (hr.mono (by decide)) m_ended.hb .nil pass0) (by rfl)) (pw_and1 (pt_cmp (pc_dnotin (hu_of hr) (pv 7) (pe_callTy (call_dictP rfl) (by rfl) T.n_dict (by decide +kernel) (pa_cons (pe_meth0 (pv 1) q.cl m_waits.mt m_waits.ok (hr.mono (by decide)) m_waits.hb .nil pass0) pa_nil))) (by rfl))))))); (try dsimp only [Cx.blk]); try exact rfl) (fun _ _ _ _ _ => by apply pe_at; (exact (pv 7)); (try dsimp only [Cx.blk]); try exact rfl)))
    (pss_one (ps_if (PW.pt (pw_or (pt_cmpR op_gt (pe_callB call_len_seq (by rfl) T.n_len (by decide +kernel) (pa_cons (pe_meth0 (pv 1) q.cl m_entries.mt m_entries.ok (hr.mono (by decide)) m_entries.hb .nil pass0) pa_nil)) (pe_op op_mul pe_int (pv 3)) (nomark _)) (pw_or1 (pt_not (pt_truth (pe_callB (cr_all rfl) (by rfl) T.n_all (by decide +kernel) (pa_cons (pe_lc (own := [("_law_tid", 7)]) (g := gName 7) (tt := tYes) (by rfl) sc.nd (pi_list (pv 15)) (blkOk_by (own := [("_law_tid", 7)]) (N := ["_law_stream_here", "_law_warp", "_law_words", "_law_count", "_law_masks", "_law_told_here", "_law_seen", "_law_tid", "_law_k", "_law_many", "_law_group", "_law_asked", "_law_row", "_law_inside", "_law_entry", "_law_running"]) (sc := defScope sFwalk) (by decide +kernel)) (fun _ _ _ _ _ => pg_name (i := 7) sc.nd rfl (Or.inl rfl)) (fun _ _ _ _ _ => pts_nil) (fun _ _ _ _ _ => by apply pe_at; (exact (pe_cmpR op_in_seq (pv 7) (pv 13) (by rfl))); (try dsimp only [Cx.blk]); try exact rfl)) pa_nil)) (by intro _; rfl)))))) (pss_one (ps_ret pe_non)) pss_nil))))) pss_nil)))))
    (pss_one (ps_ret (pv 6))))))), fun J ss R h => ?_⟩)
  · obtain ⟨l, x, A, p, b, first, n, dw, la, ws, J0, pj, hl, hdw, hws, hp, hn, hfn, hb, rfl, rfl⟩ := h
    rfl
  · obtain ⟨l, x, A, p, b, first, n, dw, la, ws, J0, pj, hl, hdw, hws, hp, hn, hfn, hb, rfl, rfl⟩ := h
    refine sg_letG (ev_newD fun _ => .int 0) fun J1 s ⟨dt, e1, e2⟩ => ?_
    rw [e1, e2]
    refine sg_letG (ev_newR fun _ => x) fun J1 s ⟨ds, e1, e2⟩ => ?_
    rw [e1, e2]
    obtain ⟨J0r, pr⟩ := mem_perm hdw
    have hnd := asc_nodup (keysN_asc first n)
    have hks6 : (keysN first n).length ≤ 6 := by rw [keysN_len]; omega
    generalize hks : keysN first n = ks at *
    let dw9 : Option Sl → Option Sl → Option Sl → Option Sl → Option Sl → Option Sl → Option Sl → Option Sl → Option Sl → SE := dW l x dw n true dt ds
    refine sg_seq (N := fun J1 δ1 => ∃ lb, J1.Perm (wpJ C x true A (WSt.init p b first n) ++ (dictD dt ks (fun _ => .int ((0 : Nat) : Int)) :: dictR ds ks lb :: (SJ p b ws lb ks (fun _ => 0) ++ J0))) ∧ ∃ a7, δ1 = dw9 a7 none none none none none none none none) ?_ ?_
    · refine SG.perm (J' := dictR dw ks la :: (dictR ds [] (fun _ => x) :: dictD dt [] (fun _ => .int 0) :: (wpJ C x true A (WSt.init p b first n) ++ J0r))) ?_ ?_
      · have h1 : J.Perm (dictR dw ks la :: (wpJ C x true A (WSt.init p b first n) ++ J0r)) := pj.trans ((List.Perm.append_left _ pr).trans List.perm_middle)
        exact (((h1.cons _).cons _).trans ((List.Perm.swap ..).cons _)).trans (List.Perm.swap ..)
      refine sg_lock fun o => ?_
      refine sg_forK (o := o) (Iv := fun i J1 δ1 => ∃ lb, J1.Perm (dictZ o dw ks la :: (dictR ds (ks.take i) lb :: dictD dt (ks.take i) (fun _ => .int 0) :: (((ks.take i).map fun k => lstA (lb k) []) ++ (wpJ C x true A (WSt.init p b first n) ++ J0r)))) ∧ ∃ a7, δ1 = dw9 a7 none none none none none none none none) (slf 2) (fun i J1 δ1 ⟨lb, p1, _⟩ => p1.mem_iff.mpr (List.mem_cons_self ..)) ⟨fun _ => x, List.Perm.refl _, _, rfl⟩ ?_ ?_
      · rintro i k J1 δ1 hi ⟨lb, p1, a7, rfl⟩
        have hm := List.mem_of_getElem? hi
        have et : ks.take (i + 1) = ks.take i ++ [k] := by rw [List.take_add_one, hi]; rfl
        have hnk : k ∉ ks.take i := fun z => by
          have h2 : (ks.take (i + 1)).Nodup := hnd.sublist (List.take_sublist ..)
          rw [et, List.nodup_append] at h2
          exact h2.2.2 k z k (List.mem_singleton.mpr rfl) rfl
        have eadd : addK (ks.take i) k = ks.take (i + 1) := by rw [et]; exact if_neg hnk
        have hlen : (ks.take (i + 1)).length ≤ 8 := by rw [List.length_take]; omega
        refine ⟨_, tg_name, ?_⟩
        refine SG.perm p1 ?_
        refine sg_seq (N := fun J1 δ1 => J1 = dictZ o dw ks la :: (dictR ds (ks.take i) lb :: dictD dt (ks.take (i + 1)) (fun _ => .int 0) :: (((ks.take i).map fun k => lstA (lb k) []) ++ (wpJ C x true A (WSt.init p b first n) ++ J0r))) ∧ δ1 = dw9 (some (.dat (.int k))) none none none none none none none none) ?_ ?_
        · refine sg_dput (s := [dictZ o dw ks la, dictR ds (ks.take i) lb]) (t := ((ks.take i).map fun k => lstA (lb k) []) ++ (wpJ C x true A (WSt.init p b first n) ++ J0r)) (ks := ks.take i) (g := fun _ => .int 0) (k := k) (e := .int 0) ev_int (slf 5) (ev_dat rfl) (by rw [eadd]; exact hlen) ⟨?_, rfl⟩
          rw [eadd, upF_const]
          rfl
        · rintro J2 δ2 ⟨rfl, rfl⟩
          refine sg_dputR (ev_newL (ds := []) ea_d0 (Nat.zero_le _)) (by rw [eadd]; exact hlen) fun J3 s ⟨qa, e1, e2⟩ => ⟨[lstA qa [], dictZ o dw ks la], dictD dt (ks.take (i + 1)) (fun _ => .int 0) :: (((ks.take i).map fun k => lstA (lb k) []) ++ (wpJ C x true A (WSt.init p b first n) ++ J0r)), qa, e1, e2, slf 6, ev_dat rfl, upF lb k qa, ?_, _, rfl⟩
          rw [eadd, et, List.map_append]
          have em : ((ks.take i).map fun j => lstA (upF lb k qa j) []) = (ks.take i).map fun k => lstA (lb k) [] := List.map_congr_left fun j hj => by rw [upF_ne fun e => hnk (by rw [← e]; exact hj)]
          have em2 : ([k].map fun j => lstA (upF lb k qa j) []) = [lstA qa []] := by
            show [lstA (upF lb k qa k) []] = _
            rw [upF_same]
          rw [em, em2]
          have h := List.perm_middle (a := lstA qa []) (l₁ := dictZ o dw ks la :: dictR ds (ks.take i ++ [k]) (upF lb k qa) :: dictD dt (ks.take i ++ [k]) (fun _ => .int 0) :: ((ks.take i).map fun k => lstA (lb k) [])) (l₂ := wpJ C x true A (WSt.init p b first n) ++ J0r)
          simpa using h.symm
      · rintro J1 δ1 ⟨lb, p1, a7, rfl⟩
        rw [List.take_length] at p1
        refine ⟨_, p1, lb, ?_, _, rfl⟩
        have h1 : (wpJ C x true A (WSt.init p b first n) ++ (dictD dt ks (fun _ => .int ((0 : Nat) : Int)) :: dictR ds ks lb :: (SJ p b ws lb ks (fun _ => 0) ++ J0))).Perm (wpJ C x true A (WSt.init p b first n) ++ (dictD dt ks (fun _ => .int ((0 : Nat) : Int)) :: dictR ds ks lb :: (SJ p b ws lb ks (fun _ => 0) ++ (dictR dw ks la :: J0r)))) := List.Perm.append_left _ (((List.Perm.append_left _ pr).cons _).cons _)
        refine List.Perm.trans ?_ h1.symm
        show (dictR dw ks la :: dictR ds ks lb :: dictD dt ks (fun _ => .int ((0 : Nat) : Int)) :: (SJ p b ws lb ks (fun _ => 0) ++ (wpJ C x true A (WSt.init p b first n) ++ J0r))).Perm _
        generalize dictR dw ks la = z1
        generalize dictR ds ks lb = z2
        generalize dictD dt ks (fun _ => .int ((0 : Nat) : Int)) = z3
        generalize SJ p b ws lb ks (fun _ => 0) = z4
        generalize wpJ C x true A (WSt.init p b first n) = z5
        classical
        rw [List.perm_iff_count]
        intro a
        simp only [List.count_append, List.count_cons]
        omega
    rintro J1 δ1 ⟨lb, p1, a7, rfl⟩
    have hgood : modeW.Good (WSt.init p b first n) := by
      first | exact init_ok hp hb hfn | exact ⟨init_ok hp hb hfn, init_sok hn⟩
    let IvW : Nat → List Atom → SE → Prop := fun i J1 δ1 => ∃ A W tl cnt, J1.Perm (wpJ C x true A W ++ (dictD dt ks (fun k => .int (tl k : Nat)) :: dictR ds ks lb :: (SJ p b ws lb ks cnt ++ J0))) ∧ WI true modeW p b ks ws W tl cnt ∧ (∀ k, cnt k ≤ i) ∧ ∃ a7 a8 a9 a10 a11 a12 a13 a14 a15, δ1 = dw9 a7 a8 a9 a10 a11 a12 a13 a14 a15
    refine sg_seq (N := fun J1 δ1 => IvW 150 J1 δ1) ?_ ?_
    · refine sg_forR1 (n := 150) (Iv := IvW) (ea_d (ds := []) ev_int ea_d0) (by decide) ⟨A, WSt.init p b first n, fun _ => 0, fun _ => 0, p1, ⟨hgood, rfl, rfl, hks, fun k hk => ⟨rfl, rfl⟩⟩, fun k => Nat.le_refl 0, _, _, _, _, _, _, _, _, _, rfl⟩ ?_ fun J1 δ1 h => h
      clear p1
      rintro i J1 δ1 hi ⟨A, W, tl, cnt, p1, wi, hc, a7, a8, a9, a10, a11, a12, a13, a14, a15, rfl⟩
      refine ⟨_, tg_name, ?_⟩
      have okW := modeW.ok wi.good
      have hS : strA l ∈ J1 := p1.mem_iff.mpr (List.mem_append_right _ (List.mem_cons_of_mem _ (List.mem_cons_of_mem _ (List.mem_append_right _ hl))))
      have hfew := modeW.few wi.good
      have hksW : W.ks = keysN first n := by rw [wi.ke, hks]
      have hdw2 : dictR dw (keysN first n) la ∈ J0 := by rw [hks]; exact hdw
      have ptold : ∀ {J2 : List Atom}, J2.Perm (wpJ C x true A W ++ (dictD dt ks (fun k => .int (tl k : Nat)) :: dictR ds ks lb :: (SJ p b ws lb ks cnt ++ J0))) → J2.Perm (dictD dt ks (fun k => .int (tl k : Nat)) :: (wpJ C x true A W ++ (dictR ds ks lb :: (SJ p b ws lb ks cnt ++ J0)))) := fun h => h.trans List.perm_middle
      have hRt : HasR (wpJ C x true A W ++ (dictR ds ks lb :: (SJ p b ws lb ks cnt ++ J0))) dw ks la := .inl (List.mem_append_right _ (List.mem_cons_of_mem _ (List.mem_append_right _ hdw)))
      have hwt : ∀ k ∈ ks, lstA (la k) ((ws k).map Dt.int) ∈ wpJ C x true A W ++ (dictR ds ks lb :: (SJ p b ws lb ks cnt ++ J0)) ∧ ws k ≠ [] := fun k hk => ⟨List.mem_append_right _ (List.mem_cons_of_mem _ (List.mem_append_right _ (hws k hk).1)), (hws k hk).2.1⟩
      have hasked := askD_eq W
      refine sg_letD (EvG.toD (ev_rd p1 okW (slf 1) (by decide +kernel) ea_nil (modeW.hG wi.good))) ?_
      refine sg_seq (N := IvW (i + 1)) ?_ ?_
      · refine sg_ifB (et_b (ev_op (ev_dat (d := .int (modeW.grp W)) rfl) ev_int rr_IB)) (fun e => ?_) fun e => ?_
        · have hpos := of_decide_eq_true e
          refine sg_letI (ev_draw (slf 0) hS (ev_dat (d := .int (modeW.grp W)) rfl) (by omega) (by omega)) fun gi hgi => ?_
          obtain ⟨g, rfl⟩ : ∃ n : Nat, gi = n := ⟨gi.toNat, by omega⟩
          have hg : g < modeW.grp W := by omega
          refine sg_letG (ev_rd (s0 := .lst ((modeW.act W g).map (askD W))) p1 okW (slf 1) (by decide +kernel) (ea_d (ds := []) (ev_dat rfl) ea_d0) (modeW.hA wi.good hg)) fun J2 s ⟨e1, e2⟩ => ?_
          rw [e1, e2, hasked]
          have hne := modeW.ne wi.good hg
          have hand := modeW.nd wi.good hg
          have hak : ∀ k ∈ modeW.act W g, k ∈ ks := fun k hk => by rw [← wi.ke]; exact modeW.ks wi.good hg hk
          have ha6 : (modeW.act W g).length ≤ 6 := Nat.le_trans (sub_len hand hak) hks6
          have hsame := fun j k => modeW.same (j := j) (k := k) wi.good hg
          have hst := fun ps => modeW.hS (ps := ps) wi.good hg
          obtain ⟨k0, r0, hk0⟩ : ∃ k0 r0, modeW.act W g = k0 :: r0 := by
            cases q : modeW.act W g with
            | nil => exact absurd q hne
            | cons a r => exact ⟨a, r, rfl⟩
          have hm0 : k0 ∈ modeW.act W g := by rw [hk0]; exact List.mem_cons_self ..
          generalize modeW.act W g = act at *
          refine sg_ifB (z := (insOf W k0).isWait) ?_ (fun ew => ?_) fun ew => ?_
          · rw [← rk_wait]
            refine et_b (ev_in2 (x := rkind (insOf W k0)) (ev_op (da := .tup (.str (rkind (insOf W k0)) :: reqT (W.st k0) (insOf W k0))) (ev_op (da := .tup [.int k0, .tup (.str (rkind (insOf W k0)) :: reqT (W.st k0) (insOf W k0))]) ?_ ev_int (rr_ixT (d := .tup (.str (rkind (insOf W k0)) :: reqT (W.st k0) (insOf W k0))) (by rfl))) ev_int rr_head) (by walk_at "ev"))
            exact ev_ixL (ds := act.map fun k => .tup [.int k, .tup (.str (rkind (insOf W k)) :: reqT (W.st k) (insOf W k))]) (P := fun i => i = 0) (ev_lst rfl) (ev_int.toI rfl) fun i hi => ⟨_, by rw [hi, hk0]; exact atI_nat (j := 0) rfl, rfl⟩
          · obtain ⟨W', gs, good', k', p', b', s1, s2⟩ := hst (act.map fun k => (k, 0)) (by rw [List.map_map]; exact List.map_id act) fun r hr => by
              obtain ⟨k, _, rfl⟩ := List.mem_map.mp hr
              show Wd 0
              exact ⟨by decide, by decide⟩
            refine sg_dropG (ev_wr (W' := W') p1 okW (slf 1) (by decide +kernel) (ea_consP (Ps := fun ss => ss = [.lst ((act.map fun k => (k, (0 : Int))).map fun q => .int q.2)]) (ev_dat (d := .int g) rfl) (ea_consP (Ps := fun ss => ss = []) (ev_repL (x := .int 0) (n := act.length) (ev_lstD (ea_d ev_int ea_d0)) (ev_is (ev_lenL (ev_lst rfl)) (by rw [List.length_map])) (by omega)) ea_nil fun s ss e1 e2 => ?_) fun s ss ⟨d, e1, e3⟩ e2 => by rw [e1, e2, e3]) gs) fun J3 s ⟨A2, p2⟩ => ⟨A2, W', tl, cnt, p2, ⟨good', p'.trans wi.pe, b'.trans wi.be, k'.trans wi.ke, fun k hk => ?_⟩, fun k => Nat.le_succ_of_le (hc k), _, _, _, _, _, _, _, _, _, rfl⟩
            · rw [e1, e2, List.map_map]
              congr 2
              exact (List.map_const' ..).symm
            · have eq : W'.st k = W.st k := by
                by_cases hka : k ∈ act
                · rw [s1 k 0 (List.mem_map.mpr ⟨k, hka, rfl⟩), if_pos (by rw [hsame k k0 hka hm0]; exact ew)]
                · exact s2 k hka
              rw [eq]
              exact wi.al k hk
          · obtain ⟨W', gs, good', k', p', b', s1, s2⟩ := hst (act.map fun k => (k, wordN (ws k) (needS (rkind (insOf W k))) (tl k))) (by rw [List.map_map]; exact List.map_id act) fun r hr => by
              obtain ⟨k, hk, rfl⟩ := List.mem_map.mp hr
              exact wordN_wd (hws k (hak k hk)).2.2
            have hgo : ∀ k ∈ act, W'.st k = behindN W.p (W.base + k) (W.st k) (wordN (ws k) (needS (rkind (insOf W k))) (tl k)) := fun k hk => by
              rw [s1 k _ (List.mem_map.mpr ⟨k, hk, rfl⟩), if_neg (by rw [hsame k k0 hk hm0, ew]; exact Bool.false_ne_true)]
            refine sg_seq (N := fun J2 δ2 => (∃ A2, J2.Perm (wpJ C x true A2 W' ++ (dictD dt ks (fun k => .int (tellF act (fun k => needS (rkind (insOf W k))) tl k : Nat)) :: dictR ds ks lb :: (SJ p b ws lb ks cnt ++ J0)))) ∧ δ2 = dw9 a7 (some (.dat (.int i))) (some (.dat (.int (modeW.grp W)))) (some (.dat (.int g))) (some (.lst (act.map fun k => .tup [.int k, .tup (.str (rkind (insOf W k)) :: reqT (W.st k) (insOf W k))]))) a12 a13 a14 a15) ?_ ?_
            · refine sg_dropG (ev_wrG (J3 := dictD dt ks (fun k => .int (tellF act (fun k => needS (rkind (insOf W k))) tl k : Nat)) :: dictR ds ks lb :: (SJ p b ws lb ks cnt ++ J0)) (A := A) (W' := W') p1 okW (slf 1) (by decide +kernel) ?_ gs) fun J3 s h => ⟨h, rfl⟩
              refine fun F0 H0 τd σ τ H Q S kk => eag_cons (ev_dat (d := .int g) rfl) (eag_one (ev_told (ws := ws) (tl := tl) (kd := fun k => rkind (insOf W k)) (rr := fun k => reqT (W.st k) (insOf W k)) (slf 2) (slf 5) (ev_lst rfl) (ptold p1) hRt hwt hand hak ha6 (Nat.le_trans hks6 (by decide)))) F0 H0 τd σ τ H Q S fun J4 ss vs H4 ⟨r, er, s, es, pq, e5⟩ lv S4 => kk J4 ss vs H4 ⟨pq.trans List.perm_middle.symm, ?_⟩ lv S4
              rw [er, es, e5, List.map_map]
              rfl
            · rintro J2 δ2 ⟨⟨A2, p2⟩, rfl⟩
              have okW' := modeW.ok good'
              refine sg_seen (b := b) (p := p) (ws := ws) (cnt := cnt) (X := fun k => .tup (.str (rkind (insOf W k)) :: reqT (W.st k) (insOf W k))) okW' (k'.trans hksW) hn hdw2 hand (by rw [hks]; exact hak) (fun k => Nat.le_trans (hc k) (by omega)) (fun k hk => (al_go wi (hak k hk) (hgo k hk)).1) (by rw [hks]; exact p2) fun J3 a7 a12 p3 => ⟨A2, W', tellF act (fun k => needS (rkind (insOf W k))) tl, bump act cnt, by rw [hks] at p3; exact p3, ⟨good', p'.trans wi.pe, b'.trans wi.be, k'.trans wi.ke, fun k hk => ?_⟩, bump_le hc, _, _, _, _, _, _, _, _, _, rfl⟩
              by_cases hka : k ∈ act
              · obtain ⟨g1, g2⟩ := al_go wi hk (hgo k hka)
                unfold bump tellF
                rw [if_pos hka, ← g2]
                refine ⟨g1, ?_⟩
                cases hnd2 : needS (rkind (insOf W k)) with
                | true => rw [if_pos ⟨hka, hnd2⟩, if_pos rfl]
                | false => rw [if_neg fun z => by (have z2 : needS (rkind (insOf W k)) = true := z.2; rw [hnd2] at z2; cases z2), if_neg Bool.false_ne_true]
              · unfold bump tellF
                rw [if_neg hka, if_neg fun z => hka z.1, s2 k hka]
                exact wi.al k hk
        · have hg0 : modeW.grp W = 0 := by
            have := of_decide_eq_false e
            omega
          refine sg_ifB (et_truL (ds := (ascI W.wk).map (askD W)) (ev_rd p1 okW (slf 1) (by decide +kernel) ea_nil ⟨rfl, rfl⟩)) (fun e => ?_) fun e => ?_
          · have hwk : W.wk ≠ [] := fun z => by rw [z] at e; cases e
            refine sg_letG (ev_rd (s0 := .lst ((ascI W.wk).map (askD W))) p1 okW (slf 1) (by decide +kernel) ea_nil ⟨rfl, rfl⟩) fun J2 s ⟨e1, e2⟩ => ?_
            rw [e1, e2, hasked]
            have hand : (ascI W.wk).Nodup := asc_nodup (asc_ascI _)
            have hak : ∀ k ∈ ascI W.wk, k ∈ ks := fun k hk => by rw [← wi.ke]; exact wk_ks okW hk
            have ha6 : (ascI W.wk).length ≤ 6 := Nat.le_trans (sub_len hand hak) hks6
            obtain ⟨W', gs, good', k', p', b', s1, s2⟩ := modeW.hR (ps := (ascI W.wk).map fun k => (k, wordN (ws k) (needS (rkind (insOf W k))) (tl k))) wi.good hg0 hwk (by rw [List.map_map]; exact List.map_id _) fun r hr => by
              obtain ⟨k, hk, rfl⟩ := List.mem_map.mp hr
              exact wordN_wd (hws k (hak k hk)).2.2
            have hgo : ∀ k ∈ ascI W.wk, W'.st k = behindN W.p (W.base + k) (W.st k) (wordN (ws k) (needS (rkind (insOf W k))) (tl k)) := fun k hk => s1 k _ (List.mem_map.mpr ⟨k, hk, rfl⟩)
            have s2 : ∀ k, k ∉ ascI W.wk → W'.st k = W.st k := fun k hk => s2 k fun z => hk (mem_ascI.mpr z)
            generalize ascI W.wk = act at *
            refine sg_seq (N := fun J2 δ2 => (∃ A2, J2.Perm (wpJ C x true A2 W' ++ (dictD dt ks (fun k => .int (tellF act (fun k => needS (rkind (insOf W k))) tl k : Nat)) :: dictR ds ks lb :: (SJ p b ws lb ks cnt ++ J0)))) ∧ δ2 = dw9 a7 (some (.dat (.int i))) (some (.dat (.int (modeW.grp W)))) a10 (some (.lst (act.map fun k => .tup [.int k, .tup (.str (rkind (insOf W k)) :: reqT (W.st k) (insOf W k))]))) a12 a13 a14 a15) ?_ ?_
            · refine sg_dropG (ev_wrG (J3 := dictD dt ks (fun k => .int (tellF act (fun k => needS (rkind (insOf W k))) tl k : Nat)) :: dictR ds ks lb :: (SJ p b ws lb ks cnt ++ J0)) (A := A) (W' := W') p1 okW (slf 1) (by decide +kernel) ?_ gs) fun J3 s h => ⟨h, rfl⟩
              refine fun F0 H0 τd σ τ H Q S kk => eag_one (ev_told (ws := ws) (tl := tl) (kd := fun k => rkind (insOf W k)) (rr := fun k => reqT (W.st k) (insOf W k)) (slf 2) (slf 5) (ev_lst rfl) (ptold p1) hRt hwt hand hak ha6 (Nat.le_trans hks6 (by decide))) F0 H0 τd σ τ H Q S fun J4 ss vs H4 ⟨s, es, pq, e5⟩ lv S4 => kk J4 ss vs H4 ⟨pq.trans List.perm_middle.symm, ?_⟩ lv S4
              rw [es, e5, List.map_map]
              rfl
            · rintro J2 δ2 ⟨⟨A2, p2⟩, rfl⟩
              have okW' := modeW.ok good'
              refine sg_seen (b := b) (p := p) (ws := ws) (cnt := cnt) (X := fun k => .tup (.str (rkind (insOf W k)) :: reqT (W.st k) (insOf W k))) okW' (k'.trans hksW) hn hdw2 hand (by rw [hks]; exact hak) (fun k => Nat.le_trans (hc k) (by omega)) (fun k hk => (al_go wi (hak k hk) (hgo k hk)).1) (by rw [hks]; exact p2) fun J3 a7 a12 p3 => ⟨A2, W', tellF act (fun k => needS (rkind (insOf W k))) tl, bump act cnt, by rw [hks] at p3; exact p3, ⟨good', p'.trans wi.pe, b'.trans wi.be, k'.trans wi.ke, fun k hk => ?_⟩, bump_le hc, _, _, _, _, _, _, _, _, _, rfl⟩
              by_cases hka : k ∈ act
              · obtain ⟨g1, g2⟩ := al_go wi hk (hgo k hka)
                unfold bump tellF
                rw [if_pos hka, ← g2]
                refine ⟨g1, ?_⟩
                cases hnd2 : needS (rkind (insOf W k)) with
                | true => rw [if_pos ⟨hka, hnd2⟩, if_pos rfl]
                | false => rw [if_neg fun z => by (have z2 : needS (rkind (insOf W k)) = true := z.2; rw [hnd2] at z2; cases z2), if_neg Bool.false_ne_true]
              · unfold bump tellF
                rw [if_neg hka, if_neg fun z => hka z.1, s2 k hka]
                exact wi.al k hk
          · exact sg_break ⟨A, W, tl, cnt, p1, wi, fun k => Nat.le_trans (hc k) (by omega), _, _, _, _, _, _, _, _, _, rfl⟩
      clear p1 wi hc okW hS hfew hksW ptold hRt hwt hasked A W tl cnt a7 a8 a9 a10 a11 a12 a13 a14 a15
      rintro J1 δ1 ⟨A, W, tl, cnt, p1, wi, hc, a7, a8, a9, a10, a11, a12, a13, a14, a15, rfl⟩
      have okW := modeW.ok wi.good
      have sok := wi.good.2
      have hS12 := sok.len
      rw [wi.ke] at hS12
      have hdw3 : dictR dw ks la ∈ J1 := p1.mem_iff.mpr (List.mem_append_right _ (List.mem_cons_of_mem _ (List.mem_cons_of_mem _ (List.mem_append_right _ hdw))))
      have hl6 : ∀ e ∈ W.stack, e.lanes.length ≤ 6 := fun e he => Nat.le_trans (sub_len (sok.ln e he).2.1 (sok.ln e he).2.2) (run_len okW)
      refine sg_ifB (et_truB (ev_dat (d := .bl true) rfl)) (fun _ => ?_) (fun e => by cases e)
      refine sg_letL (ds := []) (ev_lstD ea_d0) ?_
      refine sg_seq (N := fun J2 δ2 => J2 = J1 ∧ ∃ a14, δ2 = dw9 a7 a8 a9 a10 a11 a12 (some (.lst ((W.stack.flatMap Ent.lanes).map Dt.int))) a14 a15) ?_ ?_
      · refine sg_forL (J' := J1) (ds := W.stack.map Ent.toD) (Iv := fun i J2 δ2 => J2 = J1 ∧ ∃ a14, δ2 = dw9 a7 a8 a9 a10 a11 a12 (some (.lst (((W.stack.take i).flatMap Ent.lanes).map Dt.int))) a14 a15) (ev_rd p1 okW (slf 1) (by decide +kernel) ea_nil ⟨rfl, rfl⟩) ⟨rfl, _, rfl⟩ ?_ ?_
        · rintro j d J2 δ2 hd ⟨rfl, a14, rfl⟩
          rw [List.getElem?_map] at hd
          cases hj : W.stack[j]? with
          | none => rw [hj] at hd; cases hd
          | some e =>
            rw [hj] at hd
            cases hd
            have hm := List.mem_of_getElem? hj
            have et : W.stack.take (j + 1) = W.stack.take j ++ [e] := by rw [List.take_add_one, hj]; rfl
            refine ⟨_, tg_name, ?_⟩
            refine sg_asgG (ev_catL (ds := ((W.stack.take j).flatMap Ent.lanes).map Dt.int) (es := e.lanes.map Dt.int) (ev_lst rfl) (ev_listT (ev_op (da := e.toD) (ev_dat rfl) ev_int (rr_ixT (d := .tup (e.lanes.map Dt.int)) (by rfl)))) ?_) fun J3 s ⟨e1, e2⟩ => ⟨e1, some (.dat e.toD), ?_⟩
            · have h1 := flat_len (i := j) hl6
              have h2 := hl6 e hm
              rw [List.length_map, List.length_map]
              omega
            · rw [et, List.flatMap_append, List.map_append, e2]
              show _ = dw9 a7 a8 a9 a10 a11 a12 (some (.lst (((W.stack.take j).flatMap Ent.lanes).map Dt.int ++ (([e].flatMap Ent.lanes).map Dt.int)))) (some (.dat e.toD)) a15
              rw [show [e].flatMap Ent.lanes = e.lanes by simp]
              rfl
        · rintro J2 δ2 ⟨e1, h⟩
          rw [List.length_map, List.take_length] at h
          exact ⟨e1, h⟩
      · rintro J2 δ2 ⟨rfl, a14, rfl⟩
        obtain ⟨Jr, pz⟩ := mem_perm hdw
        have pq : J2.Perm (dictR dw ks la :: (wpJ C x true A W ++ (dictD dt ks (fun k => .int (tl k : Nat)) :: dictR ds ks lb :: (SJ p b ws lb ks cnt ++ Jr)))) := by
          refine p1.trans ((List.Perm.append_left _ (((List.Perm.append_left _ pz).cons _).cons _)).trans ?_)
          generalize dictR dw ks la = z1
          generalize dictR ds ks lb = z2
          generalize dictD dt ks (fun k => .int (tl k : Nat)) = z3
          generalize SJ p b ws lb ks cnt = z4
          generalize wpJ C x true A W = z5
          classical
          rw [List.perm_iff_count]
          intro a
          simp only [List.count_append, List.count_cons]
          omega
        refine sg_seq (N := fun J3 δ3 => J3.Perm J2 ∧ δ3 = dw9 a7 a8 a9 a10 a11 a12 (some (.lst ((W.stack.flatMap Ent.lanes).map Dt.int))) a14 (some (.lst ((ks.filter fun k => !decide (k ∈ ascI W.gk) && !decide (k ∈ ascI W.wk)).map Dt.int)))) ?_ ?_
        · refine SG.perm pq (sg_lock fun o => ?_)
          refine sg_asgG (ev_lcK (o := o) (ks := ks) (la := la) (f := fun k => !decide (k ∈ ascI W.gk) && !decide (k ∈ ascI W.wk)) (m := Dt.int) (slf 2) (List.mem_cons_self ..) (fun B k hk => ?_) fun B k hk hf => ev_dat rfl) fun J3 s ⟨e1, e2⟩ => ⟨_, by rw [e1], pq.symm, by rw [e2]; rfl⟩
          have pw : (B :: dictZ o dw ks la :: (wpJ C x true A W ++ (dictD dt ks (fun k => .int (tl k : Nat)) :: dictR ds ks lb :: (SJ p b ws lb ks cnt ++ Jr)))).Perm (wpJ C x true A W ++ (B :: dictZ o dw ks la :: (dictD dt ks (fun k => .int (tl k : Nat)) :: dictR ds ks lb :: (SJ p b ws lb ks cnt ++ Jr)))) := by
            refine ((List.perm_middle.symm).cons B).trans ?_
            exact List.perm_middle.symm
          refine et_andB (et_b (ev_inL (neg := true) (ds := (ascI W.gk).map Dt.int) (d := .int k) (ev_dat rfl) (ev_rd pw okW (slf 1) (by decide +kernel) ea_nil ⟨rfl, rfl⟩) rfl (flat_ints _) (by rw [if_pos rfl, inD_ints]))) fun _ => et_b (ev_notinP (X := reqW W) (ev_dat (d := .int k) rfl) (ev_rd pw okW (slf 1) (by decide +kernel) ea_nil ⟨rfl, rfl⟩))
        · rintro J3 δ3 ⟨p3, rfl⟩
          have p4 := p3.trans p1
          refine sg_ifB (z := decide ((2 : Int) * (n : Int) < ((W.stack.map Ent.toD).length : Nat)) || !((((ks.filter fun k => !decide (k ∈ ascI W.gk) && !decide (k ∈ ascI W.wk)).filter fun _ => true).map fun k => decide (k ∈ W.stack.flatMap Ent.lanes)).all id)) (et_orB (et_b (ev_op (ev_lenL (ev_rd p4 okW (slf 1) (by decide +kernel) ea_nil ⟨rfl, rfl⟩)) (ev_op ev_int (ev_dat (d := .int n) rfl) (rr_CI (by unfold CMul; omega))) rr_IB)) fun _ => et_notB (et_truB (ev_all ?_))) (fun e => ?_) fun _ => sg_next ⟨A, W, tl, cnt, p4, wi, hc, _, _, _, _, _, _, _, _, _, rfl⟩
          · rw [List.map_map]
            refine ev_lcI (ns := ks.filter fun k => !decide (k ∈ ascI W.gk) && !decide (k ∈ ascI W.wk)) (f := fun _ => true) (g := fun k => Dt.bl (decide (k ∈ W.stack.flatMap Ent.lanes))) (ev_lst rfl) ?_ (fun B k hk => et_yes) fun B k hk hf => ?_
            · have := List.length_filter_le (fun k => !decide (k ∈ ascI W.gk) && !decide (k ∈ ascI W.wk)) ks
              omega
            · exact ev_inL (neg := false) (ds := (W.stack.flatMap Ent.lanes).map Dt.int) (d := .int k) (ev_dat rfl) (ev_lst rfl) rfl (flat_ints _) (by rw [if_neg Bool.false_ne_true, inD_ints])
          · refine absurd e ?_
            have h1 : ¬ ((2 : Int) * (n : Int) < ((W.stack.map Ent.toD).length : Nat)) := by
              rw [List.length_map]
              rw [← hks, keysN_len] at hS12
              omega
            have h2 : (((ks.filter fun k => !decide (k ∈ ascI W.gk) && !decide (k ∈ ascI W.wk)).filter fun _ => true).map fun k => decide (k ∈ W.stack.flatMap Ent.lanes)).all id = true := by
              rw [filter_yes, List.all_eq_true]
              intro z hz
              obtain ⟨k, hk, rfl⟩ := List.mem_map.mp hz
              obtain ⟨hk1, hk2⟩ := List.mem_filter.mp hk
              rw [Bool.and_eq_true, Bool.not_eq_true', Bool.not_eq_true', decide_eq_false_iff_not, decide_eq_false_iff_not, mem_ascI, mem_ascI] at hk2
              have hr : k ∈ runN W := run_mem.mpr ⟨by rw [wi.ke]; exact hk1, hk2.2, hk2.1⟩
              obtain ⟨e, he, hke⟩ := sok.inside hr
              exact decide_eq_true (List.mem_flatMap.mpr ⟨e, he, hke⟩)
            rw [decide_eq_false h1, h2]
            exact Bool.false_ne_true
    · rintro J2 δ1 ⟨A2, W, tl, cnt, p2, wi, hc, a7, a8, a9, a10, a11, a12, a13, a14, a15, rfl⟩
      refine sg_retG (ev_var (i := 6) rfl) fun J3 s ⟨e1, e2⟩ => ⟨ds, lb, cnt, wpJ C x true A2 W ++ (dictD dt ks (fun k => .int (tl k : Nat)) :: dictR ds ks lb :: SJ p b ws lb ks cnt), e2, by rw [e1]; simpa using p2, List.mem_append_right _ (List.mem_cons_of_mem _ (List.mem_cons_self ..)), fun k hk => ⟨List.mem_append_right _ (List.mem_cons_of_mem _ (List.mem_cons_of_mem _ (List.mem_map.mpr ⟨k, hk, rfl⟩))), Nat.le_trans (hc k) (by decide)⟩⟩

end
end LK

namespace LK
open PySem PySem.Spec PyProof.Rows L2
local macro_rules | `(tactic| walk_at "rr") => `(tactic| first
  | (with_reducible exact rr_head)
  | ((with_reducible refine rr_ixT (d := ?d) ?h); (case h => exact rfl))
  | (with_reducible exact rr_eqS)
  | (with_reducible exact rr_eqI)
  | (with_reducible exact rr_neI)
  | (with_reducible exact rr_II)
  | (with_reducible exact rr_IB))
local macro_rules | `(tactic| walk_at "ev") => `(tactic| first
  | (with_reducible exact ev_int)
  | (with_reducible exact ev_str)
  | (with_reducible exact ev_non)
  | (with_reducible exact ev_bl)
  | ((with_reducible refine ev_dat (d := ?d) ?h); (case h => exact rfl))
  | (with_reducible exact ea_d0)
  | ((with_reducible refine ea_d (d := ?d) (ds := ?ds) ?h1 ?h2); (case h1 => walk_at "ev"); (case h2 => walk_at "ev"))
  | ((with_reducible refine ev_op (da := ?da) (db := ?db) (dc := ?dc) ?h1 ?h2 ?h3); (case h1 => walk_at "ev"); (case h2 => walk_at "ev"); (case h3 => walk_at "rr"))
  | ((with_reducible refine ev_tup (ds := ?ds) ?h1 ?h2); (case h1 => walk_at "ev"); (case h2 => exact Nat.le_of_ble_eq_true rfl))
  | ((with_reducible refine et_b (b := ?b) ?h1); (case h1 => walk_at "ev")))

structure Mak (P : Program) (w : World) (K : PySem.W.Frag) (mg : Str → Option Value) (base : Heap) (C : Addr) (k : Nat) (x : Str) (ps : List Str) (sp : Sp) where
  f : Addr
  fd : FuncData
  mkk : Mk K C f
  hm : mg x = some (.ref C)
  hb : Binds K fd ps []
  ok : FnOk P w K mg base CX0 k f fd ps sp
def orP (A B : List Atom → List Sl → JO → Prop) : List Atom → List Sl → JO → Prop := fun J ss R => A J ss R ∨ B J ss R
theorem fnOr {P : Program} {w : World} {K : PySem.W.Frag} {mg : Str → Option Value} {base : Heap} {k : Nat} {f : Addr} {fd : FuncData} {ps : List Str} {A B : List Atom → List Sl → JO → Prop} (h1 : FnOk P w K mg base CX0 k f fd ps (spG A)) (h2 : FnOk P w K mg base CX0 k f fd ps (spG B)) : FnOk P w K mg base CX0 k f fd ps (spG (orP A B)) := by
  have hs : ∀ vs H Q E, spG (orP A B) vs H Q E → spG A vs H Q E ∨ spG B vs H Q E := fun vs H Q E ⟨J, F, ss, R, ho, ht, hp, q⟩ => hp.imp (fun hp => ⟨J, F, ss, R, ho, ht, hp, q⟩) fun hp => ⟨J, F, ss, R, ho, ht, hp, q⟩
  exact ⟨fun vs H Q E h => (hs vs H Q E h).elim (h1.len vs H Q E) (h2.len vs H Q E), fun A outer s H args us vs Q E hr he hb hv h => (hs vs H Q E h).elim (h1.run A outer s H args us vs Q E hr he hb hv) (h2.run A outer s H args us vs Q E hr he hb hv)⟩
section
variable {J J0 : List Atom} {δ : SE} {te tv tk ta tb tl ti td ty : TE} {t : TA} {u tb2 : TS} {K : PySem.W.Frag} {O : Outs} {g : TG} {tt : TT}
theorem ev_isNR {a : Addr} (h : EvV J te δ (.ref a)) : EvD J (tOp rIsN te (tC .non)) δ (.bl false) := fun F0 H0 τd σ τ H Q S k => h _ _ _ _ _ _ _ S fun J1 s v H1 ⟨e, es⟩ S1 => by
  subst e es
  obtain ⟨F, _, _, ev⟩ := S1.top
  have ev : v = .ref a := ev
  subst ev
  exact ⟨rfl, k J1 _ _ H1 ⟨rfl, _, rfl, rfl⟩ (S1.pop.flat (d := .bl false) rfl)⟩
/-- a comprehension over a range, its list owned -/
theorem ev_lcRO {j n : Nat} {Ac : Nat → List Dt → Prop} {Pe : Nat → Dt → Prop} (hl : EvA J t δ fun ss => ss = [.dat (.int n)]) (hz : n ≤ 40000) (h0 : Ac 0 []) (he : ∀ A (i : Nat), i < n → EvQ (A :: J) te (δ.set j (some (.dat (.int i)))) (Pe i)) (hy : ∀ i acc e, i < n → Pe i e → Ac i acc → Ac (i + 1) (acc ++ [e])) :
    EvG J (tLc (iRng1 t) (gName j) tYes te [j]) δ fun J1 s => ∃ q es, J1 = lstA q es :: J ∧ s = .val (.ref q) ∧ Ac n es := fun F0 H0 τd σ τ H Q S k =>
  hl _ _ _ _ _ _ _ S fun ss vs H1 es l S1 => by
    subst es
    obtain ⟨F, t⟩ := S1.args l
    obtain ⟨v, r, rfl, e1, e2⟩ := t
    have e1 : v = .int n := e1
    have e2 : r = [] := e2
    subst e1 e2
    have S2 := S1.drop (ss := [.dat (.int n)]) (vs := [.int n]) rfl
    refine ⟨n, rfl, by omega, by omega, fun D hD => ?_⟩
    refine lc_range (lo := 0) (n := (n : Int).toNat) (fun i H' => ∃ acc, Ac i acc ∧ acc.length ≤ i ∧ Sta (lstA D acc :: J) F0 H0 δ τd σ τ H') ⟨[], h0, Nat.le_refl _, S2.newA hD rfl⟩ ?_ ?_
    · rintro i H' hi ⟨acc, ac, la, S3⟩
      have hi2 : i < n := by omega
      rw [show (0 : Int) + (i : Int) = (i : Int) by omega]
      exact lc_turn S3 (d := .int i) (Pb := fun b => b = true) rfl (by omega) et_yes (fun _ => he _ i hi2) (fun pb H4 S4 => by cases pb) fun pb e H4 pe S4 => ⟨acc ++ [e], hy i acc e hi2 pe ac, by rw [List.length_append, List.length_singleton]; omega, S4⟩
    · rintro H' ⟨acc, ac, la, S3⟩
      rw [show (n : Int).toNat = n by omega] at ac
      exact k _ (.val (.ref D)) _ H' ⟨D, acc, rfl, rfl, ac⟩ (S3.push fun F _ _ _ _ => rfl)
end
theorem code_prg {ps : List (Str × Str)} {sh : List Dt} {loc : Nat} {rs : List Ins} (h : CodeOk ps sh loc rs) {gr : Int} {as : List Int} {bufs : Dt} (h1 : 1 ≤ gr) (h2 : gr ≤ 2) (hl : as.length = ps.length) (hw : ∀ x ∈ as, Wd x) : (Prg.mk (.tup (ps.map pD)) (.tup sh) loc rs gr as bufs).Ok where
  loc := Nat.le_trans h.locz (by decide)
  rows := fun i x hx => by
    show x.Ok rs.length loc as.length ∧ _
    rw [hl]
    exact h.rows i x hx
  few := Nat.le_trans h.few (by decide)
  pos := h.pos
  grid := ⟨h1, by show gr ≤ 4; omega⟩
  args := hw
section
variable {P : Program} {w : World} {K : PySem.W.Frag} {mg : Str → Option Value} {base : Heap} {f : Addr} {fd : FuncData} {CF CW : Addr}
theorem scFlaw : FnScope ["_law_script", "_law_stream_here", "_law_code_here", "_law_launch_here", "_law_count", "_law_first", "_law_block", "_law_words", "_law_tid", "_law_masks", "_law_warp", "_law_seen", "_law_k"] ["_law_script"] (defScope sFlaw) := ⟨rfl, rfl, rfl, by decide +kernel, rfl, by decide +kernel, by decide +kernel⟩
def lawP (K : PySem.W.Frag) : List Atom → List Sl → JO → Prop := fun J ss R => ∃ a ns, scrA K a ns ∈ J ∧ ss = [.val (.ref a)] ∧ R = fun _ s => s = .dat (.bl true)
def dL (a l : Addr) (p : Prg) (n first b : Nat) (dw : Addr) (a8 a9 a10 a11 a12 : Option Sl) : SE := [some (.val (.ref a)), some (.val (.ref l)), some (.dat p.code), some (.dat p.launch), some (.dat (.int (n : Nat))), some (.dat (.int (first : Nat))), some (.dat (.int (b : Nat))), some (.val (.ref dw)), a8, a9, a10, a11, a12]
theorem ok_law (F : FunP K "law" sFlaw f fd) (T : Txt K mg) (c_Fstream : Cal P w K mg base 1 "_law_stream" ["_law_script"] (spG (strmP K))) (c_Fdraw : Cal P w K mg base 1 "_law_draw" ["_law_stream_here", "_law_many"] (spG drawP)) (c_Fcode : Cal P w K mg base 3 "_law_code" ["_law_stream_here"] (spG (genP gCode)))
    (c_Flooping : Cal P w K mg base 2 "_law_looping" ["_law_stream_here", "_law_code_here"] (spG (genP gLoop))) (c_Flaunch : Cal P w K mg base 2 "_law_launch" ["_law_stream_here", "_law_params_here"] (spG (genP gLaunch))) (k_Warp : Mak P w K mg base CW 2 "Warp" ["self", "code", "launch", "block", "first", "count"] (spG (iniP CW true)))
    (k_FreeWarp : Mak P w K mg base CF 2 "FreeWarp" ["self", "code", "launch", "block", "first", "count"] (spG (iniP CF false))) (c_Fwalk : Cal P w K mg base 9 "_law_walk" ["_law_stream_here", "_law_warp", "_law_words", "_law_count", "_law_masks"] (spG (orP (walkP CW true) (walkP CF false))))
    (c_Falone : Cal P w K mg base 6 "_law_alone" ["_law_code_here", "_law_launch_here", "_law_thread", "_law_words", "_law_many"] (spG aloneP)) : FnOk P w K mg base CX0 10 f fd ["_law_script"] (spG (lawP K)) := by
  have sc := scFlaw
  refine fn_sg F sc (fun J ss R h => ?_) (fun cdv A outer s H E hr => ⟨_, (pss_cons (ps_set (i := 1) sc.nd rfl (.inr rfl) (pe_call c_Fstream.ok (hr.mono (by decide)) (by rfl) c_Fstream.hm c_Fstream.hk c_Fstream.hb .nil pass0 (pa_cons (pv 0) pa_nil)))
    (pss_cons (ps_set (i := 2) sc.nd rfl (.inl rfl) (pe_call c_Flooping.ok (hr.mono (by decide)) (by rfl) c_Flooping.hm c_Flooping.hk c_Flooping.hb .nil pass0 (pa_cons (pv 1) (pa_cons (pe_call c_Fcode.ok (hr.mono (by decide)) (by rfl) c_Fcode.hm c_Fcode.hk c_Fcode.hb .nil pass0 (pa_cons (pv 1) pa_nil)) pa_nil))))
    (pss_cons (ps_set (i := 3) sc.nd rfl (.inl rfl) (pe_call c_Flaunch.ok (hr.mono (by decide)) (by rfl) c_Flaunch.hm c_Flaunch.hk c_Flaunch.hb .nil pass0 (pa_cons (pv 1) (pa_cons (pe_ix ix_tup (pv 2) pe_int (fun _ _ => rfl)) pa_nil))))
    (pss_cons (ps_set (i := 3) sc.nd rfl (.inl rfl) (pe_tup (pa_cons (pe_ix ix_tup (pv 3) pe_int (fun _ _ => rfl)) (pa_cons pe_int (pa_cons (pe_ix ix_tup (pv 3) pe_int (fun _ _ => rfl)) (pa_cons (pe_ix ix_tup (pv 3) pe_int (fun _ _ => rfl)) pa_nil))))))
    (pss_cons (ps_set (i := 4) sc.nd rfl (.inl rfl) (pe_op op_add pe_int (pe_call c_Fdraw.ok (hr.mono (by decide)) (by rfl) c_Fdraw.hm c_Fdraw.hk c_Fdraw.hb .nil pass0 (pa_cons (pv 1) (pa_cons pe_int pa_nil)))))
    (pss_cons (ps_set (i := 5) sc.nd rfl (.inl rfl) (pe_call c_Fdraw.ok (hr.mono (by decide)) (by rfl) c_Fdraw.hm c_Fdraw.hk c_Fdraw.hb .nil pass0 (pa_cons (pv 1) (pa_cons (pe_op op_sub pe_int (pv 4)) pa_nil))))
    (pss_cons (ps_set (i := 6) sc.nd rfl (.inl rfl) (pe_call c_Fdraw.ok (hr.mono (by decide)) (by rfl) c_Fdraw.hm c_Fdraw.hk c_Fdraw.hb .nil pass0 (pa_cons (pv 1) (pa_cons (pe_ix ix_tup (pv 3) pe_int (fun _ _ => rfl)) pa_nil))))
    (pss_cons (ps_set (i := 7) sc.nd rfl (.inl rfl) pe_dnewK)
    (pss_cons (ps_for PassesOwn.never rfl (pi_range2 (by rfl) T.n_range (pa_cons (pv 5) (pa_cons (pe_op op_add (pv 5) (pv 4)) pa_nil))) (pg_name (i := 8) sc.nd rfl (.inl rfl)) (pss_one (ps_dput (hu_of hr) (pv 7) (pv 8) (pe_lc (own := [("_law_k", 12)]) (g := gName 12) (tt := tYes) (by rfl) sc.nd (pi_range1 (by rfl) T.n_range (pa_cons (pe_op op_add pe_int (pe_call c_Fdraw.ok (hr.mono (by decide)) (by rfl) c_Fdraw.hm c_Fdraw.hk c_Fdraw.hb .nil pass0 (pa_cons (pv 1) (pa_cons pe_int pa_nil)))) pa_nil)) (blkOk_by (own := [("_law_k", 12)]) (N := ["_law_script", "_law_stream_here", "_law_code_here", "_law_launch_here", "_law_count", "_law_first", "_law_block", "_law_words", "_law_tid", "_law_masks", "_law_warp", "_law_seen", "_law_k"]) (sc := defScope sFlaw) (by decide +kernel)) (fun _ _ _ _ _ => pg_name (i := 12) sc.nd rfl (Or.inl rfl)) (fun _ _ _ _ _ => pts_nil) (fun _ _ _ _ _ => by apply pe_at; (exact (pe_op op_sub (pe_call c_Fdraw.ok (hr.mono (by decide)) (by rfl) c_Fdraw.hm c_Fdraw.hk c_Fdraw.hb .nil pass0 (pa_cons (pv 1) (pa_cons pe_int pa_nil))) pe_int)); (try dsimp only [Cx.blk]); try exact rfl)) rfl)))
    (pss_cons (ps_for PassesOwn.never rfl (pi_tup (pe_tup (pa_cons pe_bl (pa_cons pe_bl pa_nil)))) (pg_name (i := 9) sc.nd rfl (.inl rfl)) (pss_cons (ps_if (pt_truth (pv 9) (by intro _; rfl)) (pss_one (ps_set (i := 10) sc.nd rfl (.inl rfl) (pe_make k_Warp.mkk k_Warp.ok (hr.mono (by decide)) (by rfl) k_Warp.hm k_Warp.hb .nil pass0 (pa_cons (pv 2) (pa_cons (pv 3) (pa_cons (pv 6) (pa_cons (pv 5) (pa_cons (pv 4) pa_nil)))))))) (pss_one (ps_set (i := 10) sc.nd rfl (.inl rfl) (pe_make k_FreeWarp.mkk k_FreeWarp.ok (hr.mono (by decide)) (by rfl) k_FreeWarp.hm k_FreeWarp.hb .nil pass0 (pa_cons (pv 2) (pa_cons (pv 3) (pa_cons (pv 6) (pa_cons (pv 5) (pa_cons (pv 4) pa_nil)))))))))
    (pss_cons (ps_set (i := 11) sc.nd rfl (.inl rfl) (pe_call c_Fwalk.ok (hr.mono (by decide)) (by rfl) c_Fwalk.hm c_Fwalk.hk c_Fwalk.hb .nil pass0 (pa_cons (pv 1) (pa_cons (pv 10) (pa_cons (pv 7) (pa_cons (pv 4) (pa_cons (pv 9) pa_nil)))))))
    (pss_cons (ps_if (pt_cmpR op_isN1 (pv 11) pe_non (nomark _)) (pss_one (ps_ret pe_bl)) pss_nil)
    (pss_one (ps_lock (ps_for PassesOwn.never rfl (pi_keys (pv 7)) (pg_name (i := 8) sc.nd rfl (.inl rfl)) (pss_one (ps_if (pt_cmpR (op_neD hr.units) (pe_dget (hu_of hr) (pv 11) (pv 8) (fun _ _ => rfl)) (pe_call c_Falone.ok (hr.mono (by decide)) (by rfl) c_Falone.hm c_Falone.hk c_Falone.hb .nil pass0 (pa_cons (pv 2) (pa_cons (pv 3) (pa_cons (pe_op op_add (pe_op op_mul (pv 6) pe_int) (pv 8)) (pa_cons (pe_dget (hu_of hr) (pv 7) (pv 8) (fun _ _ => rfl)) (pa_cons (pe_callB call_len_seq (by rfl) T.n_len (by decide +kernel) (pa_cons (pe_dget (hu_of hr) (pv 11) (pv 8) (fun _ _ => rfl)) pa_nil)) pa_nil)))))) (nomark _)) (pss_one (ps_ret pe_bl)) pss_nil)))))))))
    (pss_one (ps_ret pe_bl)))))))))))), fun J ss R h => ?_⟩)
  · obtain ⟨a, ns, hm, rfl, rfl⟩ := h
    rfl
  · obtain ⟨a, ns, hm, rfl, rfl⟩ := h
    refine sg_letG (ev_call (P := fun J1 s => ∃ l, J1 = strA l :: J ∧ s = .val (.ref l)) (Ps := fun ss => ss = [.val (.ref a)]) (ea_consP (Ps := fun ss => ss = []) (slf 0) ea_nil fun s ss e1 e2 => by rw [e1, e2]) fun ss e => ⟨_, ⟨a, ns, hm, e, rfl⟩, fun J1 s h => h⟩) fun J1 s ⟨l, e1, e2⟩ => ?_
    rw [e1, e2]
    have hS : strA l ∈ strA l :: J := List.mem_cons_self ..
    refine sg_letQ (P := codeQ) ((ev_call (P := fun J1 s => J1.Perm (strA l :: J) ∧ ∃ d, s = .dat d ∧ codeQ d) (Ps := fun ss => ∃ d, codeQ d ∧ ss = [.val (.ref l), .dat d]) (ea_consP (Ps := fun ss => ∃ d, codeQ d ∧ ss = [.dat d]) (slf 1) (ea_consP (Ps := fun ss => ss = []) (ev_gen (Po := codeQ) (G := gCode) (as := []) (slf 1) hS ea_nil ⟨rfl, rfl⟩) ea_nil fun s ss ⟨d, e1, h⟩ e2 => ⟨d, h, by rw [e1, e2]⟩) fun s ss e1 ⟨d, h, e2⟩ => ⟨d, h, by rw [e1, e2]⟩) fun ss ⟨d, hd, e⟩ => ⟨_, ⟨l, [.dat d], codeQ, hS, e, ⟨d, hd, rfl, rfl⟩, rfl⟩, fun J1 s h => h⟩).permJ) fun d ⟨ps, sh, loc, rs, e, hk⟩ => ?_
    subst e
    refine sg_letQ (P := launchD ps.length) (ev_gen (G := gLaunch) (as := [.dat (.tup (ps.map pD))]) (slf 1) hS (ea_d (ds := []) (ev_op (da := codeD ps sh loc rs) (ev_dat rfl) ev_int (rr_ixT (d := .tup (ps.map pD)) (by rfl))) ea_d0) ⟨ps, hk.psz, rfl, rfl⟩) fun d ⟨gr, dim, as, bufs, e, hg1, hg2, hal, haw⟩ => ?_
    subst e
    let p : Prg := ⟨.tup (ps.map pD), .tup sh, loc, rs, gr, as, bufs⟩
    have hp : p.Ok := code_prg hk hg1 hg2 hal haw
    refine sg_letD (d := p.launch) (ev_tup (ea_d (ev_op (da := .tup [.int gr, .int dim, .tup (as.map Dt.int), bufs]) (ev_dat rfl) ev_int (rr_ixT (d := .int gr) (by rfl))) (ea_d ev_int (ea_d (ev_op (da := .tup [.int gr, .int dim, .tup (as.map Dt.int), bufs]) (ev_dat rfl) ev_int (rr_ixT (d := .tup (as.map Dt.int)) (by rfl))) (ea_d (ev_op (da := .tup [.int gr, .int dim, .tup (as.map Dt.int), bufs]) (ev_dat rfl) ev_int (rr_ixT (d := bufs) (by rfl))) ea_d0))))) ?_
    refine sg_letI (P := fun i => 1 ≤ i ∧ i ≤ 6) (ev_opI (f := fun i j => i + j) (Pa := fun i => i = 1) (ev_int.toI rfl) (ev_draw (slf 1) hS ev_int (by decide) (by decide)) fun x y hx hy => ⟨⟨by omega, by omega⟩, rr_II⟩) fun ni hni => ?_
    obtain ⟨n, rfl⟩ : ∃ n : Nat, ni = n := ⟨ni.toNat, by omega⟩
    refine sg_letI (ev_draw (slf 1) hS (ev_op ev_int (ev_dat (d := .int n) rfl) rr_II) (by omega) (by omega)) fun fi hfi => ?_
    obtain ⟨first, rfl⟩ : ∃ n : Nat, fi = n := ⟨fi.toNat, by omega⟩
    refine sg_letI (ev_draw (slf 1) hS (ev_op (da := p.launch) (ev_dat rfl) ev_int (rr_ixT (d := .int gr) (by rfl))) (by omega) (by omega)) fun bi hbi => ?_
    obtain ⟨b, rfl⟩ : ∃ n : Nat, bi = n := ⟨bi.toNat, by omega⟩
    have hn : 0 < n := by omega
    have hfn : first + n ≤ 6 := by omega
    have hb : b ≤ 100 := by omega
    refine sg_letG (ev_newR fun _ => l) fun J1 s ⟨dw, e1, e2⟩ => ?_
    rw [e1, e2]
    refine sg_seq (N := fun J1 δ1 => ∃ (la : Int → Addr) (ws : Int → List Int), J1.Perm (dictR dw (keysN first n) la :: (((keysN first n).map fun k => lstA (la k) ((ws k).map Dt.int)) ++ (strA l :: J))) ∧ (∀ k ∈ keysN first n, ws k ≠ [] ∧ ∀ z ∈ ws k, Wd z) ∧ ∃ a8 a12, δ1 = dL a l p n first b dw a8 none none none a12) ?_ ?_
    · refine sg_forR2 (lo := first) (n := n) (Iv := fun i J1 δ1 => ∃ (la : Int → Addr) (ws : Int → List Int), J1.Perm (dictR dw (keysN first i) la :: (((keysN first i).map fun k => lstA (la k) ((ws k).map Dt.int)) ++ (strA l :: J))) ∧ (∀ k ∈ keysN first i, ws k ≠ [] ∧ ∀ z ∈ ws k, Wd z) ∧ ∃ a8 a12, δ1 = dL a l p n first b dw a8 none none none a12)
        (ea_d (ds := [.int ((first : Int) + n)]) (ev_dat rfl) (ea_d (ds := []) (ev_op (ev_dat (d := .int first) rfl) (ev_dat (d := .int n) rfl) rr_II) ea_d0)) (by omega) ⟨fun _ => l, fun _ => [], List.Perm.refl _, (fun k hk => by cases hk), _, _, rfl⟩ ?_ fun J1 δ1 h => h
      rintro i J1 δ1 hi ⟨la, ws, p1, hw, a8, a12, rfl⟩
      refine ⟨_, tg_name, ?_⟩
      refine SG.perm p1 ?_
      have hS2 : strA l ∈ dictR dw (keysN first i) la :: (((keysN first i).map fun k => lstA (la k) ((ws k).map Dt.int)) ++ (strA l :: J)) := List.mem_cons_of_mem _ (List.mem_append_right _ (List.mem_cons_self ..))
      have hnk : (first : Int) + i ∉ keysN first i := fun h => by have := mem_keysN.mp h; omega
      have eadd : addK (keysN first i) ((first : Int) + i) = keysN first (i + 1) := by rw [keysN_succ]; exact if_neg hnk
      refine sg_dputR (d := dw) (la := la) (P := fun J2 s => ∃ q es, J2 = lstA q (es.map Dt.int) :: (dictR dw (keysN first i) la :: (((keysN first i).map fun k => lstA (la k) ((ws k).map Dt.int)) ++ (strA l :: J))) ∧ s = .val (.ref q) ∧ es ≠ [] ∧ ∀ z ∈ es, Wd z) (k := (first : Int) + i) ?_ (by rw [eadd, keysN_len]; omega) fun J2 s ⟨qa, es, e1, e2, hne, hwd⟩ => ?_
      · refine ev_lcE (Pn := fun n => 1 ≤ n ∧ n ≤ 5) ((ea_rng (N := 5) (P := fun i => 1 ≤ i ∧ i ≤ 5) (ev_opI (f := fun i j => i + j) (Pa := fun i => i = 1) (ev_int.toI rfl) (ev_draw (slf 1) hS2 ev_int (by decide) (by decide)) fun x y hx hy => ⟨⟨by omega, by omega⟩, rr_II⟩) fun i hi => ⟨by omega, by omega⟩).imp fun ss ⟨n, e, h1, h2⟩ => ⟨n, e, by omega, by omega⟩) fun m hm5 => ?_
        refine EvG.imp (ev_lcRO (n := m) (Ac := fun i acc => ∃ es : List Int, acc = es.map Dt.int ∧ es.length = i ∧ ∀ z ∈ es, Wd z) (Pe := fun _ e => ∃ z, e = .int z ∧ Wd z) ea_K (by omega) ⟨[], rfl, rfl, fun z hz => by cases hz⟩ (fun B i hi => ?_) fun i acc e hi ⟨z, e1, hz⟩ ⟨es, e2, hl, hw⟩ => ⟨es ++ [z], by rw [e1, e2, List.map_append]; rfl, by rw [List.length_append, hl]; rfl, fun y hy => (List.mem_append.mp hy).elim (hw y) fun hy => by rw [List.mem_singleton.mp hy]; exact hz⟩) fun J3 s ⟨qa, acc, e1, e2, es, e3, hl, hw⟩ => ⟨qa, es, by rw [e1, e3], e2, fun z => by rw [z] at hl; simp at hl; omega, hw⟩
        exact ev_opI (f := fun i j => i - j) (Pb := fun i => i = 1) (Pc := Wd) (ev_draw (slf 1) (List.mem_cons_of_mem _ hS2) ev_int (by decide) (by decide)) (ev_int.toI rfl) fun a b ha hb => ⟨⟨by omega, by omega⟩, rr_II⟩
      · refine ⟨[lstA qa (es.map Dt.int)], _, qa, e1, e2, slf 7, ev_dat rfl, upF la ((first : Int) + i) qa, upF ws ((first : Int) + i) es, ?_, fun k hk => ?_, _, _, rfl⟩
        · rw [eadd, keysN_succ, List.map_append]
          have em : ((keysN first i).map fun k => lstA (upF la ((first : Int) + i) qa k) ((upF ws ((first : Int) + i) es k).map Dt.int)) = (keysN first i).map fun k => lstA (la k) ((ws k).map Dt.int) := List.map_congr_left fun j hj => by rw [upF_ne fun e => hnk (by rw [← e]; exact hj), upF_ne fun e => hnk (by rw [← e]; exact hj)]
          have em2 : ([(first : Int) + (i : Int)].map fun k => lstA (upF la ((first : Int) + i) qa k) ((upF ws ((first : Int) + i) es k).map Dt.int)) = [lstA qa (es.map Dt.int)] := by
            show [lstA (upF la ((first : Int) + i) qa ((first : Int) + i)) ((upF ws ((first : Int) + i) es ((first : Int) + i)).map Dt.int)] = _
            rw [upF_same, upF_same]
          rw [em, em2]
          have h := List.perm_middle (a := lstA qa (es.map Dt.int)) (l₁ := dictR dw (keysN first i ++ [(first : Int) + (i : Int)]) (upF la ((first : Int) + i) qa) :: ((keysN first i).map fun k => lstA (la k) ((ws k).map Dt.int))) (l₂ := strA l :: J)
          simpa using h.symm
        · rw [keysN_succ] at hk
          by_cases ek : k = (first : Int) + i
          · subst ek
            rw [upF_same]
            exact ⟨hne, hwd⟩
          · rw [upF_ne ek]
            exact hw k ((List.mem_append.mp hk).resolve_right fun z => ek (List.mem_singleton.mp z))
    rintro J1 δ1 ⟨la, ws, p1, hw, a8, a12, rfl⟩
    have hnd := asc_nodup (keysN_asc first n)
    have hthr : ∀ k ∈ keysN first n, 0 ≤ (b : Int) * 6 + k ∧ (b : Int) * 6 + k ≤ 1000 := fun k hk => by
      have := mem_keysN.mp hk
      omega
    let JB : List Atom := dictR dw (keysN first n) la :: (((keysN first n).map fun k => lstA (la k) ((ws k).map Dt.int)) ++ (strA l :: J))
    have bS : strA l ∈ JB := List.mem_cons_of_mem _ (List.mem_append_right _ (List.mem_cons_self ..))
    have bW : ∀ k ∈ keysN first n, lstA (la k) ((ws k).map Dt.int) ∈ JB := fun k hk => List.mem_cons_of_mem _ (List.mem_append_left _ (List.mem_map.mpr ⟨k, hk, rfl⟩))
    refine sg_seq (N := fun J1 δ1 => True) ?_ fun J2 δ2 _ => sg_retD ev_bl rfl
    refine sg_forT (ds := [.bl true, .bl false]) (Iv := fun i J1 δ1 => (∃ J2, J1.Perm (J2 ++ JB)) ∧ ∃ a8 a9 a10 a11 a12, δ1 = dL a l p n first b dw a8 a9 a10 a11 a12) (ev_tup (ea_d ev_bl (ea_d ev_bl ea_d0))) ⟨⟨[], p1⟩, _, _, _, _, _, rfl⟩ ?_ fun J1 δ1 _ => trivial
    rintro i d J1 δ1 hd ⟨⟨J2, p2⟩, a8, a9, a10, a11, a12, rfl⟩
    obtain ⟨m, rfl⟩ : ∃ m, d = .bl m := by
      match i, hd with
      | 0, hd => cases hd; exact ⟨_, rfl⟩
      | 1, hd => cases hd; exact ⟨_, rfl⟩
    refine ⟨_, tg_name, ?_⟩
    refine sg_seq (N := fun J3 δ3 => (∃ x A, J3.Perm (wpJ (if m = true then CW else CF) x m A (WSt.init p b first n) ++ (J2 ++ JB)) ∧ δ3 = dL a l p n first b dw a8 (some (.dat (.bl m))) (some (.val (.ref x))) a11 a12)) ?_ ?_
    · have hargs : ∀ {J : List Atom}, EvA J (tCons (tVar 2) (tCons (tVar 3) (tCons (tVar 6) (tCons (tVar 5) (tCons (tVar 4) tNil))))) (dL a l p n first b dw a8 (some (.dat (.bl m))) a10 a11 a12) fun ss => ss = [.dat p.code, .dat p.launch, .dat (.int (b : Nat)), .dat (.int (first : Nat)), .dat (.int (n : Nat))] := ea_d (ev_dat rfl) (ea_d (ev_dat rfl) (ea_d (ev_dat rfl) (ea_d (ev_dat rfl) (ea_d (ev_dat rfl) ea_d0))))
      have hmk : ∀ {C : Addr} {mm : Bool} {E : XK}, EvG J1 (tMake C (spG (iniP C mm)) [] E (tCons (tVar 2) (tCons (tVar 3) (tCons (tVar 6) (tCons (tVar 5) (tCons (tVar 4) tNil)))))) (dL a l p n first b dw a8 (some (.dat (.bl m))) a10 a11 a12) fun J3 s => ∃ x A, s = .val (.ref x) ∧ J3.Perm (wpJ C x mm A (WSt.init p b first n) ++ J1) := fun {C mm E} => ev_make hargs fun ss x dx e => ⟨_, ⟨x, dx, J1, p, b, first, n, rfl, hp, hfn, hb, by rw [e], rfl⟩, fun J3 s ⟨e1, A, p3⟩ => ⟨e1, x, A, rfl, p3⟩⟩
      refine sg_ifB (et_truB (ev_dat (d := .bl m) rfl)) (fun e => ?_) fun e => ?_
      · subst e
        exact sg_asgG hmk fun J3 s ⟨x, A, e1, p3⟩ => ⟨x, A, p3.trans (List.Perm.append_left _ p2), by rw [e1]; rfl⟩
      · subst e
        exact sg_asgG hmk fun J3 s ⟨x, A, e1, p3⟩ => ⟨x, A, p3.trans (List.Perm.append_left _ p2), by rw [e1]; rfl⟩
    · rintro J3 δ3 ⟨x, A, p3, rfl⟩
      refine sg_letG (P := fun J4 s => ∃ (ds : Addr) (lb : Int → Addr) (cnt : Int → Nat) (J5 : List Atom), s = .val (.ref ds) ∧ J4.Perm (J5 ++ (J2 ++ JB)) ∧ dictR ds (keysN first n) lb ∈ J5 ∧ ∀ k ∈ keysN first n, lstA (lb k) ((seenN p ((b : Int) * 6 + k) (ws k) (cnt k)).map Lane.toD) ∈ J5 ∧ cnt k ≤ 200) ?_ fun J4 s ⟨ds, lb, cnt, J5, e1, p4, hds, hlb⟩ => ?_
      · refine ev_call (Ps := fun ss => ss = [.val (.ref l), .val (.ref x), .val (.ref dw), .dat (.int (n : Nat)), .dat (.bl m)]) (ea_consP (Ps := fun ss => ss = [.val (.ref x), .val (.ref dw), .dat (.int (n : Nat)), .dat (.bl m)]) (slf 1) (ea_consP (Ps := fun ss => ss = [.val (.ref dw), .dat (.int (n : Nat)), .dat (.bl m)]) (slf 10) (ea_consP (Ps := fun ss => ss = [.dat (.int (n : Nat)), .dat (.bl m)]) (slf 7) (ea_d (ds := [.bl m]) (ev_dat rfl) (ea_d (ds := []) (ev_dat rfl) ea_d0)) fun s ss e1 e2 => by rw [e1, e2]) fun s ss e1 e2 => by rw [e1, e2]) fun s ss e1 e2 => by rw [e1, e2]) fun ss e => ⟨_, ?_, fun J6 s h => h⟩
        have hwl : ∀ k ∈ keysN first n, lstA (la k) ((ws k).map Dt.int) ∈ J2 ++ JB ∧ ws k ≠ [] ∧ ∀ z ∈ ws k, Wd z := fun k hk => ⟨List.mem_append_right _ (bW k hk), hw k hk⟩
        cases m with
        | true => exact .inl ⟨l, x, A, p, b, first, n, dw, la, ws, J2 ++ JB, p3, List.mem_append_right _ bS, List.mem_append_right _ (List.mem_cons_self ..), hwl, hp, hn, hfn, hb, e, rfl⟩
        | false => exact .inr ⟨l, x, A, p, b, first, n, dw, la, ws, J2 ++ JB, p3, List.mem_append_right _ bS, List.mem_append_right _ (List.mem_cons_self ..), hwl, hp, hn, hfn, hb, e, rfl⟩
      · subst e1
        refine sg_when (et_b (ev_isNR (slf 11))) (fun e => by cases e) fun _ => ?_
        let Jc : List Atom := J5 ++ (J2 ++ (((keysN first n).map fun k => lstA (la k) ((ws k).map Dt.int)) ++ (strA l :: J)))
        have pq : J4.Perm (dictR dw (keysN first n) la :: Jc) := by
          refine p4.trans ?_
          have h := List.perm_middle (a := dictR dw (keysN first n) la) (l₁ := J5 ++ J2) (l₂ := ((keysN first n).map fun k => lstA (la k) ((ws k).map Dt.int)) ++ (strA l :: J))
          simpa [JB, Jc] using h
        refine SG.perm pq (sg_lock fun o => ?_)
        refine sg_forK (o := o) (Iv := fun i J6 δ6 => J6 = dictZ o dw (keysN first n) la :: Jc ∧ ∃ a8, δ6 = dL a l p n first b dw a8 (some (.dat (.bl m))) (some (.val (.ref x))) (some (.val (.ref ds))) a12) (slf 7) (fun i J6 δ6 ⟨e, _⟩ => by rw [e]; exact List.mem_cons_self ..) ⟨rfl, _, rfl⟩ ?_ ?_
        · rintro j k J6 δ6 hj ⟨rfl, a8, rfl⟩
          have hk := List.mem_of_getElem? hj
          have hRw : HasR (dictZ o dw (keysN first n) la :: Jc) dw (keysN first n) la := .inr ⟨o, List.mem_cons_self ..⟩
          have hRs : HasR (dictZ o dw (keysN first n) la :: Jc) ds (keysN first n) lb := .inl (List.mem_cons_of_mem _ (List.mem_append_left _ hds))
          have hml : lstA (lb k) ((seenN p ((b : Int) * 6 + k) (ws k) (cnt k)).map Lane.toD) ∈ dictZ o dw (keysN first n) la :: Jc := List.mem_cons_of_mem _ (List.mem_append_left _ (hlb k hk).1)
          have hmw : lstA (la k) ((ws k).map Dt.int) ∈ dictZ o dw (keysN first n) la :: Jc := List.mem_cons_of_mem _ (List.mem_append_right _ (List.mem_append_right _ (List.mem_append_left _ (List.mem_map.mpr ⟨k, hk, rfl⟩))))
          refine ⟨_, tg_name, ?_⟩
          refine sg_ifB (et_b (ev_neL (ls := seenN p ((b : Int) * 6 + k) (ws k) (cnt k)) (ev_dgetR (slf 11) (ev_dat (d := .int k) rfl) hRs hk) hml ?_)) (fun e => by cases e) fun _ => sg_next ⟨rfl, _, rfl⟩
          refine ev_call (Ps := fun ss => ss = [.dat p.code, .dat p.launch, .dat (.int ((b : Int) * 6 + k)), .val (.ref (la k)), .dat (.int (cnt k : Nat))]) (ea_consP (Ps := fun ss => ss = [.dat p.launch, .dat (.int ((b : Int) * 6 + k)), .val (.ref (la k)), .dat (.int (cnt k : Nat))]) (ev_dat rfl) (ea_consP (Ps := fun ss => ss = [.dat (.int ((b : Int) * 6 + k)), .val (.ref (la k)), .dat (.int (cnt k : Nat))]) (ev_dat rfl) (ea_consP (Ps := fun ss => ss = [.val (.ref (la k)), .dat (.int (cnt k : Nat))]) (ev_op (ev_op (ev_dat (d := .int b) rfl) ev_int (rr_CI (by unfold CMul; omega))) (ev_dat (d := .int k) rfl) rr_II) (ea_consP (Ps := fun ss => ss = [.dat (.int (cnt k : Nat))]) (ev_dgetR (slf 7) (ev_dat (d := .int k) rfl) hRw hk) (ea_d (ds := []) (ev_is (ev_lenA (ev_dgetR (slf 11) (ev_dat (d := .int k) rfl) hRs hk) hml) (by rw [List.length_map, seenN_len])) ea_d0) fun s ss e1 e2 => by rw [e1, e2]) fun s ss ⟨d, e1, e3⟩ e2 => by rw [e1, e2, e3]) fun s ss ⟨d, e1, e3⟩ e2 => by rw [e1, e2, e3]) fun s ss ⟨d, e1, e3⟩ e2 => by rw [e1, e2, e3]) fun ss e => ⟨_, ⟨p, (b : Int) * 6 + k, la k, ws k, cnt k, hp, (hthr k hk).1, (hthr k hk).2, (hw k hk).2, (hw k hk).1, hmw, Nat.le_trans (hlb k hk).2 (by decide), e, rfl⟩, fun J7 s h => h⟩
        · rintro J6 δ6 ⟨rfl, a8, rfl⟩
          refine ⟨Jc, List.Perm.refl _, ⟨J5 ++ J2, ?_⟩, _, _, _, _, _, rfl⟩
          have h := List.perm_middle (a := dictR dw (keysN first n) la) (l₁ := J5 ++ J2) (l₂ := ((keysN first n).map fun k => lstA (la k) ((ws k).map Dt.int)) ++ (strA l :: J))
          simpa [JB, Jc] using h.symm
end
end LK

namespace LK
open PySem PySem.Spec PyProof.Rows L2
/-! ### the defs as data of the head -/
def dFwrapped : He.DefD := ⟨("wrapped", none), "wrapped", "wrapped", defArgs sFwrapped, defBody sFwrapped, defScope sFwrapped, [], []⟩
def dFdivided : He.DefD := ⟨("divided", none), "divided", "divided", defArgs sFdivided, defBody sFdivided, defScope sFdivided, [], []⟩
def dFarithmetic : He.DefD := ⟨("arithmetic", none), "arithmetic", "arithmetic", defArgs sFarithmetic, defBody sFarithmetic, defScope sFarithmetic, [], []⟩
def dFbits : He.DefD := ⟨("bits", none), "bits", "bits", defArgs sFbits, defBody sFbits, defScope sFbits, [], []⟩
def dFcompared : He.DefD := ⟨("compared", none), "compared", "compared", defArgs sFcompared, defBody sFcompared, defScope sFcompared, [], []⟩
def dFbinary : He.DefD := ⟨("binary", none), "binary", "binary", defArgs sFbinary, defBody sFbinary, defScope sFbinary, [], []⟩
def dFunary : He.DefD := ⟨("unary", none), "unary", "unary", defArgs sFunary, defBody sFunary, defScope sFunary, [], []⟩
def dFspecial : He.DefD := ⟨("special", none), "special", "special", defArgs sFspecial, defBody sFspecial, defScope sFspecial, [], []⟩
def dFfirstlane : He.DefD := ⟨("first_lane", none), "first_lane", "first_lane", defArgs sFfirstlane, defBody sFfirstlane, defScope sFfirstlane, [], []⟩
def dFrequest : He.DefD := ⟨("request", none), "request", "request", defArgs sFrequest, defBody sFrequest, defScope sFrequest, [], []⟩
def dFchanged : He.DefD := ⟨("changed", none), "changed", "changed", defArgs sFchanged, defBody sFchanged, defScope sFchanged, [], []⟩
def dFresult : He.DefD := ⟨("result", none), "result", "result", defArgs sFresult, defBody sFresult, defScope sFresult, [], []⟩
def dFbehind : He.DefD := ⟨("behind", none), "behind", "behind", defArgs sFbehind, defBody sFbehind, defScope sFbehind, [], []⟩
def dFWinit : He.DefD := ⟨("FreeWarp", some "__init__"), "__init__", "FreeWarp.__init__", defArgs sFWinit, defBody sFWinit, defScope sFWinit, [], []⟩
def dFWrunning : He.DefD := ⟨("FreeWarp", some "running"), "running", "FreeWarp.running", defArgs sFWrunning, defBody sFWrunning, defScope sFWrunning, [], []⟩
def dFWplaces : He.DefD := ⟨("FreeWarp", some "places"), "places", "FreeWarp.places", defArgs sFWplaces, defBody sFWplaces, defScope sFWplaces, [], []⟩
def dFWgroups : He.DefD := ⟨("FreeWarp", some "groups"), "groups", "FreeWarp.groups", defArgs sFWgroups, defBody sFWgroups, defScope sFWgroups, [], []⟩
def dFWactive : He.DefD := ⟨("FreeWarp", some "active"), "active", "FreeWarp.active", defArgs sFWactive, defBody sFWactive, defScope sFWactive, [], []⟩
def dFWasks : He.DefD := ⟨("FreeWarp", some "asks"), "asks", "FreeWarp.asks", defArgs sFWasks, defBody sFWasks, defScope sFWasks, [], []⟩
def dFWstep : He.DefD := ⟨("FreeWarp", some "step"), "step", "FreeWarp.step", defArgs sFWstep, defBody sFWstep, defScope sFWstep, [], []⟩
def dFWadvance : He.DefD := ⟨("FreeWarp", some "advance"), "advance", "FreeWarp.advance", defArgs sFWadvance, defBody sFWadvance, defScope sFWadvance, [], []⟩
def dFWgoon : He.DefD := ⟨("FreeWarp", some "go_on"), "go_on", "FreeWarp.go_on", defArgs sFWgoon, defBody sFWgoon, defScope sFWgoon, [], []⟩
def dFWwaits : He.DefD := ⟨("FreeWarp", some "waits"), "waits", "FreeWarp.waits", defArgs sFWwaits, defBody sFWwaits, defScope sFWwaits, [], []⟩
def dFWended : He.DefD := ⟨("FreeWarp", some "ended"), "ended", "FreeWarp.ended", defArgs sFWended, defBody sFWended, defScope sFWended, [], []⟩
def dFWlanes : He.DefD := ⟨("FreeWarp", some "lanes"), "lanes", "FreeWarp.lanes", defArgs sFWlanes, defBody sFWlanes, defScope sFWlanes, [], []⟩
def dFWrelease : He.DefD := ⟨("FreeWarp", some "release"), "release", "FreeWarp.release", defArgs sFWrelease, defBody sFWrelease, defScope sFWrelease, [], []⟩
def dWPinit : He.DefD := ⟨("Warp", some "__init__"), "__init__", "Warp.__init__", defArgs sWPinit, defBody sWPinit, defScope sWPinit, [], []⟩
def dWPgroups : He.DefD := ⟨("Warp", some "groups"), "groups", "Warp.groups", defArgs sWPgroups, defBody sWPgroups, defScope sWPgroups, [], []⟩
def dWPactive : He.DefD := ⟨("Warp", some "active"), "active", "Warp.active", defArgs sWPactive, defBody sWPactive, defScope sWPactive, [], []⟩
def dWPasks : He.DefD := ⟨("Warp", some "asks"), "asks", "Warp.asks", defArgs sWPasks, defBody sWPasks, defScope sWPasks, [], []⟩
def dWPstep : He.DefD := ⟨("Warp", some "step"), "step", "Warp.step", defArgs sWPstep, defBody sWPstep, defScope sWPstep, [], []⟩
def dWPpart : He.DefD := ⟨("Warp", some "part"), "part", "Warp.part", defArgs sWPpart, defBody sWPpart, defScope sWPpart, [], []⟩
def dWPclear : He.DefD := ⟨("Warp", some "clear"), "clear", "Warp.clear", defArgs sWPclear, defBody sWPclear, defScope sWPclear, [], []⟩
def dWPwaits : He.DefD := ⟨("Warp", some "waits"), "waits", "Warp.waits", defArgs sWPwaits, defBody sWPwaits, defScope sWPwaits, [], []⟩
def dWPended : He.DefD := ⟨("Warp", some "ended"), "ended", "Warp.ended", defArgs sWPended, defBody sWPended, defScope sWPended, [], []⟩
def dWPlanes : He.DefD := ⟨("Warp", some "lanes"), "lanes", "Warp.lanes", defArgs sWPlanes, defBody sWPlanes, defScope sWPlanes, [], []⟩
def dWPentries : He.DefD := ⟨("Warp", some "entries"), "entries", "Warp.entries", defArgs sWPentries, defBody sWPentries, defScope sWPentries, [], []⟩
def dWPrelease : He.DefD := ⟨("Warp", some "release"), "release", "Warp.release", defArgs sWPrelease, defBody sWPrelease, defScope sWPrelease, [], []⟩
def dFstream : He.DefD := ⟨("_law_stream", none), "_law_stream", "_law_stream", defArgs sFstream, defBody sFstream, defScope sFstream, [], []⟩
def dFdraw : He.DefD := ⟨("_law_draw", none), "_law_draw", "_law_draw", defArgs sFdraw, defBody sFdraw, defScope sFdraw, [], []⟩
def dFlaunch : He.DefD := ⟨("_law_launch", none), "_law_launch", "_law_launch", defArgs sFlaunch, defBody sFlaunch, defScope sFlaunch, [], []⟩
def dFparams : He.DefD := ⟨("_law_params", none), "_law_params", "_law_params", defArgs sFparams, defBody sFparams, defScope sFparams, [], []⟩
def dFshared : He.DefD := ⟨("_law_shared", none), "_law_shared", "_law_shared", defArgs sFshared, defBody sFshared, defScope sFshared, [], []⟩
def dFinstruction : He.DefD := ⟨("_law_instruction", none), "_law_instruction", "_law_instruction", defArgs sFinstruction, defBody sFinstruction, defScope sFinstruction, [], []⟩
def dFcode : He.DefD := ⟨("_law_code", none), "_law_code", "_law_code", defArgs sFcode, defBody sFcode, defScope sFcode, [], []⟩
def dFlooping : He.DefD := ⟨("_law_looping", none), "_law_looping", "_law_looping", defArgs sFlooping, defBody sFlooping, defScope sFlooping, [], []⟩
def dFtold : He.DefD := ⟨("_law_told", none), "_law_told", "_law_told", defArgs sFtold, defBody sFtold, defScope sFtold, [], []⟩
def dFwalk : He.DefD := ⟨("_law_walk", none), "_law_walk", "_law_walk", defArgs sFwalk, defBody sFwalk, defScope sFwalk, [], []⟩
def dFalone : He.DefD := ⟨("_law_alone", none), "_law_alone", "_law_alone", defArgs sFalone, defBody sFalone, defScope sFalone, [], []⟩
def dFlaw : He.DefD := ⟨("law", none), "law", "law", defArgs sFlaw, defBody sFlaw, defScope sFlaw, [], []⟩
def dWPadvance : He.DefD := ⟨("Warp", some "advance"), "advance", "FreeWarp.advance", defArgs sFWadvance, defBody sFWadvance, defScope sFWadvance, [], []⟩
def dWPgoon : He.DefD := ⟨("Warp", some "go_on"), "go_on", "FreeWarp.go_on", defArgs sFWgoon, defBody sFWgoon, defScope sFWgoon, [], []⟩
def fn : List He.DefD := [dFwrapped, dFdivided, dFarithmetic, dFbits, dFcompared, dFbinary, dFunary, dFspecial, dFfirstlane, dFrequest, dFchanged, dFresult, dFbehind, dFWinit, dFWrunning, dFWplaces, dFWgroups, dFWactive, dFWasks, dFWstep, dFWadvance, dFWgoon, dFWwaits, dFWended, dFWlanes, dFWrelease, dWPinit, dWPgroups, dWPactive, dWPasks, dWPstep, dWPpart, dWPclear, dWPwaits, dWPended, dWPlanes, dWPentries, dWPrelease, dFstream, dFdraw, dFlaunch, dFparams, dFshared, dFinstruction, dFcode, dFlooping, dFtold, dFwalk, dFalone, dFlaw, dWPadvance, dWPgoon]
def fa : List He.Fa := [.glo "wrapped", .glo "divided", .glo "arithmetic", .glo "bits", .glo "compared", .glo "binary", .glo "unary", .glo "special", .glo "first_lane", .glo "request", .glo "changed", .glo "result", .glo "behind", .glo "_law_stream", .glo "_law_draw", .glo "_law_launch", .glo "_law_params", .glo "_law_shared", .glo "_law_instruction", .glo "_law_code", .glo "_law_looping", .glo "_law_told", .glo "_law_walk", .glo "_law_alone", .glo "law", .glo "FreeWarp", .glo "Warp", .free "abs", .free "int", .free "sorted", .free "set", .free "len", .free "zip", .free "range", .free "min", .free "max", .free "tuple", .free "list", .free "dict", .free "all", .int "GREATEST" 2147483647, .int "MODULUS" 4294967296, .int "REGISTERS" 8, .cls "FreeWarp", .mkr "FreeWarp", .noat "FreeWarp" "code", .noat "FreeWarp" "launch", .noat "FreeWarp" "base", .noat "FreeWarp" "first", .noat "FreeWarp" "states", .noat "FreeWarp" "waiting", .noat "FreeWarp" "gone", .noat "FreeWarp" "stack", .meth "FreeWarp" "running", .meth "FreeWarp" "places", .meth "FreeWarp" "groups", .meth "FreeWarp" "active", .meth "FreeWarp" "asks", .meth "FreeWarp" "step", .meth "FreeWarp" "advance", .meth "FreeWarp" "go_on", .meth "FreeWarp" "waits", .meth "FreeWarp" "ended", .meth "FreeWarp" "lanes", .meth "FreeWarp" "release", .cls "Warp", .mkr "Warp", .noat "Warp" "code", .noat "Warp" "launch", .noat "Warp" "base", .noat "Warp" "first", .noat "Warp" "states", .noat "Warp" "waiting", .noat "Warp" "gone", .noat "Warp" "stack", .meth "Warp" "groups", .meth "Warp" "active", .meth "Warp" "asks", .meth "Warp" "step", .meth "Warp" "part", .meth "Warp" "clear", .meth "Warp" "waits", .meth "Warp" "ended", .meth "Warp" "lanes", .meth "Warp" "entries", .meth "Warp" "release", .meth "Warp" "advance", .meth "Warp" "go_on"]
def loose : List PySem.Str := ["DrawloomError", "NotReady", "GREATEST", "MODULUS", "wrapped", "divided", "arithmetic", "bits", "compared", "binary", "unary", "special", "REGISTERS", "first_lane", "request", "changed", "result", "behind", "FreeWarp", "Warp", "_law_stream", "_law_draw", "_law_launch", "_law_params", "_law_shared", "_law_instruction", "_law_code", "_law_looping", "_law_told", "_law_walk", "_law_alone"]
abbrev R : PySem.W.OpenRow := PySem.W.OpenLaw.row PySem.Challenge.rw_drawloom_k52_whole_lanes_alone
abbrev hk : PySem.W.Hook := He.hookD 5 fa fn
def ob (s : PySem.W.SharedT) : He.AlD := He.obsDG 5 fa fn (HandSHeadRun.getT s)
theorem ob_eq (s : PySem.W.SharedT) : ob s = hk.obs s.abs := He.obsDG_eq (HandSHeadRun.getT_eq s)
theorem run (w : World) : HandSHeadRun.RunEq R (PySem.W.view R.prog [37]) hk ob 4000 loose w := by
  intro os
  kernel_rfl
theorem law_end {K : PySem.W.Frag} {H : Hp} {a : Addr} {ns : List Int} (hS : SqL K H a (ns.map V.int)) : spG (lawP K) [.ref a] H (fun v _ => v = .bl true) fun _ _ _ => False := by
  have fin : ∀ F : AS, (scrA K a ns).I F H → spG (lawP K) [.ref a] H (fun v _ => v = .bl true) fun _ _ _ => False := fun F hI => by
    refine ⟨[scrA K a ns], F, [.val (.ref a)], fun _ s => s = .dat (.bl true), ⟨F, fun _ => False, fun b => ⟨.inl, fun h => h.elim id False.elim⟩, fun _ _ z => z, hI, fun _ z => z⟩, ⟨_, [], rfl, rfl, rfl⟩, ⟨a, ns, List.mem_cons_self .., rfl, rfl⟩, fun J1 s v F1 H1 e _ _ hv => ?_⟩
    subst e
    exact hv
  rcases hS with h | h
  · exact fin (fun b => b = a) ⟨fun b z => z, .inl h, fun z => absurd rfl (z a), fun _ => h⟩
  · exact fin (fun _ => False) ⟨fun b z => z.elim, .inr h, fun _ => h, fun z => z.elim⟩
theorem facts {w : World} {K : PySem.W.Frag} {h : Heap} {mg : Str → Option Value} {f : Addr} (X : K.In h) (G : h.Ns mainGlobals mg) (hfa : mg ("law" : Str) = some (.ref f)) (c : He.SaysD fa fn K) :
    ∃ fd : FuncData, (∀ (s : Shared) (v : Value), BindsTo s fd ⟨[v], []⟩ [("_law_script", v)]) ∧ ∀ base : Heap, K.In base → base.Ns mainGlobals mg → FnOk (PySem.Challenge.rw_drawloom_k52_whole_lanes_alone).prog w K mg base CX0 10 f fd ["_law_script"] (spG (lawP K)) := by
  have T : Txt K mg := ⟨He.int_ok X G (c.fact 40 (f := .int "GREATEST" 2147483647) rfl), He.int_ok X G (c.fact 41 (f := .int "MODULUS" 4294967296) rfl), He.int_ok X G (c.fact 42 (f := .int "REGISTERS" 8) rfl), He.free_ok X G (c.fact 27 (f := .free "abs") rfl), He.free_ok X G (c.fact 28 (f := .free "int") rfl), He.free_ok X G (c.fact 29 (f := .free "sorted") rfl), He.free_ok X G (c.fact 30 (f := .free "set") rfl), He.free_ok X G (c.fact 31 (f := .free "len") rfl), He.free_ok X G (c.fact 32 (f := .free "zip") rfl), He.free_ok X G (c.fact 33 (f := .free "range") rfl), He.free_ok X G (c.fact 34 (f := .free "min") rfl), He.free_ok X G (c.fact 35 (f := .free "max") rfl), He.free_ok X G (c.fact 36 (f := .free "tuple") rfl), He.free_ok X G (c.fact 37 (f := .free "list") rfl), He.free_ok X G (c.fact 38 (f := .free "dict") rfl), He.free_ok X G (c.fact 39 (f := .free "all") rfl)⟩
  have q_F : ClsF K (He.ga K "FreeWarp") := ⟨He.cls_ok (c.fact 43 (f := .cls "FreeWarp") rfl), He.noat_ok (c.fact 45 (f := .noat "FreeWarp" "code") rfl), He.noat_ok (c.fact 46 (f := .noat "FreeWarp" "launch") rfl), He.noat_ok (c.fact 47 (f := .noat "FreeWarp" "base") rfl), He.noat_ok (c.fact 48 (f := .noat "FreeWarp" "first") rfl), He.noat_ok (c.fact 49 (f := .noat "FreeWarp" "states") rfl), He.noat_ok (c.fact 50 (f := .noat "FreeWarp" "waiting") rfl), He.noat_ok (c.fact 51 (f := .noat "FreeWarp" "gone") rfl), He.noat_ok (c.fact 52 (f := .noat "FreeWarp" "stack") rfl)⟩
  have q_W : ClsF K (He.ga K "Warp") := ⟨He.cls_ok (c.fact 65 (f := .cls "Warp") rfl), He.noat_ok (c.fact 67 (f := .noat "Warp" "code") rfl), He.noat_ok (c.fact 68 (f := .noat "Warp" "launch") rfl), He.noat_ok (c.fact 69 (f := .noat "Warp" "base") rfl), He.noat_ok (c.fact 70 (f := .noat "Warp" "first") rfl), He.noat_ok (c.fact 71 (f := .noat "Warp" "states") rfl), He.noat_ok (c.fact 72 (f := .noat "Warp" "waiting") rfl), He.noat_ok (c.fact 73 (f := .noat "Warp" "gone") rfl), He.noat_ok (c.fact 74 (f := .noat "Warp" "stack") rfl)⟩
  obtain ⟨fd_dFwrapped, F_dFwrapped⟩ := c.def_ 0 (d := dFwrapped) rfl
  obtain ⟨fd_dFdivided, F_dFdivided⟩ := c.def_ 1 (d := dFdivided) rfl
  obtain ⟨fd_dFarithmetic, F_dFarithmetic⟩ := c.def_ 2 (d := dFarithmetic) rfl
  obtain ⟨fd_dFbits, F_dFbits⟩ := c.def_ 3 (d := dFbits) rfl
  obtain ⟨fd_dFcompared, F_dFcompared⟩ := c.def_ 4 (d := dFcompared) rfl
  obtain ⟨fd_dFbinary, F_dFbinary⟩ := c.def_ 5 (d := dFbinary) rfl
  obtain ⟨fd_dFunary, F_dFunary⟩ := c.def_ 6 (d := dFunary) rfl
  obtain ⟨fd_dFspecial, F_dFspecial⟩ := c.def_ 7 (d := dFspecial) rfl
  obtain ⟨fd_dFfirstlane, F_dFfirstlane⟩ := c.def_ 8 (d := dFfirstlane) rfl
  obtain ⟨fd_dFrequest, F_dFrequest⟩ := c.def_ 9 (d := dFrequest) rfl
  obtain ⟨fd_dFchanged, F_dFchanged⟩ := c.def_ 10 (d := dFchanged) rfl
  obtain ⟨fd_dFresult, F_dFresult⟩ := c.def_ 11 (d := dFresult) rfl
  obtain ⟨fd_dFbehind, F_dFbehind⟩ := c.def_ 12 (d := dFbehind) rfl
  obtain ⟨fd_dFstream, F_dFstream⟩ := c.def_ 38 (d := dFstream) rfl
  obtain ⟨fd_dFdraw, F_dFdraw⟩ := c.def_ 39 (d := dFdraw) rfl
  obtain ⟨fd_dFparams, F_dFparams⟩ := c.def_ 41 (d := dFparams) rfl
  obtain ⟨fd_dFshared, F_dFshared⟩ := c.def_ 42 (d := dFshared) rfl
  obtain ⟨fd_dFlaunch, F_dFlaunch⟩ := c.def_ 40 (d := dFlaunch) rfl
  obtain ⟨fd_dFinstruction, F_dFinstruction⟩ := c.def_ 43 (d := dFinstruction) rfl
  obtain ⟨fd_dFcode, F_dFcode⟩ := c.def_ 44 (d := dFcode) rfl
  obtain ⟨fd_dFlooping, F_dFlooping⟩ := c.def_ 45 (d := dFlooping) rfl
  obtain ⟨fd_dFtold, F_dFtold⟩ := c.def_ 46 (d := dFtold) rfl
  obtain ⟨fd_dFalone, F_dFalone⟩ := c.def_ 48 (d := dFalone) rfl
  obtain ⟨fd_dFwalk, F_dFwalk⟩ := c.def_ 47 (d := dFwalk) rfl
  obtain ⟨fd_dFlaw, F_dFlaw⟩ := c.def_ 49 (d := dFlaw) rfl
  obtain ⟨fd_dFWrunning, F_dFWrunning⟩ := c.def_ 14 (d := dFWrunning) rfl
  obtain ⟨fd_dFWplaces, F_dFWplaces⟩ := c.def_ 15 (d := dFWplaces) rfl
  obtain ⟨fd_dFWgroups, F_dFWgroups⟩ := c.def_ 16 (d := dFWgroups) rfl
  obtain ⟨fd_dFWactive, F_dFWactive⟩ := c.def_ 17 (d := dFWactive) rfl
  obtain ⟨fd_dFWasks, F_dFWasks⟩ := c.def_ 18 (d := dFWasks) rfl
  obtain ⟨fd_dFWgoon, F_dFWgoon⟩ := c.def_ 21 (d := dFWgoon) rfl
  obtain ⟨fd_dFWadvance, F_dFWadvance⟩ := c.def_ 20 (d := dFWadvance) rfl
  obtain ⟨fd_dFWstep, F_dFWstep⟩ := c.def_ 19 (d := dFWstep) rfl
  obtain ⟨fd_dFWwaits, F_dFWwaits⟩ := c.def_ 22 (d := dFWwaits) rfl
  obtain ⟨fd_dFWlanes, F_dFWlanes⟩ := c.def_ 24 (d := dFWlanes) rfl
  obtain ⟨fd_dFWrelease, F_dFWrelease⟩ := c.def_ 25 (d := dFWrelease) rfl
  obtain ⟨fd_dWPgroups, F_dWPgroups⟩ := c.def_ 27 (d := dWPgroups) rfl
  obtain ⟨fd_dWPactive, F_dWPactive⟩ := c.def_ 28 (d := dWPactive) rfl
  obtain ⟨fd_dWPasks, F_dWPasks⟩ := c.def_ 29 (d := dWPasks) rfl
  obtain ⟨fd_dWPgoon, F_dWPgoon⟩ := c.def_ 51 (d := dWPgoon) rfl
  obtain ⟨fd_dWPadvance, F_dWPadvance⟩ := c.def_ 50 (d := dWPadvance) rfl
  obtain ⟨fd_dWPpart, F_dWPpart⟩ := c.def_ 31 (d := dWPpart) rfl
  obtain ⟨fd_dWPclear, F_dWPclear⟩ := c.def_ 32 (d := dWPclear) rfl
  obtain ⟨fd_dWPstep, F_dWPstep⟩ := c.def_ 30 (d := dWPstep) rfl
  obtain ⟨fd_dWPwaits, F_dWPwaits⟩ := c.def_ 33 (d := dWPwaits) rfl
  obtain ⟨fd_dWPended, F_dWPended⟩ := c.def_ 34 (d := dWPended) rfl
  obtain ⟨fd_dWPlanes, F_dWPlanes⟩ := c.def_ 35 (d := dWPlanes) rfl
  obtain ⟨fd_dWPentries, F_dWPentries⟩ := c.def_ 36 (d := dWPentries) rfl
  obtain ⟨fd_dWPrelease, F_dWPrelease⟩ := c.def_ 37 (d := dWPrelease) rfl
  obtain ⟨fd_dFWinit, F_dFWinit⟩ := c.def_ 13 (d := dFWinit) rfl
  obtain ⟨fd_dWPinit, F_dWPinit⟩ := c.def_ 26 (d := dWPinit) rfl
  have e := hfa.symm.trans (He.glo_ok X G (c.fact 24 (f := .glo "law") rfl))
  cases e
  refine ⟨fd_dFlaw, fun s v => FunD.bindsA (ps := ["_law_script"]) F_dFlaw (fun _ _ _ _ _ _ us hl => match us, hl with | [_], _ => rfl) s [v] rfl, fun base _ _ => ?_⟩
  have c_Fwrapped : Cal (PySem.Challenge.rw_drawloom_k52_whole_lanes_alone).prog w K mg base 1 "wrapped" ["number"] (spG (pureP rWrapped)) := ⟨_, fd_dFwrapped, He.glo_ok X G (c.fact 0 (f := .glo "wrapped") rfl), F_dFwrapped.kp, (F_dFwrapped.bindsN fun _ _ _ _ _ _ us hl => match us, hl with | [_], _ => rfl), ok_wrapped (F := F_dFwrapped) (T := T)⟩
  have c_Fdivided : Cal (PySem.Challenge.rw_drawloom_k52_whole_lanes_alone).prog w K mg base 1 "divided" ["a", "b"] (spG (pureP rDivided)) := ⟨_, fd_dFdivided, He.glo_ok X G (c.fact 1 (f := .glo "divided") rfl), F_dFdivided.kp, (F_dFdivided.bindsN fun _ _ _ _ _ _ us hl => match us, hl with | [_, _], _ => rfl), ok_divided (F := F_dFdivided) (T := T)⟩
  have c_Farithmetic : Cal (PySem.Challenge.rw_drawloom_k52_whole_lanes_alone).prog w K mg base 2 "arithmetic" ["op", "a", "b"] (spG (pureP rArith)) := ⟨_, fd_dFarithmetic, He.glo_ok X G (c.fact 2 (f := .glo "arithmetic") rfl), F_dFarithmetic.kp, (F_dFarithmetic.bindsN fun _ _ _ _ _ _ us hl => match us, hl with | [_, _, _], _ => rfl), ok_arithmetic (F := F_dFarithmetic) (T := T) (c_Fdivided := c_Fdivided)⟩
  have c_Fbits : Cal (PySem.Challenge.rw_drawloom_k52_whole_lanes_alone).prog w K mg base 1 "bits" ["op", "a", "b"] (spG (pureP rBits)) := ⟨_, fd_dFbits, He.glo_ok X G (c.fact 3 (f := .glo "bits") rfl), F_dFbits.kp, (F_dFbits.bindsN fun _ _ _ _ _ _ us hl => match us, hl with | [_, _, _], _ => rfl), ok_bits (F := F_dFbits) (T := T)⟩
  have c_Fcompared : Cal (PySem.Challenge.rw_drawloom_k52_whole_lanes_alone).prog w K mg base 1 "compared" ["op", "a", "b"] (spG (pureP rCompared)) := ⟨_, fd_dFcompared, He.glo_ok X G (c.fact 4 (f := .glo "compared") rfl), F_dFcompared.kp, (F_dFcompared.bindsN fun _ _ _ _ _ _ us hl => match us, hl with | [_, _, _], _ => rfl), ok_compared (F := F_dFcompared) (T := T)⟩
  have c_Fbinary : Cal (PySem.Challenge.rw_drawloom_k52_whole_lanes_alone).prog w K mg base 3 "binary" ["op", "a", "b"] (spG (pureP rBinary)) := ⟨_, fd_dFbinary, He.glo_ok X G (c.fact 5 (f := .glo "binary") rfl), F_dFbinary.kp, (F_dFbinary.bindsN fun _ _ _ _ _ _ us hl => match us, hl with | [_, _, _], _ => rfl), ok_binary (F := F_dFbinary) (T := T) (c_Farithmetic := c_Farithmetic) (c_Fbits := c_Fbits) (c_Fcompared := c_Fcompared) (c_Fwrapped := c_Fwrapped)⟩
  have c_Funary : Cal (PySem.Challenge.rw_drawloom_k52_whole_lanes_alone).prog w K mg base 2 "unary" ["op", "a"] (spG (pureP rUnary)) := ⟨_, fd_dFunary, He.glo_ok X G (c.fact 6 (f := .glo "unary") rfl), F_dFunary.kp, (F_dFunary.bindsN fun _ _ _ _ _ _ us hl => match us, hl with | [_, _], _ => rfl), ok_unary (F := F_dFunary) (T := T) (c_Fwrapped := c_Fwrapped)⟩
  have c_Fspecial : Cal (PySem.Challenge.rw_drawloom_k52_whole_lanes_alone).prog w K mg base 1 "special" ["name", "thread", "launch"] (spG (pureP rSpecial)) := ⟨_, fd_dFspecial, He.glo_ok X G (c.fact 7 (f := .glo "special") rfl), F_dFspecial.kp, (F_dFspecial.bindsN fun _ _ _ _ _ _ us hl => match us, hl with | [_, _, _], _ => rfl), ok_special (F := F_dFspecial) (T := T)⟩
  have c_Ffirstlane : Cal (PySem.Challenge.rw_drawloom_k52_whole_lanes_alone).prog w K mg base 1 "first_lane" ["code"] (spG (pureP rFirst)) := ⟨_, fd_dFfirstlane, He.glo_ok X G (c.fact 8 (f := .glo "first_lane") rfl), F_dFfirstlane.kp, (F_dFfirstlane.bindsN fun _ _ _ _ _ _ us hl => match us, hl with | [_], _ => rfl), ok_first_lane (F := F_dFfirstlane) (T := T)⟩
  have c_Frequest : Cal (PySem.Challenge.rw_drawloom_k52_whole_lanes_alone).prog w K mg base 1 "request" ["code", "lane"] (spG (pureP rRequest)) := ⟨_, fd_dFrequest, He.glo_ok X G (c.fact 9 (f := .glo "request") rfl), F_dFrequest.kp, (F_dFrequest.bindsN fun _ _ _ _ _ _ us hl => match us, hl with | [_, _], _ => rfl), ok_request (F := F_dFrequest) (T := T)⟩
  have c_Fchanged : Cal (PySem.Challenge.rw_drawloom_k52_whole_lanes_alone).prog w K mg base 1 "changed" ["row", "at", "word"] (spG (pureP rChanged)) := ⟨_, fd_dFchanged, He.glo_ok X G (c.fact 10 (f := .glo "changed") rfl), F_dFchanged.kp, (F_dFchanged.bindsN fun _ _ _ _ _ _ us hl => match us, hl with | [_, _, _], _ => rfl), ok_changed (F := F_dFchanged) (T := T)⟩
  have c_Fresult : Cal (PySem.Challenge.rw_drawloom_k52_whole_lanes_alone).prog w K mg base 4 "result" ["instruction", "lane", "launch", "thread", "word"] (spG (pureP rResult)) := ⟨_, fd_dFresult, He.glo_ok X G (c.fact 11 (f := .glo "result") rfl), F_dFresult.kp, (F_dFresult.bindsN fun _ _ _ _ _ _ us hl => match us, hl with | [_, _, _, _, _], _ => rfl), ok_result (F := F_dFresult) (T := T) (c_Fbinary := c_Fbinary) (c_Funary := c_Funary) (c_Fspecial := c_Fspecial)⟩
  have c_Fbehind : Cal (PySem.Challenge.rw_drawloom_k52_whole_lanes_alone).prog w K mg base 5 "behind" ["code", "launch", "thread", "lane", "word"] (spG (pureP rBehind)) := ⟨_, fd_dFbehind, He.glo_ok X G (c.fact 12 (f := .glo "behind") rfl), F_dFbehind.kp, (F_dFbehind.bindsN fun _ _ _ _ _ _ us hl => match us, hl with | [_, _, _, _, _], _ => rfl), ok_behind (F := F_dFbehind) (T := T) (c_Fchanged := c_Fchanged) (c_Fresult := c_Fresult)⟩
  have c_Fstream : Cal (PySem.Challenge.rw_drawloom_k52_whole_lanes_alone).prog w K mg base 1 "_law_stream" ["_law_script"] (spG (strmP K)) := ⟨_, fd_dFstream, He.glo_ok X G (c.fact 13 (f := .glo "_law_stream") rfl), F_dFstream.kp, (F_dFstream.bindsN fun _ _ _ _ _ _ us hl => match us, hl with | [_], _ => rfl), ok_stream (F := F_dFstream) (T := T)⟩
  have c_Fdraw : Cal (PySem.Challenge.rw_drawloom_k52_whole_lanes_alone).prog w K mg base 1 "_law_draw" ["_law_stream_here", "_law_many"] (spG (drawP)) := ⟨_, fd_dFdraw, He.glo_ok X G (c.fact 14 (f := .glo "_law_draw") rfl), F_dFdraw.kp, (F_dFdraw.bindsN fun _ _ _ _ _ _ us hl => match us, hl with | [_, _], _ => rfl), ok_draw (F := F_dFdraw) (T := T)⟩
  have c_Fparams : Cal (PySem.Challenge.rw_drawloom_k52_whole_lanes_alone).prog w K mg base 2 "_law_params" ["_law_stream_here"] (spG (genP gParams)) := ⟨_, fd_dFparams, He.glo_ok X G (c.fact 16 (f := .glo "_law_params") rfl), F_dFparams.kp, (F_dFparams.bindsN fun _ _ _ _ _ _ us hl => match us, hl with | [_], _ => rfl), ok_params (F := F_dFparams) (T := T) (c_Fdraw := c_Fdraw)⟩
  have c_Fshared : Cal (PySem.Challenge.rw_drawloom_k52_whole_lanes_alone).prog w K mg base 2 "_law_shared" ["_law_stream_here"] (spG (genP gShared)) := ⟨_, fd_dFshared, He.glo_ok X G (c.fact 17 (f := .glo "_law_shared") rfl), F_dFshared.kp, (F_dFshared.bindsN fun _ _ _ _ _ _ us hl => match us, hl with | [_], _ => rfl), ok_shared (F := F_dFshared) (T := T) (c_Fdraw := c_Fdraw)⟩
  have c_Flaunch : Cal (PySem.Challenge.rw_drawloom_k52_whole_lanes_alone).prog w K mg base 2 "_law_launch" ["_law_stream_here", "_law_params_here"] (spG (genP gLaunch)) := ⟨_, fd_dFlaunch, He.glo_ok X G (c.fact 15 (f := .glo "_law_launch") rfl), F_dFlaunch.kp, (F_dFlaunch.bindsN fun _ _ _ _ _ _ us hl => match us, hl with | [_, _], _ => rfl), ok_launch (F := F_dFlaunch) (T := T) (c_Fdraw := c_Fdraw)⟩
  have c_Finstruction : Cal (PySem.Challenge.rw_drawloom_k52_whole_lanes_alone).prog w K mg base 2 "_law_instruction" ["_law_stream_here", "_law_count", "_law_arrays", "_law_ints"] (spG (genP gInstr)) := ⟨_, fd_dFinstruction, He.glo_ok X G (c.fact 18 (f := .glo "_law_instruction") rfl), F_dFinstruction.kp, (F_dFinstruction.bindsN fun _ _ _ _ _ _ us hl => match us, hl with | [_, _, _, _], _ => rfl), ok_instr (F := F_dFinstruction) (T := T) (c_Fdraw := c_Fdraw)⟩
  have c_Fcode : Cal (PySem.Challenge.rw_drawloom_k52_whole_lanes_alone).prog w K mg base 3 "_law_code" ["_law_stream_here"] (spG (genP gCode)) := ⟨_, fd_dFcode, He.glo_ok X G (c.fact 19 (f := .glo "_law_code") rfl), F_dFcode.kp, (F_dFcode.bindsN fun _ _ _ _ _ _ us hl => match us, hl with | [_], _ => rfl), ok_code (F := F_dFcode) (T := T) (c_Fdraw := c_Fdraw) (c_Fparams := c_Fparams) (c_Fshared := c_Fshared) (c_Finstruction := c_Finstruction)⟩
  have c_Flooping : Cal (PySem.Challenge.rw_drawloom_k52_whole_lanes_alone).prog w K mg base 2 "_law_looping" ["_law_stream_here", "_law_code_here"] (spG (genP gLoop)) := ⟨_, fd_dFlooping, He.glo_ok X G (c.fact 20 (f := .glo "_law_looping") rfl), F_dFlooping.kp, (F_dFlooping.bindsN fun _ _ _ _ _ _ us hl => match us, hl with | [_, _], _ => rfl), ok_looping (F := F_dFlooping) (T := T) (c_Fdraw := c_Fdraw)⟩
  have c_Ftold : Cal (PySem.Challenge.rw_drawloom_k52_whole_lanes_alone).prog w K mg base 1 "_law_told" ["_law_words", "_law_told_here", "_law_asked"] (spG (toldP)) := ⟨_, fd_dFtold, He.glo_ok X G (c.fact 21 (f := .glo "_law_told") rfl), F_dFtold.kp, (F_dFtold.bindsN fun _ _ _ _ _ _ us hl => match us, hl with | [_, _, _], _ => rfl), ok_told (F := F_dFtold) (T := T)⟩
  have c_Falone : Cal (PySem.Challenge.rw_drawloom_k52_whole_lanes_alone).prog w K mg base 6 "_law_alone" ["_law_code_here", "_law_launch_here", "_law_thread", "_law_words", "_law_many"] (spG (aloneP)) := ⟨_, fd_dFalone, He.glo_ok X G (c.fact 23 (f := .glo "_law_alone") rfl), F_dFalone.kp, (F_dFalone.bindsN fun _ _ _ _ _ _ us hl => match us, hl with | [_, _, _, _, _], _ => rfl), ok_alone (F := F_dFalone) (T := T) (c_Ffirstlane := c_Ffirstlane) (c_Fbehind := c_Fbehind)⟩
  have m_running_F : CalM (PySem.Challenge.rw_drawloom_k52_whole_lanes_alone).prog w K mg base (He.ga K "FreeWarp") 1 "running" ["self"] (spG (rdP (He.ga K "FreeWarp") false gRunning)) := ⟨_, fd_dFWrunning, He.meth_ok (c.fact 53 (f := .meth "FreeWarp" "running") rfl), (F_dFWrunning.bindsN fun _ _ _ _ _ _ us hl => match us, hl with | [_], _ => rfl), ok_running (F := F_dFWrunning) (T := T) (q := q_F)⟩
  have m_places_F : CalM (PySem.Challenge.rw_drawloom_k52_whole_lanes_alone).prog w K mg base (He.ga K "FreeWarp") 2 "places" ["self"] (spG (rdP (He.ga K "FreeWarp") false gPlaces)) := ⟨_, fd_dFWplaces, He.meth_ok (c.fact 54 (f := .meth "FreeWarp" "places") rfl), (F_dFWplaces.bindsN fun _ _ _ _ _ _ us hl => match us, hl with | [_], _ => rfl), ok_places (F := F_dFWplaces) (T := T) (q := q_F) (m_running := m_running_F)⟩
  have m_groups_F : CalM (PySem.Challenge.rw_drawloom_k52_whole_lanes_alone).prog w K mg base (He.ga K "FreeWarp") 3 "groups" ["self"] (spG (rdP (He.ga K "FreeWarp") false gGroupsF)) := ⟨_, fd_dFWgroups, He.meth_ok (c.fact 55 (f := .meth "FreeWarp" "groups") rfl), (F_dFWgroups.bindsN fun _ _ _ _ _ _ us hl => match us, hl with | [_], _ => rfl), ok_groupsF (F := F_dFWgroups) (T := T) (q := q_F) (m_places := m_places_F)⟩
  have m_active_F : CalM (PySem.Challenge.rw_drawloom_k52_whole_lanes_alone).prog w K mg base (He.ga K "FreeWarp") 3 "active" ["self", "group"] (spG (rdP (He.ga K "FreeWarp") false gActiveF)) := ⟨_, fd_dFWactive, He.meth_ok (c.fact 56 (f := .meth "FreeWarp" "active") rfl), (F_dFWactive.bindsN fun _ _ _ _ _ _ us hl => match us, hl with | [_, _], _ => rfl), ok_activeF (F := F_dFWactive) (T := T) (q := q_F) (m_running := m_running_F) (m_places := m_places_F)⟩
  have m_asks_F : CalM (PySem.Challenge.rw_drawloom_k52_whole_lanes_alone).prog w K mg base (He.ga K "FreeWarp") 4 "asks" ["self", "group"] (spG (rdP (He.ga K "FreeWarp") false gAsksF)) := ⟨_, fd_dFWasks, He.meth_ok (c.fact 57 (f := .meth "FreeWarp" "asks") rfl), (F_dFWasks.bindsN fun _ _ _ _ _ _ us hl => match us, hl with | [_, _], _ => rfl), ok_asksF (F := F_dFWasks) (T := T) (q := q_F) (m_active := m_active_F) (c_Frequest := c_Frequest)⟩
  have m_goon_F : CalM (PySem.Challenge.rw_drawloom_k52_whole_lanes_alone).prog w K mg base (He.ga K "FreeWarp") 6 "go_on" ["self", "tid", "word"] (spG (wrP (He.ga K "FreeWarp") false gGoOn)) := ⟨_, fd_dFWgoon, He.meth_ok (c.fact 60 (f := .meth "FreeWarp" "go_on") rfl), (F_dFWgoon.bindsN fun _ _ _ _ _ _ us hl => match us, hl with | [_, _, _], _ => rfl), ok_go_on (F := F_dFWgoon) (T := T) (q := q_F) (c_Fbehind := c_Fbehind)⟩
  have m_advance_F : CalM (PySem.Challenge.rw_drawloom_k52_whole_lanes_alone).prog w K mg base (He.ga K "FreeWarp") 7 "advance" ["self", "rows", "words"] (spG (wrP (He.ga K "FreeWarp") false gAdvance)) := ⟨_, fd_dFWadvance, He.meth_ok (c.fact 59 (f := .meth "FreeWarp" "advance") rfl), (F_dFWadvance.bindsN fun _ _ _ _ _ _ us hl => match us, hl with | [_, _, _], _ => rfl), ok_advance (F := F_dFWadvance) (T := T) (q := q_F) (m_goon := m_goon_F)⟩
  have m_step_F : CalM (PySem.Challenge.rw_drawloom_k52_whole_lanes_alone).prog w K mg base (He.ga K "FreeWarp") 8 "step" ["self", "group", "words"] (spG (wrP (He.ga K "FreeWarp") false gStepF)) := ⟨_, fd_dFWstep, He.meth_ok (c.fact 58 (f := .meth "FreeWarp" "step") rfl), (F_dFWstep.bindsN fun _ _ _ _ _ _ us hl => match us, hl with | [_, _, _], _ => rfl), ok_stepF (F := F_dFWstep) (T := T) (q := q_F) (m_asks := m_asks_F) (m_advance := m_advance_F)⟩
  have m_waits_F : CalM (PySem.Challenge.rw_drawloom_k52_whole_lanes_alone).prog w K mg base (He.ga K "FreeWarp") 2 "waits" ["self"] (spG (rdP (He.ga K "FreeWarp") false gWaits)) := ⟨_, fd_dFWwaits, He.meth_ok (c.fact 61 (f := .meth "FreeWarp" "waits") rfl), (F_dFWwaits.bindsN fun _ _ _ _ _ _ us hl => match us, hl with | [_], _ => rfl), ok_waitsFW (F := F_dFWwaits) (T := T) (q := q_F) (c_Frequest := c_Frequest)⟩
  have m_lanes_F : CalM (PySem.Challenge.rw_drawloom_k52_whole_lanes_alone).prog w K mg base (He.ga K "FreeWarp") 1 "lanes" ["self"] (spG (rdP (He.ga K "FreeWarp") false gLanes)) := ⟨_, fd_dFWlanes, He.meth_ok (c.fact 63 (f := .meth "FreeWarp" "lanes") rfl), (F_dFWlanes.bindsN fun _ _ _ _ _ _ us hl => match us, hl with | [_], _ => rfl), ok_lanesFW (F := F_dFWlanes) (T := T) (q := q_F)⟩
  have m_release_F : CalM (PySem.Challenge.rw_drawloom_k52_whole_lanes_alone).prog w K mg base (He.ga K "FreeWarp") 7 "release" ["self", "words"] (spG (wrP (He.ga K "FreeWarp") false gRelF)) := ⟨_, fd_dFWrelease, He.meth_ok (c.fact 64 (f := .meth "FreeWarp" "release") rfl), (F_dFWrelease.bindsN fun _ _ _ _ _ _ us hl => match us, hl with | [_, _], _ => rfl), ok_releaseF (F := F_dFWrelease) (T := T) (q := q_F) (m_running := m_running_F) (m_goon := m_goon_F)⟩
  have m_groups_W : CalM (PySem.Challenge.rw_drawloom_k52_whole_lanes_alone).prog w K mg base (He.ga K "Warp") 1 "groups" ["self"] (spG (rdP (He.ga K "Warp") true gGroupsW)) := ⟨_, fd_dWPgroups, He.meth_ok (c.fact 75 (f := .meth "Warp" "groups") rfl), (F_dWPgroups.bindsN fun _ _ _ _ _ _ us hl => match us, hl with | [_], _ => rfl), ok_groupsW (F := F_dWPgroups) (T := T) (q := q_W)⟩
  have m_active_W : CalM (PySem.Challenge.rw_drawloom_k52_whole_lanes_alone).prog w K mg base (He.ga K "Warp") 1 "active" ["self", "group"] (spG (rdP (He.ga K "Warp") true gActiveW)) := ⟨_, fd_dWPactive, He.meth_ok (c.fact 76 (f := .meth "Warp" "active") rfl), (F_dWPactive.bindsN fun _ _ _ _ _ _ us hl => match us, hl with | [_, _], _ => rfl), ok_activeW (F := F_dWPactive) (T := T) (q := q_W)⟩
  have m_asks_W : CalM (PySem.Challenge.rw_drawloom_k52_whole_lanes_alone).prog w K mg base (He.ga K "Warp") 2 "asks" ["self", "group"] (spG (rdP (He.ga K "Warp") true gAsksW)) := ⟨_, fd_dWPasks, He.meth_ok (c.fact 77 (f := .meth "Warp" "asks") rfl), (F_dWPasks.bindsN fun _ _ _ _ _ _ us hl => match us, hl with | [_, _], _ => rfl), ok_asksW (F := F_dWPasks) (T := T) (q := q_W) (m_active := m_active_W) (c_Frequest := c_Frequest)⟩
  have m_goon_W : CalM (PySem.Challenge.rw_drawloom_k52_whole_lanes_alone).prog w K mg base (He.ga K "Warp") 6 "go_on" ["self", "tid", "word"] (spG (wrP (He.ga K "Warp") true gGoOn)) := ⟨_, fd_dWPgoon, He.meth_ok (c.fact 87 (f := .meth "Warp" "go_on") rfl), (F_dWPgoon.bindsN fun _ _ _ _ _ _ us hl => match us, hl with | [_, _, _], _ => rfl), ok_go_on (F := F_dWPgoon) (T := T) (q := q_W) (c_Fbehind := c_Fbehind)⟩
  have m_advance_W : CalM (PySem.Challenge.rw_drawloom_k52_whole_lanes_alone).prog w K mg base (He.ga K "Warp") 7 "advance" ["self", "rows", "words"] (spG (wrP (He.ga K "Warp") true gAdvance)) := ⟨_, fd_dWPadvance, He.meth_ok (c.fact 86 (f := .meth "Warp" "advance") rfl), (F_dWPadvance.bindsN fun _ _ _ _ _ _ us hl => match us, hl with | [_, _, _], _ => rfl), ok_advance (F := F_dWPadvance) (T := T) (q := q_W) (m_goon := m_goon_W)⟩
  have m_part_W : CalM (PySem.Challenge.rw_drawloom_k52_whole_lanes_alone).prog w K mg base (He.ga K "Warp") 1 "part" ["self", "at", "join", "lanes"] (spG (wrP (He.ga K "Warp") true gPart)) := ⟨_, fd_dWPpart, He.meth_ok (c.fact 79 (f := .meth "Warp" "part") rfl), (F_dWPpart.bindsN fun _ _ _ _ _ _ us hl => match us, hl with | [_, _, _, _], _ => rfl), ok_part (F := F_dWPpart) (T := T) (q := q_W)⟩
  have m_clear_W : CalM (PySem.Challenge.rw_drawloom_k52_whole_lanes_alone).prog w K mg base (He.ga K "Warp") 1 "clear" ["self"] (spG (wrP (He.ga K "Warp") true gClear)) := ⟨_, fd_dWPclear, He.meth_ok (c.fact 80 (f := .meth "Warp" "clear") rfl), (F_dWPclear.bindsN fun _ _ _ _ _ _ us hl => match us, hl with | [_], _ => rfl), ok_clear (F := F_dWPclear) (T := T) (q := q_W)⟩
  have m_step_W : CalM (PySem.Challenge.rw_drawloom_k52_whole_lanes_alone).prog w K mg base (He.ga K "Warp") 8 "step" ["self", "group", "words"] (spG (wrP (He.ga K "Warp") true gStepW)) := ⟨_, fd_dWPstep, He.meth_ok (c.fact 78 (f := .meth "Warp" "step") rfl), (F_dWPstep.bindsN fun _ _ _ _ _ _ us hl => match us, hl with | [_, _, _], _ => rfl), ok_stepW (F := F_dWPstep) (T := T) (q := q_W) (m_asks := m_asks_W) (m_advance := m_advance_W) (m_part := m_part_W) (m_clear := m_clear_W)⟩
  have m_waits_W : CalM (PySem.Challenge.rw_drawloom_k52_whole_lanes_alone).prog w K mg base (He.ga K "Warp") 2 "waits" ["self"] (spG (rdP (He.ga K "Warp") true gWaits)) := ⟨_, fd_dWPwaits, He.meth_ok (c.fact 81 (f := .meth "Warp" "waits") rfl), (F_dWPwaits.bindsN fun _ _ _ _ _ _ us hl => match us, hl with | [_], _ => rfl), ok_waitsWP (F := F_dWPwaits) (T := T) (q := q_W) (c_Frequest := c_Frequest)⟩
  have m_ended_W : CalM (PySem.Challenge.rw_drawloom_k52_whole_lanes_alone).prog w K mg base (He.ga K "Warp") 1 "ended" ["self"] (spG (rdP (He.ga K "Warp") true gEnded)) := ⟨_, fd_dWPended, He.meth_ok (c.fact 82 (f := .meth "Warp" "ended") rfl), (F_dWPended.bindsN fun _ _ _ _ _ _ us hl => match us, hl with | [_], _ => rfl), ok_endedWP (F := F_dWPended) (T := T) (q := q_W)⟩
  have m_lanes_W : CalM (PySem.Challenge.rw_drawloom_k52_whole_lanes_alone).prog w K mg base (He.ga K "Warp") 1 "lanes" ["self"] (spG (rdP (He.ga K "Warp") true gLanes)) := ⟨_, fd_dWPlanes, He.meth_ok (c.fact 83 (f := .meth "Warp" "lanes") rfl), (F_dWPlanes.bindsN fun _ _ _ _ _ _ us hl => match us, hl with | [_], _ => rfl), ok_lanesWP (F := F_dWPlanes) (T := T) (q := q_W)⟩
  have m_entries_W : CalM (PySem.Challenge.rw_drawloom_k52_whole_lanes_alone).prog w K mg base (He.ga K "Warp") 1 "entries" ["self"] (spG (rdP (He.ga K "Warp") true gEntries)) := ⟨_, fd_dWPentries, He.meth_ok (c.fact 84 (f := .meth "Warp" "entries") rfl), (F_dWPentries.bindsN fun _ _ _ _ _ _ us hl => match us, hl with | [_], _ => rfl), ok_entries (F := F_dWPentries) (T := T) (q := q_W)⟩
  have m_release_W : CalM (PySem.Challenge.rw_drawloom_k52_whole_lanes_alone).prog w K mg base (He.ga K "Warp") 7 "release" ["self", "words"] (spG (wrP (He.ga K "Warp") true gRelW)) := ⟨_, fd_dWPrelease, He.meth_ok (c.fact 85 (f := .meth "Warp" "release") rfl), (F_dWPrelease.bindsN fun _ _ _ _ _ _ us hl => match us, hl with | [_, _], _ => rfl), ok_releaseW (F := F_dWPrelease) (T := T) (q := q_W) (m_goon := m_goon_W)⟩
  have k_FreeWarp : Mak (PySem.Challenge.rw_drawloom_k52_whole_lanes_alone).prog w K mg base (He.ga K "FreeWarp") 2 "FreeWarp" ["self", "code", "launch", "block", "first", "count"] (spG (iniP (He.ga K "FreeWarp") false)) := ⟨_, fd_dFWinit, He.mkr_ok (c.fact 44 (f := .mkr "FreeWarp") rfl), He.glo_ok X G (c.fact 25 (f := .glo "FreeWarp") rfl), (F_dFWinit.bindsN fun _ _ _ _ _ _ us hl => match us, hl with | [_, _, _, _, _, _], _ => rfl), ok_initFW (F := F_dFWinit) (T := T) (q := q_F) (c_Ffirstlane := c_Ffirstlane)⟩
  have k_Warp : Mak (PySem.Challenge.rw_drawloom_k52_whole_lanes_alone).prog w K mg base (He.ga K "Warp") 2 "Warp" ["self", "code", "launch", "block", "first", "count"] (spG (iniP (He.ga K "Warp") true)) := ⟨_, fd_dWPinit, He.mkr_ok (c.fact 66 (f := .mkr "Warp") rfl), He.glo_ok X G (c.fact 26 (f := .glo "Warp") rfl), (F_dWPinit.bindsN fun _ _ _ _ _ _ us hl => match us, hl with | [_, _, _, _, _, _], _ => rfl), ok_initWP (F := F_dWPinit) (T := T) (q := q_W) (c_Ffirstlane := c_Ffirstlane)⟩
  have c_Fwalk : Cal (PySem.Challenge.rw_drawloom_k52_whole_lanes_alone).prog w K mg base 9 "_law_walk" ["_law_stream_here", "_law_warp", "_law_words", "_law_count", "_law_masks"] (spG (orP (walkP (He.ga K "Warp") true) (walkP (He.ga K "FreeWarp") false))) := ⟨_, fd_dFwalk, He.glo_ok X G (c.fact 22 (f := .glo "_law_walk") rfl), F_dFwalk.kp, (F_dFwalk.bindsN fun _ _ _ _ _ _ us hl => match us, hl with | [_, _, _, _, _], _ => rfl), fnOr (ok_walkW (F := F_dFwalk) (T := T) (q := q_W) (m_groups := m_groups_W) (m_asks := m_asks_W) (m_step := m_step_W) (m_release := m_release_W) (m_waits := m_waits_W) (m_lanes := m_lanes_W) (m_ended := m_ended_W) (m_entries := m_entries_W) (c_Fdraw := c_Fdraw) (c_Ftold := c_Ftold)) (ok_walkF (F := F_dFwalk) (T := T) (q := q_F) (m_groups := m_groups_F) (m_asks := m_asks_F) (m_step := m_step_F) (m_release := m_release_F) (m_waits := m_waits_F) (m_lanes := m_lanes_F) (c_Fdraw := c_Fdraw) (c_Ftold := c_Ftold))⟩
  exact ok_law (F := F_dFlaw) (T := T) (c_Fstream := c_Fstream) (c_Fdraw := c_Fdraw) (c_Fcode := c_Fcode) (c_Flooping := c_Flooping) (c_Flaunch := c_Flaunch) (k_Warp := k_Warp) (k_FreeWarp := k_FreeWarp) (c_Fwalk := c_Fwalk) (c_Falone := c_Falone)
end LK
open PySem PySem.W PySem.Calls PyProof.Rows
theorem PySem.Challenge.cw_drawloom_k52_whole_lanes_alone_holds : PySem.Challenge.rw_drawloom_k52_whole_lanes_alone.Holds := by
  w_on; o_law
  refine HandSHeadRun.head_any (r := OpenLaw.row PySem.Challenge.rw_drawloom_k52_whole_lanes_alone) (q := view (OpenLaw.row PySem.Challenge.rw_drawloom_k52_whole_lanes_alone).prog [37]) (H := LK.hk) (ob := LK.ob) (M := 4000) (loose := LK.loose) (d := HandSHeadRun.topDef (OpenLaw.row PySem.Challenge.rw_drawloom_k52_whole_lanes_alone).prog 37) (kwd := []) LK.ob_eq
    (by kernel_rfl) (fun s => by kernel_rfl) LK.run (by kernel_rfl) (by kernel_rfl) (by kernel_rfl) (by rfl) (by first | assumption | decide +kernel) (by decide +kernel) ⟨rfl, rfl, rfl, rfl, rfl, by decide +kernel⟩ ?hw ?hc
  case hw => w_witness2
  case hc =>
    refine L2.walk_ofE (l := PySem.Challenge.rw_drawloom_k52_whole_lanes_alone) (n := 63) (k := 10) (x := "_law_script") (CX := L2.CX0) rfl (by decide) (by kernel_rfl) ⟨rfl, by decide, by decide⟩ ?F (fun _ _ _ _ z => z)
    intro w mg fa h Y G hmg0
    obtain ⟨K, KX, c⟩ := Y
    have hmg : mg ("law" : PySem.Str) = some (.ref fa) := by
      have e : (HandSHeadRun.topDef (OpenLaw.row PySem.Challenge.rw_drawloom_k52_whole_lanes_alone).prog 37).name = ("law" : PySem.Str) := by kernel_rfl
      rw [← e]
      exact hmg0
    obtain ⟨fd, hb, hF⟩ := LK.facts (w := w) KX G hmg c
    refine ⟨K, fd, _, KX, hb, fun H a ns hl hO hS => ?_, hF⟩
    exact LK.law_end hS

