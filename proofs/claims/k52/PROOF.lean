import PyProof.Rows.All
import Wide.All
import OpenK.AllK
import Wide.FinOn
import HandS.ForMost
import HandS.ForExc
import HandS.ExcInit
import HandS.ExcField
import HandS.CallSlots
import HandS.Wide
import HandS.IsInst
import HandS.Deep
import HandS.ExcIs
import HandS.TryOnly
import PySem.Challenge.RW_beadhall_k52_raised
set_option Elab.async false
set_option linter.all false
set_option maxRecDepth 100000
set_option maxHeartbeats 1000000
namespace Bd
open PySem PySem.Spec PyProof.Rows L2

/-! ### plain data -/
inductive D where
  | non | bl (b : Bool) | int (i : Int) | str (x : Str) | ty (n : String)
  | lst (xs : List D) | tup (xs : List D) | obj (c : Str) (ns : List Str) (xs : List D)
  | raw

inductive R (α : Type) where
  | ok (a : α) | exn (c : Str) (ns : List Str) (ds : List D) | bad
def R.bind {α β : Type} (a : R α) (k : α → R β) : R β := match a with
  | .ok x => k x
  | .exn c ns ds => .exn c ns ds
  | .bad => .bad
@[simp] theorem R.bind_ok {α β : Type} (x : α) (k : α → R β) : (R.ok x).bind k = k x := rfl
@[simp] theorem R.bind_exn {α β : Type} (c : Str) (ns : List Str) (ds : List D) (k : α → R β) : (R.exn c ns ds : R α).bind k = .exn c ns ds := rfl
@[simp] theorem R.bind_bad {α β : Type} (k : α → R β) : (R.bad : R α).bind k = .bad := rfl

abbrev En := List (Option D)
abbrev Fp := List Addr
structure Mx where
  K : PySem.W.Frag
  mg : Str → Option Value

mutual
def Rep (M : Mx) (H : Hp) : D → V → Prop
  | .non, v => v = .non
  | .bl b, v => v = .bl b
  | .int i, v => v = .int i
  | .str x, v => v = .str x
  | .ty n, v => v = .ty n
  | .lst ds, v => ∃ a vs, v = .ref a ∧ SqL M.K H a vs ∧ vs.length ≤ sizeLine ∧ Reps M H ds vs
  | .tup ds, v => ∃ a vs, v = .ref a ∧ SqT M.K H a vs ∧ vs.length ≤ sizeLine ∧ Reps M H ds vs
  | .obj c ns ds, v => ∃ a C dx vs, v = .ref a ∧ M.mg c = some (.ref C) ∧ H a = some (.ins C dx (ns.zip vs)) ∧ ns.length = ds.length ∧ Reps M H ds vs
  | .raw, v => ∃ a, v = .ref a
def Reps (M : Mx) (H : Hp) : List D → List V → Prop
  | [], vs => vs = []
  | d :: ds, vs => ∃ v r, vs = v :: r ∧ Rep M H d v ∧ Reps M H ds r
end

theorem SqT.same {K : PySem.W.Frag} {H H' : Hp} {a : Addr} {xs : List V} (e : Same H H') (h : SqT K H a xs) : SqT K H' a xs := by
  rcases h with (h | ⟨o, h⟩) | h
  · exact .inl (.inl (e _ _ h))
  · exact .inl (.inr ⟨o, e _ _ h⟩)
  · exact .inr h

mutual
theorem Rep.mono {M : Mx} {H H' : Hp} (s : Same H H') : ∀ {d : D} {v : V}, Rep M H d v → Rep M H' d v
  | .non, _, h => h
  | .bl _, _, h => h
  | .int _, _, h => h
  | .str _, _, h => h
  | .ty _, _, h => h
  | .lst ds, v, h => by
    obtain ⟨a, vs, e, q, z, r⟩ := h
    exact ⟨a, vs, e, s.seq q, z, Reps.mono s r⟩
  | .tup ds, v, h => by
    obtain ⟨a, vs, e, q, z, r⟩ := h
    exact ⟨a, vs, e, SqT.same s q, z, Reps.mono s r⟩
  | .obj c ns ds, v, h => by
    obtain ⟨a, C, dx, vs, e, g, q, l, r⟩ := h
    exact ⟨a, C, dx, vs, e, g, s _ _ q, l, Reps.mono s r⟩
  | .raw, _, h => h
theorem Reps.mono {M : Mx} {H H' : Hp} (s : Same H H') : ∀ {ds : List D} {vs : List V}, Reps M H ds vs → Reps M H' ds vs
  | [], _, h => h
  | d :: ds, vs, h => by
    obtain ⟨v, r, e, h1, h2⟩ := h
    exact ⟨v, r, e, Rep.mono s h1, Reps.mono s h2⟩
end

theorem Reps.length {M : Mx} {H : Hp} : ∀ {ds : List D} {vs : List V}, Reps M H ds vs → ds.length = vs.length
  | [], _, h => by cases (show _ = [] from h); rfl
  | d :: ds, vs, h => by
    obtain ⟨v, r, e, h1, h2⟩ := h
    subst e
    simp only [List.length_cons, Reps.length h2]
theorem Reps.get {M : Mx} {H : Hp} : ∀ {ds : List D} {vs : List V} {i : Nat} {d : D}, Reps M H ds vs → ds[i]? = some d → ∃ v, vs[i]? = some v ∧ Rep M H d v
  | [], _, _, _, _, e => by simp at e
  | d :: ds, vs, 0, x, h, e => by
    obtain ⟨v, r, e1, h1, h2⟩ := h
    simp at e; subst e; subst e1
    exact ⟨v, rfl, h1⟩
  | d :: ds, vs, i + 1, x, h, e => by
    obtain ⟨v, r, e1, h1, h2⟩ := h
    subst e1
    obtain ⟨v', e2, h3⟩ := Reps.get (i := i) (d := x) h2 (by simpa using e)
    exact ⟨v', by simpa using e2, h3⟩
theorem Reps.append {M : Mx} {H : Hp} : ∀ {ds es : List D} {vs ws : List V}, Reps M H ds vs → Reps M H es ws → Reps M H (ds ++ es) (vs ++ ws)
  | [], _, _, _, h, h' => by cases (show _ = [] from h); exact h'
  | d :: ds, es, vs, ws, h, h' => by
    obtain ⟨v, r, e, h1, h2⟩ := h
    subst e
    exact ⟨v, r ++ ws, rfl, h1, Reps.append h2 h'⟩
theorem Reps.take {M : Mx} {H : Hp} : ∀ {ds : List D} {vs : List V} (n : Nat), Reps M H ds vs → Reps M H (ds.take n) (vs.take n)
  | ds, vs, 0, h => by simp [Reps]
  | [], _, n + 1, h => by cases (show _ = [] from h); simp [Reps]
  | d :: ds, vs, n + 1, h => by
    obtain ⟨v, r, e, h1, h2⟩ := h
    subst e
    exact ⟨v, r.take n, rfl, h1, Reps.take n h2⟩
theorem Reps.drop {M : Mx} {H : Hp} : ∀ {ds : List D} {vs : List V} (n : Nat), Reps M H ds vs → Reps M H (ds.drop n) (vs.drop n)
  | ds, vs, 0, h => by simpa using h
  | [], _, n + 1, h => by cases (show _ = [] from h); simp [Reps]
  | d :: ds, vs, n + 1, h => by
    obtain ⟨v, r, e, h1, h2⟩ := h
    subst e
    simpa using Reps.drop n h2
theorem Reps.set {M : Mx} {H : Hp} {d : D} {v : V} (h0 : Rep M H d v) : ∀ {ds : List D} {vs : List V} (i : Nat), Reps M H ds vs → Reps M H (ds.set i d) (vs.set i v)
  | [], _, _, h => by cases (show _ = [] from h); simp [Reps]
  | x :: ds, vs, 0, h => by
    obtain ⟨w, r, e, h1, h2⟩ := h
    subst e
    exact ⟨v, r, rfl, h0, h2⟩
  | x :: ds, vs, i + 1, h => by
    obtain ⟨w, r, e, h1, h2⟩ := h
    subst e
    exact ⟨w, r.set i v, rfl, h1, Reps.set h0 i h2⟩

/-- scalars -/
def Sc : D → V → Prop
  | .non, v => v = .non
  | .bl b, v => v = .bl b
  | .int i, v => v = .int i
  | .str x, v => v = .str x
  | .ty n, v => v = .ty n
  | _, _ => False
def isSc : D → Bool
  | .lst _ => false
  | .tup _ => false
  | .obj _ _ _ => false
  | .raw => false
  | _ => true
theorem Sc.rep {M : Mx} {H : Hp} {d : D} {v : V} (h : Sc d v) : Rep M H d v := by
  cases d <;> first | exact h | exact (show False from h).elim
theorem Rep.sc {M : Mx} {H : Hp} {d : D} {v : V} (h : Rep M H d v) (k : isSc d = true) : Sc d v := by
  cases d <;> first | exact h | exact absurd (show false = true from k) Bool.false_ne_true

/-! ### shapes -/
inductive Sh where
  | sc | s | b | l (e : Sh) | o (e : Sh) | at (a : Addr)
  deriving DecidableEq
def Sh.noB : Sh → Bool
  | .b => false
  | _ => true
def Sh.closed : Sh → Bool
  | .sc => true
  | .l e => e.closed
  | .o e => e.closed
  | _ => false

def RepL (P : D → V → Fp → Prop) : List D → List V → Fp → Prop
  | [], vs, fp => vs = [] ∧ fp = []
  | d :: ds, vs, fp => ∃ v r f1 f2, vs = v :: r ∧ fp = f1 ++ f2 ∧ P d v f1 ∧ RepL P ds r f2

def RepS (M : Mx) (Hs H : Hp) : Sh → D → V → Fp → Prop
  | .sc, d, v, fp => Sc d v ∧ fp = []
  | .s, d, v, fp => Rep M Hs d v ∧ fp = []
  | .b, d, v, fp => Rep M H d v ∧ fp = []
  | .l e, d, v, fp => e.noB = true ∧ ∃ a vs ds f, d = .lst ds ∧ v = .ref a ∧ H a = some (.lst vs) ∧ vs.length ≤ sizeLine ∧ RepL (RepS M Hs H e) ds vs f ∧ fp = a :: f
  | .o e, d, v, fp => e.noB = true ∧ ∃ a c C dx ns ds vs f, d = .obj c ns ds ∧ v = .ref a ∧ M.mg c = some (.ref C) ∧ H a = some (.ins C dx (ns.zip vs)) ∧ ns.length = ds.length ∧ RepL (RepS M Hs H e) ds vs f ∧ fp = a :: f
  | .at a, d, v, fp => d = .raw ∧ v = .ref a ∧ fp = []

theorem RepL.mono {P Q : D → V → Fp → Prop} : ∀ {ds : List D} {vs : List V} {fp : Fp}, RepL P ds vs fp → (∀ d v f, (∀ a ∈ f, a ∈ fp) → P d v f → Q d v f) → RepL Q ds vs fp
  | [], _, _, h, _ => h
  | d :: ds, vs, fp, h, k => by
    obtain ⟨v, r, f1, f2, e1, e2, h1, h2⟩ := h
    subst e2
    exact ⟨v, r, f1, f2, e1, rfl, k d v f1 (fun a h => List.mem_append_left _ h) h1, RepL.mono h2 fun d v f hs => k d v f fun a h => List.mem_append_right _ (hs a h)⟩
theorem RepL.length {P : D → V → Fp → Prop} : ∀ {ds : List D} {vs : List V} {fp : Fp}, RepL P ds vs fp → ds.length = vs.length
  | [], _, _, h => by cases h.1; rfl
  | d :: ds, vs, fp, h => by
    obtain ⟨v, r, f1, f2, e1, e2, h1, h2⟩ := h
    subst e1
    simp only [List.length_cons, RepL.length h2]
/-- the general carrying-over -/
theorem RepS.mono {M : Mx} {Hs Hs' H H' : Hp} (s : Same Hs Hs') : ∀ (sh : Sh) {d : D} {v : V} {fp : Fp}, (sh.noB = false → Same H H') → (∀ a ∈ fp, ∀ o, H a = some o → H' a = some o) → RepS M Hs H sh d v fp → RepS M Hs' H' sh d v fp
  | .sc, _, _, _, _, _, h => h
  | .s, _, _, _, _, _, h => ⟨Rep.mono s h.1, h.2⟩
  | .b, _, _, _, k, _, h => ⟨Rep.mono (k rfl) h.1, h.2⟩
  | .l e, d, v, fp, k, q, h => by
    obtain ⟨nb, a, vs, ds, f, e1, e2, e3, z, r, e4⟩ := h
    subst e4
    exact ⟨nb, a, vs, ds, f, e1, e2, q a List.mem_cons_self _ e3, z, RepL.mono r fun d v f' hs x => RepS.mono s e (fun z => by rw [nb] at z; cases z) (fun b hb => q b (List.mem_cons_of_mem _ (hs b hb))) x, rfl⟩
  | .o e, d, v, fp, k, q, h => by
    obtain ⟨nb, a, c, C, dx, ns, ds, vs, f, e1, e2, g, e3, l, r, e4⟩ := h
    subst e4
    exact ⟨nb, a, c, C, dx, ns, ds, vs, f, e1, e2, g, q a List.mem_cons_self _ e3, l, RepL.mono r fun d v f' hs x => RepS.mono s e (fun z => by rw [nb] at z; cases z) (fun b hb => q b (List.mem_cons_of_mem _ (hs b hb))) x, rfl⟩
  | .at _, _, _, _, _, _, h => h
theorem RepL.reps {M : Mx} {G : Hp} {P : D → V → Fp → Prop} : ∀ {ds : List D} {vs : List V} {fp : Fp}, RepL P ds vs fp → (∀ d v f, (∀ a ∈ f, a ∈ fp) → P d v f → Rep M G d v) → Reps M G ds vs
  | [], _, _, h, _ => h.1
  | d :: ds, vs, fp, h, k => by
    obtain ⟨v, r, f1, f2, e1, e2, h1, h2⟩ := h
    subst e2
    exact ⟨v, r, e1, k d v f1 (fun a h => List.mem_append_left _ h) h1, RepL.reps h2 fun d v f hs => k d v f fun a h => List.mem_append_right _ (hs a h)⟩
/-- what is owned can be read in any heap that has its cells -/
theorem RepS.rep {M : Mx} {Hs H G : Hp} (s : Same Hs G) : ∀ (sh : Sh) {d : D} {v : V} {fp : Fp}, (sh.noB = false → Same H G) → (∀ a ∈ fp, ∀ o, H a = some o → G a = some o) → RepS M Hs H sh d v fp → Rep M G d v
  | .sc, _, _, _, _, _, h => h.1.rep
  | .s, _, _, _, _, _, h => Rep.mono s h.1
  | .b, _, _, _, k, _, h => Rep.mono (k rfl) h.1
  | .l e, d, v, fp, k, q, h => by
    obtain ⟨nb, a, vs, ds, f, e1, e2, e3, z, r, e4⟩ := h
    subst e4; subst e1
    exact ⟨a, vs, e2, .of (q a List.mem_cons_self _ e3), z, RepL.reps r fun d v f' hs x => RepS.rep s e (fun z => by rw [nb] at z; cases z) (fun b hb => q b (List.mem_cons_of_mem _ (hs b hb))) x⟩
  | .o e, d, v, fp, k, q, h => by
    obtain ⟨nb, a, c, C, dx, ns, ds, vs, f, e1, e2, g, e3, l, r, e4⟩ := h
    subst e4; subst e1
    exact ⟨a, C, dx, vs, e2, g, q a List.mem_cons_self _ e3, l, RepL.reps r fun d v f' hs x => RepS.rep s e (fun z => by rw [nb] at z; cases z) (fun b hb => q b (List.mem_cons_of_mem _ (hs b hb))) x⟩
  | .at a, _, _, _, _, _, h => by obtain ⟨e1, e2, _⟩ := h; subst e1; exact ⟨a, e2⟩
/-- a closed shape asks nothing of the shared part -/
theorem RepS.close {M : Mx} {Hs Hs' H : Hp} : ∀ (sh : Sh) {d : D} {v : V} {fp : Fp}, sh.closed = true → RepS M Hs H sh d v fp → RepS M Hs' H sh d v fp
  | .sc, _, _, _, _, h => h
  | .s, _, _, _, k, _ => absurd (show false = true from k) Bool.false_ne_true
  | .b, _, _, _, k, _ => absurd (show false = true from k) Bool.false_ne_true
  | .l e, d, v, fp, k, h => by
    obtain ⟨nb, a, vs, ds, f, e1, e2, e3, z, r, e4⟩ := h
    exact ⟨nb, a, vs, ds, f, e1, e2, e3, z, RepL.mono r fun d v f' hs x => RepS.close e k x, e4⟩
  | .o e, d, v, fp, k, h => by
    obtain ⟨nb, a, c, C, dx, ns, ds, vs, f, e1, e2, g, e3, l, r, e4⟩ := h
    exact ⟨nb, a, c, C, dx, ns, ds, vs, f, e1, e2, g, e3, l, RepL.mono r fun d v f' hs x => RepS.close e k x, e4⟩
  | .at _, _, _, _, _, h => h
theorem RepL.mem {P : D → V → Fp → Prop} : ∀ {ds : List D} {vs : List V} {fp : Fp} {a : Addr}, RepL P ds vs fp → a ∈ fp → ∃ d v f, a ∈ f ∧ P d v f
  | [], _, _, _, h, m => by rw [h.2] at m; cases m
  | d :: ds, vs, fp, a, h, m => by
    obtain ⟨v, r, f1, f2, e1, e2, h1, h2⟩ := h
    subst e2
    rcases List.mem_append.mp m with m | m
    · exact ⟨d, v, f1, m, h1⟩
    · exact RepL.mem h2 m
/-- cells are there -/
theorem RepS.there {M : Mx} {Hs H : Hp} : ∀ (sh : Sh) {d : D} {v : V} {fp : Fp} {a : Addr}, RepS M Hs H sh d v fp → a ∈ fp → H a ≠ none
  | .sc, _, _, _, _, h, m => by rw [h.2] at m; cases m
  | .s, _, _, _, _, h, m => by rw [h.2] at m; cases m
  | .b, _, _, _, _, h, m => by rw [h.2] at m; cases m
  | .l e, d, v, fp, x, h, m => by
    obtain ⟨nb, a, vs, ds, f, e1, e2, e3, z, r, e4⟩ := h
    subst e4
    rcases List.mem_cons.mp m with m | m
    · subst m; rw [e3]; simp
    · obtain ⟨d, v, f', m', h'⟩ := RepL.mem r m
      exact RepS.there e h' m'
  | .o e, d, v, fp, x, h, m => by
    obtain ⟨nb, a, c, C, dx, ns, ds, vs, f, e1, e2, g, e3, l, r, e4⟩ := h
    subst e4
    rcases List.mem_cons.mp m with m | m
    · subst m; rw [e3]; simp
    · obtain ⟨d, v, f', m', h'⟩ := RepL.mem r m
      exact RepS.there e h' m'
  | .at _, _, _, _, _, h, m => by rw [h.2.2] at m; cases m
/-- a scalar's value -/
theorem RepS.sc {M : Mx} {Hs H : Hp} {sh : Sh} {d : D} {v : V} {fp : Fp} (h : RepS M Hs H sh d v fp) (k : isSc d = true) : Sc d v ∧ fp = [] := by
  cases sh with
  | sc => exact h
  | s => exact ⟨h.1.sc k, h.2⟩
  | b => exact ⟨h.1.sc k, h.2⟩
  | l e =>
    obtain ⟨_, a, vs, ds, f, e1, _⟩ := h
    subst e1
    exact absurd (show false = true from k) Bool.false_ne_true
  | o e =>
    obtain ⟨_, a, c, C, dx, ns, ds, vs, f, e1, _⟩ := h
    subst e1
    exact absurd (show false = true from k) Bool.false_ne_true
  | «at» a =>
    obtain ⟨e1, _⟩ := h
    subst e1
    exact absurd (show false = true from k) Bool.false_ne_true
end Bd

set_option Elab.async false
set_option linter.all false
set_option maxRecDepth 100000
set_option maxHeartbeats 1000000
namespace Bd
open PySem PySem.Spec PyProof.Rows L2

/-! ### what a body knows: slots by shapes, held values -/
abbrev Sg := List (Option V)
abbrev Gm := List (Option Sh)
def Slot (M : Mx) (Hs H : Hp) (g : Option Sh) (e : Option D) (x : Option V) (fp : Fp) : Prop := match g with
  | none => fp = []
  | some sh => ∃ d v, e = some d ∧ x = some v ∧ RepS M Hs H sh d v fp
def Slots (M : Mx) (Hs H : Hp) : Gm → En → Sg → Fp → Prop
  | [], E, σ, fp => E = [] ∧ σ = [] ∧ fp = []
  | g :: Γ, E, σ, fp => ∃ e E' x σ' f1 f2, E = e :: E' ∧ σ = x :: σ' ∧ fp = f1 ++ f2 ∧ Slot M Hs H g e x f1 ∧ Slots M Hs H Γ E' σ' f2
abbrev Tm := List (Sh × D × V)
def Tmps (M : Mx) (Hs H : Hp) : Tm → Fp → Prop
  | [], fp => fp = []
  | (sh, d, v) :: T, fp => ∃ f1 f2, fp = f1 ++ f2 ∧ RepS M Hs H sh d v f1 ∧ Tmps M Hs H T f2
def gB (g : Option Sh) : Bool := match g with | none => true | some sh => sh.noB
def GB (Γ : Gm) : Bool := Γ.all gB
def TB (T : Tm) : Bool := T.all fun t => t.1.noB

def cap (B Hs : Hp) (a : Addr) : Nat := if (B a).isNone && (Hs a).isNone then 1 else 0
theorem cap_le (B Hs : Hp) (a : Addr) : cap B Hs a ≤ 1 := by unfold cap; split <;> omega
theorem cap_pos {B Hs : Hp} {a : Addr} (h : 0 < cap B Hs a) : B a = none ∧ Hs a = none := by
  unfold cap at h
  split at h
  · rename_i e
    simpa using e
  · omega
theorem cap_one {B Hs : Hp} {a : Addr} (h : B a = none) (h' : Hs a = none) : cap B Hs a = 1 := by
  unfold cap; simp [h, h']

structure RelA (M : Mx) (B Hb Hs : Hp) (Γ : Gm) (E : En) (σ : Sg) (T : Tm) (H : Hp) (f1 f2 : Fp) : Prop where
  low : Same Hb Hs
  dom : ∀ a, Hb a = none → B a ≠ none → Hs a = none
  bas : Same B H
  sub : Same Hs H
  slo : Slots M Hs H Γ E σ f1
  tmp : Tmps M Hs H T f2
  fit : ∀ a, f2.count a + f1.count a ≤ cap B Hs a
def Rel (M : Mx) (B Hb : Hp) (Γ : Gm) (E : En) (σ : Sg) (T : Tm) (H : Hp) : Prop := ∃ Hs f1 f2, RelA M B Hb Hs Γ E σ T H f1 f2

section
variable {M : Mx} {B Hb Hs Hs' H H' : Hp} {Γ : Gm} {E : En} {σ : Sg} {T : Tm} {f1 f2 fp : Fp}
theorem Slot.mono (s : Same Hs Hs') {g : Option Sh} {e : Option D} {x : Option V} (k : gB g = false → Same H H') (q : ∀ a ∈ fp, ∀ o, H a = some o → H' a = some o) (h : Slot M Hs H g e x fp) : Slot M Hs' H' g e x fp := by
  cases g with
  | none => exact h
  | some sh =>
    obtain ⟨d, v, e1, e2, r⟩ := h
    exact ⟨d, v, e1, e2, r.mono s sh k q⟩
theorem Slots.mono (s : Same Hs Hs') : ∀ {Γ : Gm} {E : En} {σ : Sg} {fp : Fp}, (GB Γ = false → Same H H') → (∀ a ∈ fp, ∀ o, H a = some o → H' a = some o) → Slots M Hs H Γ E σ fp → Slots M Hs' H' Γ E σ fp
  | [], _, _, _, _, _, h => h
  | g :: Γ, E, σ, fp, k, q, h => by
    obtain ⟨e, E', x, σ', f1, f2, e1, e2, e3, h1, h2⟩ := h
    subst e3
    refine ⟨e, E', x, σ', f1, f2, e1, e2, rfl, h1.mono s (fun z => k (by unfold GB; rw [List.all_cons, z]; rfl)) (fun a m => q a (List.mem_append_left _ m)),
      Slots.mono s (fun z => k (by unfold GB at z ⊢; rw [List.all_cons, z, Bool.and_false])) (fun a m => q a (List.mem_append_right _ m)) h2⟩
theorem Tmps.mono (s : Same Hs Hs') : ∀ {T : Tm} {fp : Fp}, (TB T = false → Same H H') → (∀ a ∈ fp, ∀ o, H a = some o → H' a = some o) → Tmps M Hs H T fp → Tmps M Hs' H' T fp
  | [], _, _, _, h => h
  | (sh, d, v) :: T, fp, k, q, h => by
    obtain ⟨f1, f2, e3, h1, h2⟩ := h
    subst e3
    exact ⟨f1, f2, rfl, h1.mono s sh (fun z => k (by unfold TB; rw [List.all_cons, show Sh.noB ((sh, d, v).1) = false from z]; rfl)) (fun a m => q a (List.mem_append_left _ m)),
      Tmps.mono s (fun z => k (by unfold TB at z ⊢; rw [List.all_cons, z, Bool.and_false])) (fun a m => q a (List.mem_append_right _ m)) h2⟩
theorem Slots.there : ∀ {Γ : Gm} {E : En} {σ : Sg} {fp : Fp} {a : Addr}, Slots M Hs H Γ E σ fp → a ∈ fp → H a ≠ none
  | [], _, _, _, _, h, m => by rw [h.2.2] at m; cases m
  | g :: Γ, E, σ, fp, a, h, m => by
    obtain ⟨e, E', x, σ', f1, f2, e1, e2, e3, h1, h2⟩ := h
    subst e3
    rcases List.mem_append.mp m with m | m
    · cases g with
      | none => rw [show f1 = [] from h1] at m; cases m
      | some sh =>
        obtain ⟨d, v, _, _, r⟩ := h1
        exact r.there sh m
    · exact Slots.there h2 m
theorem Tmps.there : ∀ {T : Tm} {fp : Fp} {a : Addr}, Tmps M Hs H T fp → a ∈ fp → H a ≠ none
  | [], _, _, h, m => by rw [show _ = [] from h] at m; cases m
  | (sh, d, v) :: T, fp, a, h, m => by
    obtain ⟨f1, f2, e3, h1, h2⟩ := h
    subst e3
    rcases List.mem_append.mp m with m | m
    · exact h1.there sh m
    · exact Tmps.there h2 m
theorem Slots.len : ∀ {Γ : Gm} {E : En} {σ : Sg} {fp : Fp}, Slots M Hs H Γ E σ fp → E.length = Γ.length ∧ σ.length = Γ.length
  | [], _, _, _, h => by obtain ⟨e1, e2, _⟩ := h; subst e1; subst e2; exact ⟨rfl, rfl⟩
  | g :: Γ, E, σ, fp, h => by
    obtain ⟨e, E', x, σ', f1, f2, e1, e2, e3, h1, h2⟩ := h
    subst e1; subst e2
    obtain ⟨l1, l2⟩ := Slots.len h2
    exact ⟨by simp [l1], by simp [l2]⟩
/-- a slot is read -/
theorem Slots.get : ∀ {Γ : Gm} {E : En} {σ : Sg} {fp : Fp} {i : Nat} {sh : Sh}, Slots M Hs H Γ E σ fp → Γ[i]? = some (some sh) → ∃ d v f, E[i]? = some (some d) ∧ σ[i]? = some (some v) ∧ RepS M Hs H sh d v f ∧ ∀ a, f.count a ≤ fp.count a
  | [], _, _, _, _, _, _, e => by simp at e
  | g :: Γ, E, σ, fp, 0, sh, h, e => by
    obtain ⟨e0, E', x, σ', f1, f2, e1, e2, e3, h1, h2⟩ := h
    subst e1; subst e2; subst e3
    obtain rfl : g = some sh := by simpa using e
    obtain ⟨d, v, z1, z2, r⟩ := h1
    subst z1; subst z2
    exact ⟨d, v, f1, rfl, rfl, r, fun a => by rw [List.count_append]; omega⟩
  | g :: Γ, E, σ, fp, i + 1, sh, h, e => by
    obtain ⟨e0, E', x, σ', f1, f2, e1, e2, e3, h1, h2⟩ := h
    subst e1; subst e2; subst e3
    obtain ⟨d, v, f, q1, q2, q3, q4⟩ := Slots.get (i := i) h2 (by simpa using e)
    exact ⟨d, v, f, by simpa using q1, by simpa using q2, q3, fun a => by have := q4 a; rw [List.count_append]; omega⟩
/-- a slot is taken out, and another thing put -/
theorem Slots.put : ∀ {Γ : Gm} {E : En} {σ : Sg} {fp : Fp} {i : Nat}, i < Γ.length → Slots M Hs H Γ E σ fp → ∃ A f C, fp = A ++ f ++ C ∧ (∃ g e x, Γ[i]? = some g ∧ E[i]? = some e ∧ σ[i]? = some x ∧ Slot M Hs H g e x f) ∧
    ∀ (Hs' H' : Hp) (g : Option Sh) (e : Option D) (x : Option V) (f' : Fp), Same Hs Hs' → (GB Γ = false → Same H H') → (∀ a ∈ A ++ C, ∀ o, H a = some o → H' a = some o) → Slot M Hs' H' g e x f' → Slots M Hs' H' (Γ.set i g) (E.set i e) (σ.set i x) (A ++ f' ++ C)
  | [], _, _, _, _, hi, _ => by simp at hi
  | g :: Γ, E, σ, fp, 0, hi, h => by
    obtain ⟨e0, E', x, σ', f1, f2, e1, e2, e3, h1, h2⟩ := h
    subst e1; subst e2; subst e3
    refine ⟨[], f1, f2, rfl, ⟨g, e0, x, rfl, rfl, rfl, h1⟩, fun Hs' H' g' e x f' s k q hs => ?_⟩
    exact ⟨e, E', x, σ', f', f2, rfl, rfl, rfl, hs, h2.mono s (fun z => k (by unfold GB at z ⊢; rw [List.all_cons, z, Bool.and_false])) fun a m => q a m⟩
  | g :: Γ, E, σ, fp, i + 1, hi, h => by
    obtain ⟨e0, E', x, σ', f1, f2, e1, e2, e3, h1, h2⟩ := h
    subst e1; subst e2; subst e3
    obtain ⟨A, f, C, e4, ⟨g', e', x', q1, q2, q3, q4⟩, k⟩ := Slots.put (i := i) (by simpa using hi) h2
    subst e4
    refine ⟨f1 ++ A, f, C, by simp [List.append_assoc], ⟨g', e', x', by simpa using q1, by simpa using q2, by simpa using q3, q4⟩, fun Hs' H' g2 e2 x2 f2' s kk q hs => ?_⟩
    refine ⟨e0, E'.set i e2, x, σ'.set i x2, f1, A ++ f2' ++ C, by simp, by simp, by simp [List.append_assoc], h1.mono s (fun z => kk (by unfold GB; rw [List.all_cons, z]; rfl)) (fun a m => q a (by simp [m])), ?_⟩
    exact k Hs' H' g2 e2 x2 f2' s (fun z => kk (by unfold GB at z ⊢; rw [List.all_cons, z, Bool.and_false])) (fun a m => q a (by rcases List.mem_append.mp m with m | m <;> simp [m])) hs

theorem mem_count {a : Addr} {f : Fp} (h : a ∈ f) : 0 < f.count a := List.count_pos_iff.mpr h
theorem count_mem {a : Addr} {f : Fp} (h : 0 < f.count a) : a ∈ f := List.count_pos_iff.mp h

/-- the heap grows -/
theorem RelA.grow (r : RelA M B Hb Hs Γ E σ T H f1 f2) (s : Same H H') : RelA M B Hb Hs Γ E σ T H' f1 f2 :=
  ⟨r.low, r.dom, r.bas.trans s, r.sub.trans s, r.slo.mono (Same.refl _) (fun _ => s) (fun a _ o e => s a o e), r.tmp.mono (Same.refl _) (fun _ => s) (fun a _ o e => s a o e), r.fit⟩
theorem Rel.grow (r : Rel M B Hb Γ E σ T H) (s : Same H H') : Rel M B Hb Γ E σ T H' := let ⟨Hs, f1, f2, q⟩ := r; ⟨Hs, f1, f2, q.grow s⟩
theorem same_new {p : Addr} {o : HO} (n : H p = none) : Same H (upd H p o) := fun b x e => by
  rw [upd_ne (ne_of_none e n)]; exact e
/-- a held value that owns nothing is dropped, or put -/
theorem Rel.pop {t : Sh × D × V} (r : Rel M B Hb Γ E σ (t :: T) H) : Rel M B Hb Γ E σ T H := by
  obtain ⟨Hs, f1, f2, q⟩ := r
  obtain ⟨sh, d, v⟩ := t
  obtain ⟨g1, g2, e, _, h2⟩ := q.tmp
  subst e
  exact ⟨Hs, f1, g2, q.low, q.dom, q.bas, q.sub, q.slo, h2, fun a => by have := q.fit a; rw [List.count_append] at this; omega⟩
theorem Rel.psc {d : D} {v : V} (r : Rel M B Hb Γ E σ T H) (h : Sc d v) : Rel M B Hb Γ E σ ((.sc, d, v) :: T) H := by
  obtain ⟨Hs, f1, f2, q⟩ := r
  exact ⟨Hs, f1, f2, q.low, q.dom, q.bas, q.sub, q.slo, ⟨[], f2, rfl, ⟨h, rfl⟩, q.tmp⟩, q.fit⟩
theorem Rel.pb {d : D} {v : V} (r : Rel M B Hb Γ E σ T H) (h : Rep M H d v) : Rel M B Hb Γ E σ ((.b, d, v) :: T) H := by
  obtain ⟨Hs, f1, f2, q⟩ := r
  exact ⟨Hs, f1, f2, q.low, q.dom, q.bas, q.sub, q.slo, ⟨[], f2, rfl, ⟨h, rfl⟩, q.tmp⟩, q.fit⟩
/-- the top held value as it is read -/
theorem Rel.top {sh : Sh} {d : D} {v : V} (r : Rel M B Hb Γ E σ ((sh, d, v) :: T) H) : Rep M H d v := by
  obtain ⟨Hs, f1, f2, q⟩ := r
  obtain ⟨g1, g2, e, h1, h2⟩ := q.tmp
  exact h1.rep q.sub sh (fun _ => Same.refl _) (fun a _ o e => e)
theorem Rel.topS {d : D} {v : V} (r : Rel M B Hb Γ E σ ((.s, d, v) :: T) H) : ∃ Hs, Rep M Hs d v ∧ Same Hs H := by
  obtain ⟨Hs, f1, f2, q⟩ := r
  obtain ⟨g1, g2, e, h1, h2⟩ := q.tmp
  exact ⟨Hs, h1.1, q.sub⟩
/-- a slot is read -/
theorem Rel.slot {i : Nat} {sh : Sh} (r : Rel M B Hb Γ E σ T H) (h : Γ[i]? = some (some sh)) : ∃ d v, E[i]? = some (some d) ∧ σ[i]? = some (some v) ∧ Rep M H d v := by
  obtain ⟨Hs, f1, f2, q⟩ := r
  obtain ⟨d, v, f, e1, e2, r, _⟩ := q.slo.get h
  exact ⟨d, v, e1, e2, r.rep q.sub sh (fun _ => Same.refl _) (fun a _ o e => e)⟩

/-- shared: the cells at f go to the shared part -/
def ext (Hs H : Hp) (f : Fp) : Hp := fun a => if a ∈ f then H a else Hs a
theorem ext_same {f : Fp} (h : ∀ a ∈ f, Hs a = none) : Same Hs (ext Hs H f) := fun b o e => by
  unfold ext
  by_cases m : b ∈ f
  · rw [h b m] at e; cases e
  · rw [if_neg m]; exact e
theorem ext_sub {f : Fp} (s : Same Hs H) : Same (ext Hs H f) H := fun b o e => by
  unfold ext at e
  by_cases m : b ∈ f
  · rw [if_pos m] at e; exact e
  · rw [if_neg m] at e; exact s b o e
theorem ext_in {f : Fp} {a : Addr} {o : HO} (m : a ∈ f) (e : H a = some o) : ext Hs H f a = some o := by
  unfold ext; rw [if_pos m]; exact e
theorem cap_ext {f : Fp} {a : Addr} (m : a ∉ f) : cap B (ext Hs H f) a = cap B Hs a := by
  unfold cap ext; rw [if_neg m]

/-- the top held value is shared -/
theorem Rel.share {sh : Sh} {d : D} {v : V} (r : Rel M B Hb Γ E σ ((sh, d, v) :: T) H) (nb : sh.noB = true) : Rel M B Hb Γ E σ ((.s, d, v) :: T) H := by
  obtain ⟨Hs, f1, f2, q⟩ := r
  obtain ⟨g1, g2, e, h1, h2⟩ := q.tmp
  subst e
  have fit := q.fit
  simp only [List.count_append] at fit
  have nh : ∀ a ∈ g1, B a = none ∧ Hs a = none := fun a m => cap_pos (B := B) (Hs := Hs) (by have := fit a; have := mem_count m; omega)
  have s : Same Hs (ext Hs H g1) := ext_same fun a m => (nh a m).2
  refine ⟨ext Hs H g1, f1, g2, q.low.trans s, fun a z1 z2 => ?_, q.bas, ext_sub q.sub, q.slo.mono s (fun _ => Same.refl _) (fun a _ o e => e), ⟨[], g2, rfl, ⟨?_, rfl⟩, h2.mono s (fun _ => Same.refl _) (fun a _ o e => e)⟩, fun a => ?_⟩
  · unfold ext
    by_cases m : a ∈ g1
    · exact absurd (nh a m).1 z2
    · rw [if_neg m]; exact q.dom a z1 z2
  · exact h1.rep s sh (fun z => by rw [nb] at z; cases z) (fun a m o e => ext_in m e)
  · by_cases m : a ∈ g1
    · have h3 := fit a
      have h4 := mem_count m
      have h5 := cap_le B Hs a
      omega
    · rw [cap_ext m]
      have := fit a
      omega
theorem Rel.sharet {sh : Sh} {d : D} {v : V} {t : Sh × D × V} (r : Rel M B Hb Γ E σ (t :: (sh, d, v) :: T) H) (nb : sh.noB = true) : Rel M B Hb Γ E σ (t :: (.s, d, v) :: T) H := by
  obtain ⟨Hs, f1, f2, q⟩ := r
  obtain ⟨sh0, d0, v0⟩ := t
  obtain ⟨g0, g2', e, h0, h12⟩ := q.tmp
  obtain ⟨g1, g2, e', h1, h2⟩ := h12
  subst e'; subst e
  have fit := q.fit
  simp only [List.count_append] at fit
  have nh : ∀ a ∈ g1, B a = none ∧ Hs a = none := fun a m => cap_pos (B := B) (Hs := Hs) (by have := fit a; have := mem_count m; omega)
  have s : Same Hs (ext Hs H g1) := ext_same fun a m => (nh a m).2
  refine ⟨ext Hs H g1, f1, g0 ++ g2, q.low.trans s, fun a z1 z2 => ?_, q.bas, ext_sub q.sub, q.slo.mono s (fun _ => Same.refl _) (fun a _ o e => e), ⟨g0, g2, rfl, h0.mono s sh0 (fun _ => Same.refl _) (fun a _ o e => e), [], g2, rfl, ⟨?_, rfl⟩, h2.mono s (fun _ => Same.refl _) (fun a _ o e => e)⟩, fun a => ?_⟩
  · unfold ext
    by_cases m : a ∈ g1
    · exact absurd (nh a m).1 z2
    · rw [if_neg m]; exact q.dom a z1 z2
  · exact h1.rep s sh (fun z => by rw [nb] at z; cases z) (fun a m o e => ext_in m e)
  · simp only [List.count_append]
    by_cases m : a ∈ g1
    · have h3 := fit a
      have h4 := mem_count m
      have h5 := cap_le B Hs a
      omega
    · rw [cap_ext m]
      have := fit a
      omega
/-- a slot's thing is taken out to be held (the slot is dead), or the top held value is stored -/
theorem Rel.store {i : Nat} {sh : Sh} {d : D} {v : V} (hi : i < Γ.length) (nb : GB Γ = true) (r : Rel M B Hb Γ E σ ((sh, d, v) :: T) H) : Rel M B Hb (Γ.set i (some sh)) (E.set i (some d)) (σ.set i (some v)) T H := by
  obtain ⟨Hs, f1, f2, q⟩ := r
  obtain ⟨g1, g2, e, h1, h2⟩ := q.tmp
  subst e
  obtain ⟨A, f, C, e1, _, k⟩ := q.slo.put hi
  subst e1
  refine ⟨Hs, A ++ g1 ++ C, g2, q.low, q.dom, q.bas, q.sub, k Hs H (some sh) (some d) (some v) g1 (Same.refl _) (fun _ => Same.refl _) (fun a _ o e => e) ⟨d, v, rfl, rfl, h1⟩, h2, fun a => ?_⟩
  have := q.fit a
  simp only [List.count_append] at this ⊢
  omega
theorem set_self {α : Type} {l : List α} {i : Nat} {x : α} (h : l[i]? = some x) : l.set i x = l := by
  apply List.ext_getElem?
  intro j
  by_cases hj : i = j
  · subst hj
    obtain ⟨hl, _⟩ := List.getElem?_eq_some_iff.mp h
    rw [List.getElem?_set_self hl, h]
  · rw [List.getElem?_set_ne hj]
theorem Rel.take {i : Nat} {sh : Sh} (r : Rel M B Hb Γ E σ T H) (h : Γ[i]? = some (some sh)) : ∃ d v, E[i]? = some (some d) ∧ σ[i]? = some (some v) ∧ Rel M B Hb (Γ.set i none) E σ ((sh, d, v) :: T) H := by
  obtain ⟨Hs, f1, f2, q⟩ := r
  have hi : i < Γ.length := (List.getElem?_eq_some_iff.mp h).1
  obtain ⟨A, f, C, e1, ⟨g, e, x, z1, z2, z3, z4⟩, k⟩ := q.slo.put hi
  subst e1
  rw [h] at z1; cases z1
  obtain ⟨d, v, y1, y2, rs⟩ := z4
  subst y1; subst y2
  refine ⟨d, v, z2, z3, Hs, A ++ [] ++ C, f ++ f2, q.low, q.dom, q.bas, q.sub, ?_, ⟨f, f2, rfl, rs, q.tmp⟩, fun a => ?_⟩
  · have := k Hs H none (some d) (some v) [] (Same.refl _) (fun _ => Same.refl _) (fun a _ o e => e) rfl
    rw [set_self z2, set_self z3] at this
    exact this
  · have := q.fit a
    simp only [List.count_append, List.append_nil] at this ⊢
    omega
/-- a dead slot may bear anything -/
theorem Slots.dead : ∀ {Γ : Gm} {E : En} {σ : Sg} {fp : Fp} {i : Nat} {e : Option D} {x : Option V}, Slots M Hs H Γ E σ fp → Γ[i]? = some none → Slots M Hs H Γ (E.set i e) (σ.set i x) fp
  | [], _, _, _, _, _, _, _, e => by simp at e
  | g :: Γ, E, σ, fp, 0, e', x', h, e => by
    obtain ⟨e0, E', x, σ', f1, f2, e1, e2, e3, h1, h2⟩ := h
    subst e1; subst e2; subst e3
    obtain rfl : g = none := by simpa using e
    exact ⟨e', E', x', σ', f1, f2, rfl, rfl, rfl, h1, h2⟩
  | g :: Γ, E, σ, fp, i + 1, e', x', h, e => by
    obtain ⟨e0, E', x, σ', f1, f2, e1, e2, e3, h1, h2⟩ := h
    subst e1; subst e2; subst e3
    exact ⟨e0, E'.set i e', x, σ'.set i x', f1, f2, by simp, by simp, rfl, h1, Slots.dead h2 (by simpa using e)⟩
end
end Bd

set_option Elab.async false
set_option linter.all false
set_option maxRecDepth 100000
set_option maxHeartbeats 1000000
namespace Bd
open PySem PySem.Spec PyProof.Rows L2

/-! ### slots may be known less -/
def wkS (g g' : Option Sh) : Bool := match g' with
  | none => true
  | some k => match g with
    | none => false
    | some sh => decide (sh = k) || (sh.noB && decide (k = .s))
def wk : Gm → Gm → Bool
  | [], [] => true
  | g :: Γ, g' :: Γ' => wkS g g' && wk Γ Γ'
  | _, _ => false
theorem wk_len : ∀ {Γ Γ' : Gm}, wk Γ Γ' = true → Γ.length = Γ'.length
  | [], [], _ => rfl
  | [], _ :: _, h => absurd (show false = true from h) Bool.false_ne_true
  | _ :: _, [], h => absurd (show false = true from h) Bool.false_ne_true
  | _ :: _, _ :: _, h => by
    have h' := (Bool.and_eq_true_iff.mp h).2
    simp [wk_len h']
theorem wk_at : ∀ {Γ Γ' : Gm} {i : Nat} {g g' : Option Sh}, wk Γ Γ' = true → Γ[i]? = some g → Γ'[i]? = some g' → wkS g g' = true
  | [], [], _, _, _, _, e, _ => by simp at e
  | [], _ :: _, _, _, _, h, _, _ => absurd (show false = true from h) Bool.false_ne_true
  | _ :: _, [], _, _, _, h, _, _ => absurd (show false = true from h) Bool.false_ne_true
  | a :: _, b :: _, 0, g, g', h, e1, e2 => by
    simp at e1 e2; subst e1; subst e2
    exact (Bool.and_eq_true_iff.mp h).1
  | a :: _, b :: _, i + 1, g, g', h, e1, e2 => wk_at (Bool.and_eq_true_iff.mp h).2 (by simpa using e1) (by simpa using e2)
theorem wk_refl : ∀ (Γ : Gm), wk Γ Γ = true
  | [] => rfl
  | none :: Γ => by show (true && wk Γ Γ) = true; rw [wk_refl Γ]; rfl
  | some sh :: Γ => by
    show (wkS (some sh) (some sh) && wk Γ Γ) = true
    rw [wk_refl Γ]; simp [wkS]
section
variable {M : Mx} {B Hb H : Hp} {Γ Γ' : Gm} {E : En} {σ : Sg} {T : Tm}
theorem Rel.kill {i : Nat} (r : Rel M B Hb Γ E σ T H) (hi : i < Γ.length) : Rel M B Hb (Γ.set i none) E σ T H := by
  cases e : Γ[i]? with
  | none => rw [List.getElem?_eq_none_iff] at e; omega
  | some g =>
    cases g with
    | none => rw [set_self e]; exact r
    | some sh =>
      obtain ⟨d, v, _, _, q⟩ := r.take e
      exact q.pop
theorem GB_set {i : Nat} {g : Option Sh} (h : GB Γ = true) (hg : gB g = true) : GB (Γ.set i g) = true := by
  unfold GB at h ⊢
  rw [List.all_eq_true] at h ⊢
  intro x hx
  rcases List.mem_or_eq_of_mem_set hx with hx | hx
  · exact h x hx
  · rw [hx]; exact hg
theorem Rel.shareSlot {i : Nat} {sh : Sh} (r : Rel M B Hb Γ E σ T H) (h : Γ[i]? = some (some sh)) (nb : sh.noB = true) (gb : GB Γ = true) : Rel M B Hb (Γ.set i (some .s)) E σ T H := by
  have hi : i < Γ.length := (List.getElem?_eq_some_iff.mp h).1
  obtain ⟨d, v, e1, e2, q⟩ := r.take h
  have q2 := (q.share nb).store (i := i) (by simpa using hi) (GB_set gb rfl)
  rw [List.set_set, set_self e1, set_self e2] at q2
  exact q2
theorem GB_at {i : Nat} {sh : Sh} (gb : GB Γ = true) (h : Γ[i]? = some (some sh)) : sh.noB = true := by
  unfold GB at gb
  rw [List.all_eq_true] at gb
  exact gb _ (List.mem_of_getElem? h)
theorem Rel.weak (gb : GB Γ = true) (h : wk Γ Γ' = true) (r : Rel M B Hb Γ E σ T H) : Rel M B Hb Γ' E σ T H := by
  have hl := wk_len h
  have key : ∀ n, n ≤ Γ.length → GB (Γ'.take n ++ Γ.drop n) = true ∧ Rel M B Hb (Γ'.take n ++ Γ.drop n) E σ T H := by
    intro n
    induction n with
    | zero => intro _; simpa using ⟨gb, r⟩
    | succ n ih =>
      intro hn
      obtain ⟨g0, q⟩ := ih (by omega)
      have e1 : Γ[n]? = some Γ[n] := List.getElem?_eq_getElem (by omega)
      have e2 : Γ'[n]? = some Γ'[n] := List.getElem?_eq_getElem (by omega)
      have hw := wk_at h e1 e2
      have ht : (Γ'.take n).length = n := by rw [List.length_take]; omega
      have e3 : (Γ'.take n ++ Γ.drop n)[n]? = some Γ[n] := by
        rw [List.getElem?_append_right (by omega), ht, Nat.sub_self, List.getElem?_drop, Nat.add_zero, e1]
      have e4 : ∀ g, Γ'[n]? = some g → (Γ'.take n ++ Γ.drop n).set n g = Γ'.take (n + 1) ++ Γ.drop (n + 1) := fun g eg => by
        have h0 : (Γ.drop n).set 0 g = g :: Γ.drop (n + 1) := by
          rw [show Γ.drop n = Γ[n] :: Γ.drop (n + 1) from List.drop_eq_getElem_cons (by omega)]
          rfl
        rw [List.set_append_right _ _ (by omega), ht, Nat.sub_self, List.take_add_one, eg, h0]
        simp
      cases eg : Γ'[n]'(by omega) with
      | none =>
        rw [eg] at e2
        rw [← e4 none e2]
        exact ⟨GB_set g0 rfl, q.kill (by rw [List.length_append, ht, List.length_drop]; omega)⟩
      | some k =>
        rw [eg] at e2 hw
        rw [← e4 (some k) e2]
        cases ef : Γ[n]'(by omega) with
        | none => rw [ef] at hw; exact absurd (show false = true from hw) Bool.false_ne_true
        | some sh =>
          rw [ef] at hw e3
          have hw' : (decide (sh = k) || (sh.noB && decide (k = .s))) = true := hw
          rcases Bool.or_eq_true_iff.mp hw' with hw' | hw'
          · have : sh = k := of_decide_eq_true hw'
            subst this
            rw [set_self e3]; exact ⟨g0, q⟩
          · obtain ⟨h1, h2⟩ := Bool.and_eq_true_iff.mp hw'
            have : k = .s := of_decide_eq_true h2
            subst this
            exact ⟨GB_set g0 rfl, q.shareSlot e3 h1 g0⟩
  have := (key Γ.length (Nat.le_refl _)).2
  rw [List.drop_length, List.append_nil, List.take_of_length_le (by omega)] at this
  exact this
theorem Rel.alone {t : Sh × D × V} (r : Rel M B Hb Γ E σ (t :: T) H) : Rel M B Hb [] [] [] [t] H := by
  obtain ⟨Hs, f1, f2, q⟩ := r
  obtain ⟨sh, d, v⟩ := t
  obtain ⟨g1, g2, e, h1, h2⟩ := q.tmp
  subst e
  refine ⟨Hs, [], g1, q.low, q.dom, q.bas, q.sub, ⟨rfl, rfl, rfl⟩, ⟨g1, [], by simp, h1, rfl⟩, fun a => ?_⟩
  have := q.fit a
  simp only [List.count_append, List.count_nil] at this ⊢
  omega
theorem Rel.bas (r : Rel M B Hb Γ E σ T H) : Same B H := let ⟨_, _, _, q⟩ := r; q.bas
theorem Rel.drops : ∀ {L : Tm}, Rel M B Hb Γ E σ (L ++ T) H → Rel M B Hb Γ E σ T H
  | [], r => r
  | _ :: L, r => Rel.drops (L := L) r.pop
end

/-- an exception: its class by name, its fields -/
def XRel (M : Mx) (cls : Value) (dd : Option Addr) (c : Str) (ns : List Str) (ds : List D) (H : Hp) : Prop :=
  ∃ C, cls = .ref C ∧ M.mg c = some (.ref C) ∧ (ns = [] → dd = none) ∧ (ns ≠ [] → ∃ x fv, dd = some x ∧ H x = some (.xd fv) ∧ ∀ f d, (ns.zip ds).lookup f = some d → ∃ v, fv.lookup f = some v ∧ Sc d v)

/-! ### the readings -/
structure Ct where
  B : Hp
  Hb : Hp
  W : WX
  gx : Gm
  gb : Gm
  gc : Gm
  τ : Sh
abbrev Cx.m (X : Cx) : Mx := ⟨X.K, X.mg⟩
def rdE (X : Cx) (c : Ct) (Γ : Gm) (m : En → R D) (Γ' : Gm) (τ : Sh) : TE := fun σ H Q => ∃ E T, Rel (Cx.m X) c.B c.Hb Γ E σ T H ∧ (match m E with
  | .ok d => ∀ v H', Same H H' → Rel (Cx.m X) c.B c.Hb Γ' E σ ((τ, d, v) :: T) H' → Q v H'
  | .exn n ns ds => ∀ cls dd H', XRel (Cx.m X) cls dd n ns ds H' → Rel (Cx.m X) c.B c.Hb c.gx E σ T H' → c.W cls dd σ H'
  | .bad => False)
def rdT (X : Cx) (c : Ct) (Γ : Gm) (m : En → R Bool) (Γ' : Gm) : TT := fun σ H Q => ∃ E T, Rel (Cx.m X) c.B c.Hb Γ E σ T H ∧ (match m E with
  | .ok b => ∀ H', Same H H' → Rel (Cx.m X) c.B c.Hb Γ' E σ T H' → Q b H'
  | .exn n ns ds => ∀ cls dd H', XRel (Cx.m X) cls dd n ns ds H' → Rel (Cx.m X) c.B c.Hb c.gx E σ T H' → c.W cls dd σ H'
  | .bad => False)
def rdA (X : Cx) (c : Ct) (Γ : Gm) (m : En → R (List D)) (Γ' : Gm) (τs : List Sh) : TA := fun σ H Q => ∃ E T, Rel (Cx.m X) c.B c.Hb Γ E σ T H ∧ (match m E with
  | .ok ds => ∀ (ts : Tm) H', Same H H' → ts.map (·.1) = τs → ts.map (·.2.1) = ds → Rel (Cx.m X) c.B c.Hb Γ' E σ (ts.reverse ++ T) H' → Q (ts.map (·.2.2)) H'
  | .exn n ns ds => ∀ cls dd H', XRel (Cx.m X) cls dd n ns ds H' → Rel (Cx.m X) c.B c.Hb c.gx E σ T H' → c.W cls dd σ H'
  | .bad => False)
inductive Out where
  | nx (E : En) | rt (d : D) | bk (E : En) | ct (E : En) | exn (c : Str) (ns : List Str) (ds : List D) (E : En) | bad
def rdS (X : Cx) (c : Ct) (Γ : Gm) (m : En → Out) (Γ' : Gm) : TS := fun D σ H => ∃ E T, TB T = true ∧ Rel (Cx.m X) c.B c.Hb Γ E σ T H ∧ (match m E with
  | .nx E' => ∀ σ' H', Rel (Cx.m X) c.B c.Hb Γ' E' σ' T H' → D.nx σ' H'
  | .rt d => ∀ v H', Rel (Cx.m X) c.B c.Hb [] [] [] [(c.τ, d, v)] H' → D.rt v H'
  | .bk E' => ∀ σ' H', Rel (Cx.m X) c.B c.Hb c.gb E' σ' T H' → D.bk σ' H'
  | .ct E' => ∀ σ' H', Rel (Cx.m X) c.B c.Hb c.gc E' σ' T H' → D.ct σ' H'
  | .exn n ns ds E' => ∀ cls dd σ' H', XRel (Cx.m X) cls dd n ns ds H' → Rel (Cx.m X) c.B c.Hb c.gx E' σ' T H' → c.W cls dd σ' H'
  | .bad => False)

def SE (X : Cx) (c : Ct) (Γ : Gm) (e : Expr) (m : En → R D) (Γ' : Gm) (τ : Sh) : Prop := PE X e (rdE X c Γ m Γ' τ)
def ST (X : Cx) (c : Ct) (Γ : Gm) (e : Expr) (m : En → R Bool) (Γ' : Gm) : Prop := PT X e (rdT X c Γ m Γ')
def SW (X : Cx) (c : Ct) (Γ : Gm) (e : Expr) (m : En → R Bool) (Γ' : Gm) : Prop := PW X e (rdT X c Γ m Γ')
def SA (X : Cx) (c : Ct) (Γ : Gm) (e : List Expr) (m : En → R (List D)) (Γ' : Gm) (τs : List Sh) : Prop := PA X e (rdA X c Γ m Γ' τs)
def SS (X : Cx) (c : Ct) (Γ : Gm) (st : Stmt) (m : En → Out) (Γ' : Gm) : Prop := PS X st (rdS X c Γ m Γ')
def SSs (X : Cx) (c : Ct) (Γ : Gm) (st : List Stmt) (m : En → Out) (Γ' : Gm) : Prop := PSs X st (rdS X c Γ m Γ')

theorem PE.mono {X : Cx} {e : Expr} {t t' : TE} (h : PE X e t) (k : ∀ σ H Q, t' σ H Q → t σ H Q) : PE X e t' := ⟨fun pins s σ H Q I q => h.run pins s σ H Q I (k σ H Q q)⟩
theorem PT.mono {X : Cx} {e : Expr} {t t' : TT} (h : PT X e t) (k : ∀ σ H Q, t' σ H Q → t σ H Q) : PT X e t' := ⟨fun pins s σ H Q I q => h.run pins s σ H Q I (k σ H Q q)⟩
theorem PW.mono {X : Cx} {e : Expr} {t t' : TT} (h : PW X e t) (k : ∀ σ H Q, t' σ H Q → t σ H Q) : PW X e t' := ⟨fun wh pins s σ H Q I q => h.run wh pins s σ H Q I (k σ H Q q)⟩
theorem PA.mono {X : Cx} {e : List Expr} {t t' : TA} (h : PA X e t) (k : ∀ σ H Q, t' σ H Q → t σ H Q) : PA X e t' := ⟨fun pos pins s σ H Q I q => h.run pos pins s σ H Q I (k σ H Q q)⟩
theorem PS.mono {X : Cx} {e : Stmt} {t t' : TS} (h : PS X e t) (k : ∀ D σ H, t' D σ H → t D σ H) : PS X e t' := ⟨fun pins s σ H D I q => h.run pins s σ H D I (k D σ H q)⟩
theorem PSs.mono {X : Cx} {e : List Stmt} {t t' : TS} (h : PSs X e t) (k : ∀ D σ H, t' D σ H → t D σ H) : PSs X e t' := ⟨fun pins s σ H D I q => h.run pins s σ H D I (k D σ H q)⟩

theorem rdT.go {X : Cx} {c : Ct} {m : En → R Bool} {Γ' : Gm} {E : En} {T : Tm} {σ : Sg} {H H1 : Hp} {Q : Bool → Hp → Prop} (s : Same H H1) (k : match m E with
  | .ok b => ∀ H', Same H H' → Rel (Cx.m X) c.B c.Hb Γ' E σ T H' → Q b H'
  | .exn n ns ds => ∀ cls dd H', XRel (Cx.m X) cls dd n ns ds H' → Rel (Cx.m X) c.B c.Hb c.gx E σ T H' → c.W cls dd σ H'
  | .bad => False) : match m E with
  | .ok b => ∀ H', Same H1 H' → Rel (Cx.m X) c.B c.Hb Γ' E σ T H' → Q b H'
  | .exn n ns ds => ∀ cls dd H', XRel (Cx.m X) cls dd n ns ds H' → Rel (Cx.m X) c.B c.Hb c.gx E σ T H' → c.W cls dd σ H'
  | .bad => False := by
  revert k
  cases m E <;> intro k
  · exact fun H' s2 r => k H' (s.trans s2) r
  · exact k
  · exact k
theorem rdE.go {X : Cx} {c : Ct} {m : En → R D} {Γ' : Gm} {τ : Sh} {E : En} {T : Tm} {σ : Sg} {H H1 : Hp} {Q : VK} (s : Same H H1) (k : match m E with
  | .ok d => ∀ v H', Same H H' → Rel (Cx.m X) c.B c.Hb Γ' E σ ((τ, d, v) :: T) H' → Q v H'
  | .exn n ns ds => ∀ cls dd H', XRel (Cx.m X) cls dd n ns ds H' → Rel (Cx.m X) c.B c.Hb c.gx E σ T H' → c.W cls dd σ H'
  | .bad => False) : match m E with
  | .ok d => ∀ v H', Same H1 H' → Rel (Cx.m X) c.B c.Hb Γ' E σ ((τ, d, v) :: T) H' → Q v H'
  | .exn n ns ds => ∀ cls dd H', XRel (Cx.m X) cls dd n ns ds H' → Rel (Cx.m X) c.B c.Hb c.gx E σ T H' → c.W cls dd σ H'
  | .bad => False := by
  revert k
  cases m E <;> intro k
  · exact fun v H' s2 r => k v H' (s.trans s2) r
  · exact k
  · exact k

/-! ### expressions: constants, names -/
section
variable {X : Cx} {c : Ct} {Γ Γ1 Γ2 Γ3 : Gm} {a b : Expr} {ma mb : En → R D} {τ τ1 τ2 : Sh} {pos : Pos}
def eC (d : D) : En → R D := fun _ => .ok d
theorem se_int {i : Int} {j} : SE X c Γ (.Constant (.int i) j pos) (eC (.int i)) Γ .sc := PE.mono pe_int fun σ H Q ⟨E, T, r, k⟩ => k _ H (Same.refl _) (r.psc rfl)
theorem se_bl {i : Bool} {j} : SE X c Γ (.Constant (.bool i) j pos) (eC (.bl i)) Γ .sc := PE.mono pe_bl fun σ H Q ⟨E, T, r, k⟩ => k _ H (Same.refl _) (r.psc rfl)
theorem se_non {j} : SE X c Γ (.Constant .none j pos) (eC .non) Γ .sc := PE.mono pe_non fun σ H Q ⟨E, T, r, k⟩ => k _ H (Same.refl _) (r.psc rfl)
theorem se_str {i : Str} {j} : SE X c Γ (.Constant (.str i) j pos) (eC (.str i)) Γ .sc := PE.mono pe_str fun σ H Q ⟨E, T, r, k⟩ => k _ H (Same.refl _) (r.psc rfl)
def eV (i : Nat) : En → R D := fun E => match E[i]? with
  | some (some d) => .ok d
  | _ => .bad
theorem eV_at {i : Nat} {E : En} {d : D} (h : E[i]? = some (some d)) : eV i E = .ok d := by unfold eV; rw [h]
/-- a name, read -/
theorem se_var (i : Nat) {x : Str} {sh : Sh} (hΓ : Γ[i]? = some (some sh) := by rfl) (hN : X.N[i]? = some x := by rfl) (hv : Vis X.env.scope x := by first | exact Or.inl rfl | exact Or.inr (Or.inl rfl) | exact Or.inr (Or.inr rfl)) (hd : (x == ("__debug__" : Str)) = false := by decide)
    (hcd : (x == ("__classdict__" : Str)) = false := by decide) : SE X c Γ (.Name x pos) (eV i) Γ .b := PE.mono (pe_var hN hv hd hcd) fun σ H Q ⟨E, T, r, k⟩ => by
  obtain ⟨d, v, e1, e2, rp⟩ := r.slot hΓ
  rw [eV_at e1] at k
  exact ⟨v, e2, k v H (Same.refl _) (r.pb rp)⟩
/-- .. of a shared or a scalar slot, as it is -/
theorem se_varS (i : Nat) {x : Str} (hΓ : Γ[i]? = some (some .s) := by rfl) (hN : X.N[i]? = some x := by rfl) (hv : Vis X.env.scope x := by first | exact Or.inl rfl | exact Or.inr (Or.inl rfl) | exact Or.inr (Or.inr rfl)) (hd : (x == ("__debug__" : Str)) = false := by decide)
    (hcd : (x == ("__classdict__" : Str)) = false := by decide) : SE X c Γ (.Name x pos) (eV i) Γ .s := PE.mono (pe_var hN hv hd hcd) fun σ H Q ⟨E, T, r, k⟩ => by
  obtain ⟨Hs, f1, f2, q⟩ := r
  obtain ⟨d, v, f, e1, e2, rs, _⟩ := q.slo.get hΓ
  rw [eV_at e1] at k
  exact ⟨v, e2, k v H (Same.refl _) ⟨Hs, f1, f2, q.low, q.dom, q.bas, q.sub, q.slo, ⟨[], f2, rfl, ⟨rs.1, rfl⟩, q.tmp⟩, q.fit⟩⟩
theorem se_varC (i : Nat) {x : Str} (hΓ : Γ[i]? = some (some .sc) := by rfl) (hN : X.N[i]? = some x := by rfl) (hv : Vis X.env.scope x := by first | exact Or.inl rfl | exact Or.inr (Or.inl rfl) | exact Or.inr (Or.inr rfl)) (hd : (x == ("__debug__" : Str)) = false := by decide)
    (hcd : (x == ("__classdict__" : Str)) = false := by decide) : SE X c Γ (.Name x pos) (eV i) Γ .sc := PE.mono (pe_var hN hv hd hcd) fun σ H Q ⟨E, T, r, k⟩ => by
  obtain ⟨Hs, f1, f2, q⟩ := r
  obtain ⟨d, v, f, e1, e2, rs, _⟩ := q.slo.get hΓ
  rw [eV_at e1] at k
  exact ⟨v, e2, k v H (Same.refl _) ⟨Hs, f1, f2, q.low, q.dom, q.bas, q.sub, q.slo, ⟨[], f2, rfl, ⟨rs.1, rfl⟩, q.tmp⟩, q.fit⟩⟩
/-- .. shared from here on -/
theorem se_varG (i : Nat) {x : Str} {sh : Sh} (hΓ : Γ[i]? = some (some sh) := by rfl) (gb : GB Γ = true := by rfl) (hN : X.N[i]? = some x := by rfl) (hv : Vis X.env.scope x := by first | exact Or.inl rfl | exact Or.inr (Or.inl rfl) | exact Or.inr (Or.inr rfl)) (hd : (x == ("__debug__" : Str)) = false := by decide)
    (hcd : (x == ("__classdict__" : Str)) = false := by decide) : SE X c Γ (.Name x pos) (eV i) (Γ.set i (some .s)) .s := PE.mono (pe_var hN hv hd hcd) fun σ H Q ⟨E, T, r, k⟩ => by
  have r' := r.shareSlot hΓ (GB_at gb hΓ) gb
  have hi : i < Γ.length := (List.getElem?_eq_some_iff.mp hΓ).1
  obtain ⟨Hs, f1, f2, q⟩ := r'
  obtain ⟨d, v, f, e1, e2, rs, _⟩ := q.slo.get (i := i) (sh := .s) (List.getElem?_set_self hi)
  rw [eV_at e1] at k
  exact ⟨v, e2, k v H (Same.refl _) ⟨Hs, f1, f2, q.low, q.dom, q.bas, q.sub, q.slo, ⟨[], f2, rfl, ⟨rs.1, rfl⟩, q.tmp⟩, q.fit⟩⟩
/-- .. taken out -/
theorem se_varM (i : Nat) {x : Str} {sh : Sh} (hΓ : Γ[i]? = some (some sh) := by rfl) (hN : X.N[i]? = some x := by rfl) (hv : Vis X.env.scope x := by first | exact Or.inl rfl | exact Or.inr (Or.inl rfl) | exact Or.inr (Or.inr rfl)) (hd : (x == ("__debug__" : Str)) = false := by decide)
    (hcd : (x == ("__classdict__" : Str)) = false := by decide) : SE X c Γ (.Name x pos) (eV i) (Γ.set i none) sh := PE.mono (pe_var hN hv hd hcd) fun σ H Q ⟨E, T, r, k⟩ => by
  obtain ⟨d, v, e1, e2, r'⟩ := r.take hΓ
  rw [eV_at e1] at k
  exact ⟨v, e2, k v H (Same.refl _) r'⟩
/-- what is owned is shared -/
theorem SE.sh (h : SE X c Γ a ma Γ1 τ) (nb : τ.noB = true := by rfl) : SE X c Γ a ma Γ1 .s := PE.mono h fun σ H Q ⟨E, T, r, k⟩ => ⟨E, T, r, by
  cases e : ma E with
  | ok d => rw [e] at k; exact fun v H' s r' => k v H' s (r'.share nb)
  | exn n ns ds => rw [e] at k; exact k
  | bad => rw [e] at k; exact k⟩
/-- what is owned is merely read -/
theorem SE.bo (h : SE X c Γ a ma Γ1 τ) : SE X c Γ a ma Γ1 .b := PE.mono h fun σ H Q ⟨E, T, r, k⟩ => ⟨E, T, r, by
  cases e : ma E with
  | ok d => rw [e] at k; exact fun v H' s r' => k v H' s (r'.pop.pb r'.top)
  | exn n ns ds => rw [e] at k; exact k
  | bad => rw [e] at k; exact k⟩
def asSc (d : D) : R D := if isSc d = true then .ok d else .bad
def e1 (f : D → R D) (ma : En → R D) : En → R D := fun E => (ma E).bind f
def e2 (f : D → D → R D) (ma mb : En → R D) : En → R D := fun E => (ma E).bind fun x => (mb E).bind fun y => f x y
/-- a scalar is one -/
theorem SE.asc (h : SE X c Γ a ma Γ1 τ) : SE X c Γ a (e1 asSc ma) Γ1 .sc := PE.mono h fun σ H Q ⟨E, T, r, k⟩ => ⟨E, T, r, by
  unfold e1 at k
  cases e : ma E with
  | ok d =>
    rw [e] at k
    unfold asSc at k
    dsimp only [R.bind] at k
    intro v H' s r'
    by_cases hs : isSc d = true
    · rw [if_pos hs] at k
      exact k v H' s (r'.pop.psc (r'.top.sc hs))
    · rw [if_neg hs] at k; exact k.elim
  | exn n ns ds => rw [e] at k; exact k
  | bad => rw [e] at k; exact k⟩

/-! ### operators -/
/-- one operand: rl is what HandS reads of it -/
theorem se_op1 {f : D → R D} {e : Expr} {u : V → Hp → VK → Prop}
    (hp : ∀ t, PE X a t → PE X e (fun σ H Q => t σ H fun x H1 => u x H1 Q)) (ha : SE X c Γ a ma Γ1 τ1)
    (hu : ∀ (E : En) (T : Tm) (σ : Sg) (d : D) (x : V) (H : Hp) (Q : VK), Rel (Cx.m X) c.B c.Hb Γ1 E σ ((τ1, d, x) :: T) H → (match f d with | .ok r => ∀ v H', Same H H' → Rel (Cx.m X) c.B c.Hb Γ2 E σ ((τ, r, v) :: T) H' → Q v H' | _ => False) → u x H Q)
    (nx : ∀ d n ns ds, f d ≠ .exn n ns ds) : SE X c Γ e (e1 f ma) Γ2 τ := PE.mono (hp _ ha) fun σ H Q ⟨E, T, r, k⟩ => ⟨E, T, r, by
  unfold e1 at k
  cases e : ma E with
  | ok d =>
    rw [e] at k
    dsimp only [R.bind] at k
    intro x H1 s1 r1
    refine hu E T σ d x H1 Q r1 ?_
    cases ef : f d with
    | ok y => rw [ef] at k; exact fun v H' s2 r' => k v H' (s1.trans s2) r'
    | exn n ns ds => exact absurd ef (nx d n ns ds)
    | bad => rw [ef] at k; exact k
  | exn n ns ds => rw [e] at k; exact k
  | bad => rw [e] at k; exact k⟩
theorem se_op2 {f : D → D → R D} {e : Expr} {u : R2}
    (hp : ∀ t t', PE X a t → PE X b t' → PE X e (tOp u t t')) (ha : SE X c Γ a ma Γ1 τ1) (hb : SE X c Γ1 b mb Γ2 τ2)
    (hu : ∀ (E : En) (T : Tm) (σ : Sg) (d d' : D) (x y : V) (H : Hp) (Q : VK), Rel (Cx.m X) c.B c.Hb Γ2 E σ ((τ2, d', y) :: (τ1, d, x) :: T) H →
      (match f d d' with | .ok r => ∀ v H', Same H H' → Rel (Cx.m X) c.B c.Hb Γ3 E σ ((τ, r, v) :: T) H' → Q v H' | _ => False) → u x y H Q)
    (nx : ∀ d d' n ns ds, f d d' ≠ .exn n ns ds) : SE X c Γ e (e2 f ma mb) Γ3 τ := PE.mono (hp _ _ ha hb) fun σ H Q ⟨E, T, r, k⟩ => ⟨E, T, r, by
  unfold e2 at k
  cases e : ma E with
  | ok d =>
    rw [e] at k
    dsimp only [R.bind] at k
    intro x H1 s1 r1
    refine ⟨E, _, r1, ?_⟩
    cases e' : mb E with
    | ok d' =>
      rw [e'] at k
      dsimp only [R.bind] at k
      intro y H2 s2 r2
      refine hu E T σ d d' x y H2 Q r2 ?_
      cases ef : f d d' with
      | ok y => rw [ef] at k; exact fun v H' s3 r' => k v H' ((s1.trans s2).trans s3) r'
      | exn n ns ds => exact absurd ef (nx d d' n ns ds)
      | bad => rw [ef] at k; exact k
    | exn n ns ds => rw [e'] at k; exact fun cls dd H' x r => k cls dd H' x r.pop
    | bad => rw [e'] at k; exact k
  | exn n ns ds => rw [e] at k; exact k
  | bad => rw [e] at k; exact k⟩
end
end Bd

set_option Elab.async false
set_option linter.all false
set_option maxRecDepth 100000
set_option maxHeartbeats 1000000
namespace Bd
open PySem PySem.Spec PyProof.Rows L2

/-! ### scalar operators -/
def BinOk (X : Cx) (c : Ct) (g : Value → Value → Sem Value) (f : D → D → R D) : Prop := ∃ u : R2, OpR X g u ∧ (∀ d d' n ns ds, f d d' ≠ .exn n ns ds) ∧
  ∀ (Γ : Gm) (E : En) (T : Tm) (σ : Sg) (τ1 τ2 : Sh) (d d' : D) (x y : V) (H : Hp) (Q : VK), Rel (Cx.m X) c.B c.Hb Γ E σ ((τ2, d', y) :: (τ1, d, x) :: T) H →
    (match f d d' with | .ok r => ∀ v H', Same H H' → Rel (Cx.m X) c.B c.Hb Γ E σ ((.sc, r, v) :: T) H' → Q v H' | _ => False) → u x y H Q
def dAdd : D → D → R D
  | .int i, .int j => .ok (.int (i + j))
  | .str x, .str y => if x.length + y.length ≤ 16777216 then .ok (.str (x ++ y)) else .bad
  | _, _ => .bad
def dSub : D → D → R D
  | .int i, .int j => .ok (.int (i - j))
  | _, _ => .bad
def mulC (i j : Int) : Bool := decide (i.natAbs < 2 ^ 64) || decide (j.natAbs < 2 ^ 64) || decide (i.natAbs.log2 + j.natAbs.log2 < 1000000)
def dMul : D → D → R D
  | .int i, .int j => if mulC i j = true then .ok (.int (i * j)) else .bad
  | _, _ => .bad
def divC (j : Int) : Bool := (decide (j ≠ 0) && decide (j.natAbs < 1073741824)) || (decide (0 < j) && decide (j.natAbs.log2 < 9000))
def dDiv : D → D → R D
  | .int i, .int j => if divC j = true then .ok (.int (i.fdiv j)) else .bad
  | _, _ => .bad
def dMod : D → D → R D
  | .int i, .int j => if j ≠ 0 then .ok (.int (i.fmod j)) else .bad
  | _, _ => .bad
def dPow : D → D → R D
  | .int i, .int j => if 0 ≤ j ∧ j ≤ 1000000 ∧ i.natAbs < 2 ^ 64 then .ok (.int (i ^ j.toNat)) else .bad
  | _, _ => .bad
def dLt : D → D → R D
  | .int i, .int j => .ok (.bl (decide (i < j)))
  | _, _ => .bad
def dLe : D → D → R D
  | .int i, .int j => .ok (.bl (decide (i ≤ j)))
  | _, _ => .bad
def dGt : D → D → R D
  | .int i, .int j => .ok (.bl (decide (j < i)))
  | _, _ => .bad
def dGe : D → D → R D
  | .int i, .int j => .ok (.bl (decide (j ≤ i)))
  | _, _ => .bad
def dIs : D → D → R D
  | .non, .non => .ok (.bl true)
  | _, .non => .ok (.bl false)
  | _, _ => .bad
def dIsN : D → D → R D
  | .non, .non => .ok (.bl false)
  | _, .non => .ok (.bl true)
  | _, _ => .bad
section
variable {X : Cx} {c : Ct}
theorem ob_I {g : Value → Value → Sem Value} {C : Int → Int → Prop} [∀ i j, Decidable (C i j)] {h : Int → Int → V} {h' : Int → Int → D} (f : D → D → R D) (ho : OpR X g (rI C h)) (hs : ∀ i j, Sc (h' i j) (h i j))
    (hf : ∀ i j, f (.int i) (.int j) = if C i j then .ok (h' i j) else .bad) (hn : ∀ d d', (∀ i j, ¬ (d = .int i ∧ d' = .int j)) → f d d' = .bad) : BinOk X c g f := by
  refine ⟨_, ho, fun d d' n ns ds e => ?_, fun Γ E T σ τ1 τ2 d d' x y H Q r k => ?_⟩
  · by_cases q : ∃ i j, d = .int i ∧ d' = .int j
    · obtain ⟨i, j, rfl, rfl⟩ := q
      rw [hf] at e
      split at e <;> cases e
    · rw [hn d d' fun i j z => q ⟨i, j, z⟩] at e; cases e
  · by_cases q : ∃ i j, d = .int i ∧ d' = .int j
    · obtain ⟨i, j, rfl, rfl⟩ := q
      rw [hf] at k
      by_cases hc : C i j
      · rw [if_pos hc] at k
        exact ⟨i, j, r.pop.top, r.top, hc, k _ H (Same.refl _) (r.pop.pop.psc (hs i j))⟩
      · rw [if_neg hc] at k; exact k.elim
    · rw [hn d d' fun i j z => q ⟨i, j, z⟩] at k; exact k.elim
theorem ob_I0 {g : Value → Value → Sem Value} {h : Int → Int → V} {h' : Int → Int → D} (f : D → D → R D) (ho : OpR X g (rI0 h)) (hs : ∀ i j, Sc (h' i j) (h i j))
    (hf : ∀ i j, f (.int i) (.int j) = .ok (h' i j)) (hn : ∀ d d', (∀ i j, ¬ (d = .int i ∧ d' = .int j)) → f d d' = .bad) : BinOk X c g f := by
  refine ⟨_, ho, fun d d' n ns ds e => ?_, fun Γ E T σ τ1 τ2 d d' x y H Q r k => ?_⟩
  · by_cases q : ∃ i j, d = .int i ∧ d' = .int j
    · obtain ⟨i, j, rfl, rfl⟩ := q
      rw [hf] at e; cases e
    · rw [hn d d' fun i j z => q ⟨i, j, z⟩] at e; cases e
  · by_cases q : ∃ i j, d = .int i ∧ d' = .int j
    · obtain ⟨i, j, rfl, rfl⟩ := q
      rw [hf] at k
      exact ⟨i, j, r.pop.top, r.top, k _ H (Same.refl _) (r.pop.pop.psc (hs i j))⟩
    · rw [hn d d' fun i j z => q ⟨i, j, z⟩] at k; exact k.elim
theorem ob_sub : BinOk X c (binaryOp .Sub) dSub := ob_I0 (h' := fun i j => .int (i - j)) dSub op_sub (fun _ _ => rfl) (fun _ _ => rfl) fun d d' h => by cases d <;> cases d' <;> first | rfl | exact absurd ⟨rfl, rfl⟩ (h _ _)
theorem ob_lt : BinOk X c (compareOp .Lt) dLt := ob_I0 (h' := fun i j => .bl _) dLt op_lt (fun _ _ => rfl) (fun _ _ => rfl) fun d d' h => by cases d <;> cases d' <;> first | rfl | exact absurd ⟨rfl, rfl⟩ (h _ _)
theorem ob_le : BinOk X c (compareOp .LtE) dLe := ob_I0 (h' := fun i j => .bl _) dLe op_le (fun _ _ => rfl) (fun _ _ => rfl) fun d d' h => by cases d <;> cases d' <;> first | rfl | exact absurd ⟨rfl, rfl⟩ (h _ _)
theorem ob_gt : BinOk X c (compareOp .Gt) dGt := ob_I0 (h' := fun i j => .bl _) dGt op_gt (fun _ _ => rfl) (fun _ _ => rfl) fun d d' h => by cases d <;> cases d' <;> first | rfl | exact absurd ⟨rfl, rfl⟩ (h _ _)
theorem ob_ge : BinOk X c (compareOp .GtE) dGe := ob_I0 (h' := fun i j => .bl _) dGe op_ge (fun _ _ => rfl) (fun _ _ => rfl) fun d d' h => by cases d <;> cases d' <;> first | rfl | exact absurd ⟨rfl, rfl⟩ (h _ _)
theorem ob_mod : BinOk X c (binaryOp .Mod) dMod := ob_I (h' := fun i j => .int _) dMod op_modN (fun _ _ => rfl) (fun _ _ => rfl) fun d d' h => by cases d <;> cases d' <;> first | rfl | exact absurd ⟨rfl, rfl⟩ (h _ _)
theorem ob_pow : BinOk X c (binaryOp .Pow) dPow := by
  haveI : ∀ i j, Decidable (CPow i j) := fun i j => inferInstanceAs (Decidable (0 ≤ j ∧ j ≤ 1000000 ∧ i.natAbs < 2 ^ 64))
  exact ob_I (h' := fun i j => .int _) dPow op_pow (fun _ _ => rfl) (fun i j => by
    by_cases h : CPow i j
    · rw [if_pos h]; exact if_pos (show 0 ≤ j ∧ j ≤ 1000000 ∧ i.natAbs < 2 ^ 64 from h)
    · rw [if_neg h]; exact if_neg (show ¬ (0 ≤ j ∧ j ≤ 1000000 ∧ i.natAbs < 2 ^ 64) from h)) fun d d' h => by cases d <;> cases d' <;> first | rfl | exact absurd ⟨rfl, rfl⟩ (h _ _)
theorem op_mulA : OpR X (binaryOp .Mult) (rI (fun i j => mulC i j = true) fun i j => .int (i * j)) := opI fun i j _ _ _ _ _ hc q => by
  refine mul_int q ?_
  unfold mulC at hc
  rcases Bool.or_eq_true_iff.mp hc with hc | hc
  · rcases Bool.or_eq_true_iff.mp hc with hc | hc
    · have := of_decide_eq_true hc
      exact CMul.ok (.inl (by omega))
    · have := of_decide_eq_true hc
      exact CMul.ok (.inr (by omega))
  · have h := of_decide_eq_true hc
    exact CMulW.ok h
theorem ob_mul : BinOk X c (binaryOp .Mult) dMul := ob_I (h' := fun i j => .int _) dMul op_mulA (fun _ _ => rfl) (fun _ _ => rfl) fun d d' h => by cases d <;> cases d' <;> first | rfl | exact absurd ⟨rfl, rfl⟩ (h _ _)
theorem op_divA : OpR X (binaryOp .FloorDiv) (rI (fun _ j => divC j = true) fun i j => .int (i.fdiv j)) := opI fun i j _ _ _ _ _ hc q => by
  unfold divC at hc
  rcases Bool.or_eq_true_iff.mp hc with hc | hc
  · obtain ⟨h1, h2⟩ := Bool.and_eq_true_iff.mp hc
    exact floordiv_int (of_decide_eq_true h1) q (.inl (PyProof.noPylong_small (of_decide_eq_true h2)))
  · obtain ⟨h1, h2⟩ := Bool.and_eq_true_iff.mp hc
    have h1 : (0 : Int) < j := of_decide_eq_true h1
    exact floordiv_int (by omega) q (.inl (PyProof.noPylong_of_log2 (of_decide_eq_true h2)))
theorem ob_div : BinOk X c (binaryOp .FloorDiv) dDiv := ob_I (h' := fun i j => .int _) dDiv op_divA (fun _ _ => rfl) (fun _ _ => rfl) fun d d' h => by cases d <;> cases d' <;> first | rfl | exact absurd ⟨rfl, rfl⟩ (h _ _)
theorem ob_add : BinOk X c (binaryOp .Add) dAdd := by
  refine ⟨_, op_add.or op_add_str, fun d d' n ns ds e => ?_, fun Γ E T σ τ1 τ2 d d' x y H Q r k => ?_⟩
  · cases d <;> cases d' <;> first | cases e; done | (dsimp only [dAdd] at e; split at e <;> cases e)
  · cases d with
    | int i =>
      cases d' with
      | int j => exact .inl ⟨i, j, r.pop.top, r.top, k _ H (Same.refl _) (r.pop.pop.psc rfl)⟩
      | _ => exact k.elim
    | str i =>
      cases d' with
      | str j =>
        dsimp only [dAdd] at k
        by_cases hc : i.length + j.length ≤ 16777216
        · rw [if_pos hc] at k
          exact .inr ⟨i, j, r.pop.top, r.top, by rw [sizeLine_eq]; exact hc, k _ H (Same.refl _) (r.pop.pop.psc rfl)⟩
        · rw [if_neg hc] at k; exact k.elim
      | _ => exact k.elim
    | _ => cases d' <;> exact k.elim
theorem Rep.non_iff {M : Mx} {H : Hp} {d : D} {v : V} (h : Rep M H d v) : decide (v = .non) = (match d with | .non => true | _ => false) := by
  cases d with
  | non => cases (show v = .non from h); rfl
  | bl _ => cases (show v = .bl _ from h); rfl
  | int _ => cases (show v = .int _ from h); rfl
  | str _ => cases (show v = .str _ from h); rfl
  | ty _ => cases (show v = .ty _ from h); rfl
  | lst _ => obtain ⟨a, vs, e, _⟩ := h; cases e; rfl
  | tup _ => obtain ⟨a, vs, e, _⟩ := h; cases e; rfl
  | obj _ _ _ => obtain ⟨a, _, _, vs, e, _⟩ := h; cases e; rfl
  | raw => obtain ⟨a, e⟩ := h; cases e; rfl
theorem ob_is : BinOk X c (compareOp .Is) dIs := by
  refine ⟨_, op_isN, fun d d' n ns ds e => ?_, fun Γ E T σ τ1 τ2 d d' x y H Q r k => ?_⟩
  · cases d' <;> cases d <;> cases e
  · cases d' with
    | non =>
      have e := r.pop.top.non_iff
      refine ⟨r.top, ?_⟩
      rw [e]
      cases d <;> exact k _ H (Same.refl _) (r.pop.pop.psc rfl)
    | _ => cases d <;> exact k.elim
theorem ob_isN : BinOk X c (compareOp .IsNot) dIsN := by
  refine ⟨_, op_notN, fun d d' n ns ds e => ?_, fun Γ E T σ τ1 τ2 d d' x y H Q r k => ?_⟩
  · cases d' <;> cases d <;> cases e
  · cases d' with
    | non =>
      have e := r.pop.top.non_iff
      refine ⟨r.top, ?_⟩
      rw [e]
      cases d <;> exact k _ H (Same.refl _) (r.pop.pop.psc rfl)
    | _ => cases d <;> exact k.elim

/-! ### == on data -/
mutual
def pD : D → PyData
  | .non => .none
  | .bl b => .bool b
  | .int i => .int i
  | .str x => .str x
  | .ty _ => .dict []
  | .lst xs => .list (pDs xs)
  | .tup xs => .tuple (pDs xs)
  | .obj _ _ _ => .dict []
  | .raw => .dict []
def pDs : List D → List PyData
  | [] => []
  | d :: ds => pD d :: pDs ds
end
def okD (d : D) : Bool := SeqAt.shaped (pD d)
mutual
theorem Rep.dp {M : Mx} {H : Hp} : ∀ {d : D} {v : V}, Rep M H d v → (pD d).canLay0 = true → Dp M.K H v (pD d)
  | .non, v, h, _ => by cases (show v = .non from h); exact .non
  | .bl b, v, h, _ => by cases (show v = .bl b from h); exact .bl b
  | .int b, v, h, _ => by cases (show v = .int b from h); exact .int b
  | .str b, v, h, _ => by cases (show v = .str b from h); exact .str b
  | .ty b, v, h, k => absurd (show false = true from k) Bool.false_ne_true
  | .obj _ _ _, v, h, k => absurd (show false = true from k) Bool.false_ne_true
  | .raw, v, h, k => absurd (show false = true from k) Bool.false_ne_true
  | .lst ds, v, h, k => by
    obtain ⟨a, vs, e, q, z, r⟩ := h
    subst e
    exact .lst q (Reps.dp r k)
  | .tup ds, v, h, k => by
    obtain ⟨a, vs, e, q, z, r⟩ := h
    subst e
    exact .tup q (Reps.dp r k)
theorem Reps.dp {M : Mx} {H : Hp} : ∀ {ds : List D} {vs : List V}, Reps M H ds vs → PyData.canLayAll0 (pDs ds) = true → DpAll M.K H vs (pDs ds)
  | [], vs, h, _ => by cases (show vs = [] from h); exact .nil
  | d :: ds, vs, h, k => by
    obtain ⟨v, r, e, h1, h2⟩ := h
    subst e
    have k' : ((pD d).canLay0 && PyData.canLayAll0 (pDs ds)) = true := k
    obtain ⟨k1, k2⟩ := Bool.and_eq_true_iff.mp k'
    exact .cons (Rep.dp h1 k1) (Reps.dp h2 k2)
end
def dEq (d d' : D) : R D := if okD d = true ∧ okD d' = true then .ok (.bl (PyData.eqv (pD d) (pD d'))) else .bad
def dNe (d d' : D) : R D := if okD d = true ∧ okD d' = true then .ok (.bl (!PyData.eqv (pD d) (pD d'))) else .bad
def dIn (d d' : D) : R D := match d' with
  | .lst ds => if okD d = true ∧ okD d' = true then .ok (.bl ((pDs ds).any fun z => PyData.eqv z (pD d))) else .bad
  | _ => .bad
def dNotIn (d d' : D) : R D := match d' with
  | .lst ds => if okD d = true ∧ okD d' = true then .ok (.bl (!(pDs ds).any fun z => PyData.eqv z (pD d))) else .bad
  | _ => .bad
theorem ob_eq (hu : X.A.units + 64 < cLine) : BinOk X c (compareOp .Eq) dEq := by
  refine ⟨_, op_eqD hu, fun d d' n ns ds e => (by unfold dEq at e; split at e <;> cases e), fun Γ E T σ τ1 τ2 d d' x y H Q r k => ?_⟩
  unfold dEq at k
  by_cases hc : okD d = true ∧ okD d' = true
  · rw [if_pos hc] at k
    exact ⟨_, _, r.pop.top.dp (SeqAt.canLay_of_shaped hc.1), r.top.dp (SeqAt.canLay_of_shaped hc.2), hc.1, hc.2, k _ H (Same.refl _) (r.pop.pop.psc rfl)⟩
  · rw [if_neg hc] at k; exact k.elim
theorem ob_ne (hu : X.A.units + 64 < cLine) : BinOk X c (compareOp .NotEq) dNe := by
  refine ⟨_, op_neD hu, fun d d' n ns ds e => (by unfold dNe at e; split at e <;> cases e), fun Γ E T σ τ1 τ2 d d' x y H Q r k => ?_⟩
  unfold dNe at k
  by_cases hc : okD d = true ∧ okD d' = true
  · rw [if_pos hc] at k
    exact ⟨_, _, r.pop.top.dp (SeqAt.canLay_of_shaped hc.1), r.top.dp (SeqAt.canLay_of_shaped hc.2), hc.1, hc.2, k _ H (Same.refl _) (r.pop.pop.psc rfl)⟩
  · rw [if_neg hc] at k; exact k.elim
theorem ob_in (hu : X.A.units + 65 < cLine) : BinOk X c (compareOp .In) dIn := by
  refine ⟨_, op_inD hu, fun d d' n ns ds e => ?_, fun Γ E T σ τ1 τ2 d d' x y H Q r k => ?_⟩
  · unfold dIn at e
    cases d' <;> first | cases e | (dsimp only at e; split at e <;> cases e)
  · unfold dIn at k
    cases d' with
    | lst ds =>
      dsimp only at k
      by_cases hc : okD d = true ∧ okD (.lst ds) = true
      · rw [if_pos hc] at k
        exact ⟨_, _, r.pop.top.dp (SeqAt.canLay_of_shaped hc.1), r.top.dp (SeqAt.canLay_of_shaped hc.2), hc.1, hc.2, k _ H (Same.refl _) (r.pop.pop.psc rfl)⟩
      · rw [if_neg hc] at k; exact k.elim
    | _ => exact k.elim
theorem ob_notIn (hu : X.A.units + 65 < cLine) : BinOk X c (compareOp .NotIn) dNotIn := by
  refine ⟨_, op_notInD hu, fun d d' n ns ds e => ?_, fun Γ E T σ τ1 τ2 d d' x y H Q r k => ?_⟩
  · unfold dNotIn at e
    cases d' <;> first | cases e | (dsimp only at e; split at e <;> cases e)
  · unfold dNotIn at k
    cases d' with
    | lst ds =>
      dsimp only at k
      by_cases hc : okD d = true ∧ okD (.lst ds) = true
      · rw [if_pos hc] at k
        exact ⟨_, _, r.pop.top.dp (SeqAt.canLay_of_shaped hc.1), r.top.dp (SeqAt.canLay_of_shaped hc.2), hc.1, hc.2, k _ H (Same.refl _) (r.pop.pop.psc rfl)⟩
      · rw [if_neg hc] at k; exact k.elim
    | _ => exact k.elim
end

/-! ### the rules -/
section
variable {X : Cx} {c : Ct} {Γ Γ1 Γ2 Γ3 : Gm} {a b : Expr} {ma mb : En → R D} {τ τ1 τ2 : Sh} {pos : Pos}
theorem se_bin {op : Operator} {f : D → D → R D} (ho : BinOk X c (binaryOp op) f) (ha : SE X c Γ a ma Γ1 τ1) (hb : SE X c Γ1 b mb Γ2 τ2) : SE X c Γ (.BinOp a op b pos) (e2 f ma mb) Γ2 .sc := by
  obtain ⟨u, h1, h2, h3⟩ := ho
  exact se_op2 (u := u) (fun t t' p p' => pe_op h1 p p') ha hb (fun E T σ d d' x y H Q r k => h3 _ E T σ _ _ d d' x y H Q r k) h2
theorem se_cmp {op : CmpOp} {f : D → D → R D} (ho : BinOk X c (compareOp op) f) (ha : SE X c Γ a ma Γ1 τ1) (hb : SE X c Γ1 b mb Γ2 τ2) (hm : behindInMarks op b = false := by first | exact nomark _ | rfl) : SE X c Γ (.Compare a [op] [b] pos) (e2 f ma mb) Γ2 .sc := by
  obtain ⟨u, h1, h2, h3⟩ := ho
  exact se_op2 (u := u) (fun t t' p p' => pe_cmpR h1 p p' hm) ha hb (fun E T σ d d' x y H Q r k => h3 _ E T σ _ _ d d' x y H Q r k) h2
def dB : D → R Bool
  | .bl b => .ok b
  | _ => .bad
def tE (m : En → R D) : En → R Bool := fun E => (m E).bind dB
/-- a value as a test, by what is read of it -/
theorem rdT_of {t : TE} {m : En → R D} (h : ∀ σ H Q, rdE X c Γ m Γ1 τ σ H Q → t σ H Q) (σ : Sg) (H : Hp) (Q : Bool → Hp → Prop) (q : rdT X c Γ (tE m) Γ1 σ H Q) : tTest t σ H Q := by
  refine h σ H _ ?_
  obtain ⟨E, T, r, k⟩ := q
  refine ⟨E, T, r, ?_⟩
  unfold tE at k
  cases e : m E with
  | ok d =>
    rw [e] at k
    dsimp only [R.bind] at k
    intro v H' s r'
    cases d with
    | bl b => exact ⟨b, r'.top, k H' s r'.pop⟩
    | _ => exact k.elim
  | exn n ns ds => rw [e] at k; exact k
  | bad => rw [e] at k; exact k
theorem st_cmp {op : CmpOp} {f : D → D → R D} (ho : BinOk X c (compareOp op) f) (ha : SE X c Γ a ma Γ1 τ1) (hb : SE X c Γ1 b mb Γ2 τ2) (hm : behindInMarks op b = false := by first | exact nomark _ | rfl) : ST X c Γ (.Compare a [op] [b] pos) (tE (e2 f ma mb)) Γ2 := by
  obtain ⟨u, h1, h2, h3⟩ := ho
  refine PT.mono (pt_cmpR h1 ha hb hm) fun σ H Q q => rdT_of (τ := .sc) (t := tOp u _ _) (fun σ H Q q => ?_) σ H Q q
  obtain ⟨E, T, r, k⟩ := q
  refine ⟨E, T, r, ?_⟩
  unfold e2 at k
  cases e : ma E with
  | ok d =>
    rw [e] at k
    dsimp only [R.bind] at k
    intro x H1 s1 r1
    refine ⟨E, _, r1, ?_⟩
    cases e' : mb E with
    | ok d' =>
      rw [e'] at k
      dsimp only [R.bind] at k
      intro y H2 s2 r2
      refine h3 _ E T σ _ _ d d' x y H2 Q r2 ?_
      cases ef : f d d' with
      | ok y => rw [ef] at k; exact fun v H' s3 r' => k v H' ((s1.trans s2).trans s3) r'
      | exn n ns ds => exact absurd ef (h2 d d' n ns ds)
      | bad => rw [ef] at k; exact k
    | exn n ns ds => rw [e'] at k; exact fun cls dd H' x r => k cls dd H' x r.pop
    | bad => rw [e'] at k; exact k
  | exn n ns ds => rw [e] at k; exact k
  | bad => rw [e] at k; exact k
/-- a call, a name, an item .. as a test -/
theorem st_val (ha : SE X c Γ a ma Γ1 τ) (he : ∀ whole, isTrue a X.env whole = (do let v ← whole; standAt a.pos; holding [v] (truthy v)) := by intro _; rfl) : ST X c Γ a (tE ma) Γ1 :=
  PT.mono (pt_val ha he) fun σ H Q q => rdT_of (τ := τ) (fun _ _ _ q => q) σ H Q q
def tAndM (m m' : En → R Bool) : En → R Bool := fun E => (m E).bind fun b => if b = true then m' E else .ok false
def tOrM (m m' : En → R Bool) : En → R Bool := fun E => (m E).bind fun b => if b = true then .ok true else m' E
def tNotM (m : En → R Bool) : En → R Bool := fun E => (m E).bind fun b => .ok (!b)
variable {m m' : En → R Bool} {rest : List Expr}
theorem st_not (h : ST X c Γ a m Γ1) : ST X c Γ (.UnaryOp .Not a pos) (tNotM m) Γ1 := PT.mono (pt_not h) fun σ H Q ⟨E, T, r, k⟩ => ⟨E, T, r, by
  unfold tNotM at k
  cases e : m E <;> (rw [e] at k; exact k)⟩
theorem sw_and1 (h : ST X c Γ a m Γ1) : SW X c Γ (.BoolOp .And [a] pos) m Γ1 := pw_and1 h
theorem sw_or1 (h : ST X c Γ a m Γ1) : SW X c Γ (.BoolOp .Or [a] pos) m Γ1 := pw_or1 h
theorem sw_and (h : ST X c Γ a m Γ) (h' : SW X c Γ (.BoolOp .And (b :: rest) pos) m' Γ) : SW X c Γ (.BoolOp .And (a :: b :: rest) pos) (tAndM m m') Γ := PW.mono (pw_and h h') fun σ H Q ⟨E, T, r, k⟩ => ⟨E, T, r, by
  unfold tAndM at k
  cases e : m E with
  | ok b =>
    rw [e] at k
    dsimp only [R.bind] at k
    intro H1 s1 r1
    cases b with
    | true => exact ⟨E, T, r1, rdT.go s1 k⟩
    | false => exact k H1 s1 r1
  | exn n ns ds => rw [e] at k; exact k
  | bad => rw [e] at k; exact k⟩
theorem sw_or (h : ST X c Γ a m Γ) (h' : SW X c Γ (.BoolOp .Or (b :: rest) pos) m' Γ) : SW X c Γ (.BoolOp .Or (a :: b :: rest) pos) (tOrM m m') Γ := PW.mono (pw_or h h') fun σ H Q ⟨E, T, r, k⟩ => ⟨E, T, r, by
  unfold tOrM at k
  cases e : m E with
  | ok b =>
    rw [e] at k
    dsimp only [R.bind] at k
    intro H1 s1 r1
    cases b with
    | false => exact ⟨E, T, r1, rdT.go s1 k⟩
    | true => exact k H1 s1 r1
  | exn n ns ds => rw [e] at k; exact k
  | bad => rw [e] at k; exact k⟩
theorem SW.t (h : SW X c Γ a m Γ1) : ST X c Γ a m Γ1 := PW.pt h
/-- and, or, not as values -/
def eAnd (m m' : En → R D) : En → R D := fun E => (m E).bind fun d => match d with | .bl true => m' E | .bl false => .ok (.bl false) | _ => .bad
def eOr (m m' : En → R D) : En → R D := fun E => (m E).bind fun d => match d with | .bl true => .ok (.bl true) | .bl false => m' E | _ => .bad
def dNot : D → R D
  | .bl b => .ok (.bl (!b))
  | _ => .bad
theorem se_one {op} (h : SE X c Γ a ma Γ1 τ) : SE X c Γ (.BoolOp op [a] pos) ma Γ1 τ := pe_one h
theorem se_and (h : SE X c Γ a ma Γ τ) (h' : SE X c Γ (.BoolOp .And (b :: rest) pos) mb Γ .sc) : SE X c Γ (.BoolOp .And (a :: b :: rest) pos) (eAnd ma mb) Γ .sc := PE.mono (pe_and h h') fun σ H Q ⟨E, T, r, k⟩ => ⟨E, T, r, by
  unfold eAnd at k
  cases e : ma E with
  | ok d =>
    rw [e] at k
    dsimp only [R.bind] at k
    intro v H1 s1 r1
    cases d with
    | bl b =>
      refine ⟨b, r1.top, ?_⟩
      cases b with
      | true => exact iteT ⟨E, T, r1.pop, rdE.go s1 k⟩
      | false => exact iteF (k _ H1 s1 (r1.pop.psc rfl))
    | _ => exact k.elim
  | exn n ns ds => rw [e] at k; exact k
  | bad => rw [e] at k; exact k⟩
theorem se_or (h : SE X c Γ a ma Γ τ) (h' : SE X c Γ (.BoolOp .Or (b :: rest) pos) mb Γ .sc) : SE X c Γ (.BoolOp .Or (a :: b :: rest) pos) (eOr ma mb) Γ .sc := PE.mono (pe_or h h') fun σ H Q ⟨E, T, r, k⟩ => ⟨E, T, r, by
  unfold eOr at k
  cases e : ma E with
  | ok d =>
    rw [e] at k
    dsimp only [R.bind] at k
    intro v H1 s1 r1
    cases d with
    | bl b =>
      refine ⟨b, r1.top, ?_⟩
      cases b with
      | false => exact iteF ⟨E, T, r1.pop, rdE.go s1 k⟩
      | true => exact iteT (k _ H1 s1 (r1.pop.psc rfl))
    | _ => exact k.elim
  | exn n ns ds => rw [e] at k; exact k
  | bad => rw [e] at k; exact k⟩
theorem se_not (h : SE X c Γ a ma Γ1 τ) : SE X c Γ (.UnaryOp .Not a pos) (e1 dNot ma) Γ1 .sc := by
  refine se_op1 (u := fun x H Q => ∃ k, x = .bl k ∧ Q (.bl (!k)) H) (fun t p => pe_not p) h (fun E T σ d x H Q r k => ?_) (fun d n ns ds e => by cases d <;> cases e)
  cases d with
  | bl b => exact ⟨b, r.top, k _ H (Same.refl _) (r.pop.psc rfl)⟩
  | _ => exact k.elim
def dNeg : D → R D
  | .int i => .ok (.int (-i))
  | _ => .bad
theorem se_neg (h : SE X c Γ a ma Γ1 τ) : SE X c Γ (.UnaryOp .USub a pos) (e1 dNeg ma) Γ1 .sc := by
  refine se_op1 (fun t p => pe_un un_neg p) h (fun E T σ d x H Q r k => ?_) (fun d n ns ds e => by cases d <;> cases e)
  cases d with
  | int i => exact ⟨i, r.top, k _ H (Same.refl _) (r.pop.psc rfl)⟩
  | _ => exact k.elim
end
end Bd

set_option Elab.async false
set_option linter.all false
set_option maxRecDepth 100000
set_option maxHeartbeats 1000000
namespace Bd
open PySem PySem.Spec PyProof.Rows L2

/-! ### held values together -/
section
variable {M : Mx} {B Hb Hs H H' : Hp} {Γ : Gm} {E : En} {σ : Sg} {T : Tm}
theorem Tmps.app : ∀ {L T : Tm} {fp : Fp}, Tmps M Hs H (L ++ T) fp → ∃ f1 f2, fp = f1 ++ f2 ∧ Tmps M Hs H L f1 ∧ Tmps M Hs H T f2
  | [], T, fp, h => ⟨[], fp, rfl, rfl, h⟩
  | (sh, d, v) :: L, T, fp, h => by
    obtain ⟨f1, f2, e, h1, h2⟩ := h
    obtain ⟨g1, g2, e', h3, h4⟩ := Tmps.app h2
    subst e'; subst e
    exact ⟨f1 ++ g1, g2, by rw [List.append_assoc], ⟨f1, g1, rfl, h1, h3⟩, h4⟩
theorem Tmps.repL {e : Sh} : ∀ {ts : Tm} {f : Fp}, Tmps M Hs H ts.reverse f → (∀ t ∈ ts, t.1 = e) → ∃ f', (∀ a, f'.count a = f.count a) ∧ RepL (RepS M Hs H e) (ts.map (·.2.1)) (ts.map (·.2.2)) f'
  | [], f, h, _ => ⟨[], fun a => by rw [show f = [] from h], rfl, rfl⟩
  | (sh, d, v) :: ts, f, h, k => by
    rw [List.reverse_cons] at h
    obtain ⟨f1, f2, e1, h1, g1, g2, e2, h2, e3⟩ := Tmps.app h
    subst e1; subst e2
    obtain rfl : g2 = [] := e3
    obtain ⟨f', c', r⟩ := Tmps.repL h1 fun t ht => k t (List.mem_cons_of_mem _ ht)
    have : sh = e := k (sh, d, v) List.mem_cons_self
    subst this
    exact ⟨g1 ++ f', fun a => by simp only [List.count_append, c' a, List.append_nil]; omega, v, _, g1, f', rfl, rfl, h2, r⟩
theorem Tmps.reps {G : Hp} (s : Same Hs G) : ∀ {ts : Tm} {f : Fp}, Tmps M Hs H ts.reverse f → (∀ t ∈ ts, Sh.noB t.1 = false → Same H G) → (∀ a ∈ f, ∀ o, H a = some o → G a = some o) → Reps M G (ts.map (·.2.1)) (ts.map (·.2.2))
  | [], f, h, _, _ => rfl
  | (sh, d, v) :: ts, f, h, k, q => by
    rw [List.reverse_cons] at h
    obtain ⟨f1, f2, e1, h1, g1, g2, e2, h2, e3⟩ := Tmps.app h
    subst e1; subst e2
    exact ⟨v, _, rfl, h2.rep s sh (k (sh, d, v) List.mem_cons_self) (fun a m => q a (by simp [m])), Tmps.reps s h1 (fun t ht => k t (List.mem_cons_of_mem _ ht)) (fun a m => q a (by simp [m]))⟩
/-- the arguments as they are read -/
theorem Rel.args {ts : Tm} (r : Rel M B Hb Γ E σ (ts.reverse ++ T) H) : Reps M H (ts.map (·.2.1)) (ts.map (·.2.2)) := by
  obtain ⟨Hs, f1, f2, q⟩ := r
  obtain ⟨g1, g2, e, h1, h2⟩ := Tmps.app q.tmp
  exact h1.reps q.sub (fun _ _ _ => Same.refl _) (fun a _ o e => e)
theorem RelA.fresh {f1 f2 : Fp} {p : Addr} (q : RelA M B Hb Hs Γ E σ T H f1 f2) (np : H p = none) : f2.count p = 0 ∧ f1.count p = 0 ∧ B p = none ∧ Hs p = none := by
  refine ⟨?_, ?_, ?_, ?_⟩
  · refine Nat.eq_zero_of_not_pos fun h => ?_
    exact Tmps.there q.tmp (count_mem h) np
  · refine Nat.eq_zero_of_not_pos fun h => ?_
    exact Slots.there q.slo (count_mem h) np
  · exact q.bas.free np
  · exact q.sub.free np
/-- a list of them -/
theorem Rel.packL {e : Sh} {ts : Tm} {p : Addr} (r : Rel M B Hb Γ E σ (ts.reverse ++ T) H) (k : ∀ t ∈ ts, t.1 = e) (ne : e.noB = true) (np : H p = none) (hz : ts.length ≤ sizeLine) :
    Rel M B Hb Γ E σ ((.l e, .lst (ts.map (·.2.1)), .ref p) :: T) (upd H p (.lst (ts.map (·.2.2)))) := by
  have s : Same H (upd H p (.lst (ts.map (·.2.2)))) := same_new np
  obtain ⟨Hs, f1, f2, q0⟩ := r
  obtain ⟨n2, n1, nB, nH⟩ := q0.fresh np
  have q := q0.grow s
  obtain ⟨g1, g2, e1, h1, h2⟩ := Tmps.app q.tmp
  subst e1
  obtain ⟨f', c', rl⟩ := h1.repL k
  refine ⟨Hs, f1, (p :: f') ++ g2, q.low, q.dom, q.bas, q.sub, q.slo, ⟨p :: f', g2, rfl, ⟨ne, p, _, _, f', rfl, rfl, upd_same, by simpa using hz, rl, rfl⟩, h2⟩, fun a => ?_⟩
  have fit := q.fit a
  rw [List.count_append] at fit n2 ⊢
  rw [List.count_cons, c' a]
  by_cases ha : p = a
  · subst ha
    rw [cap_one nB nH]
    simp only [beq_self_eq_true, if_true]
    omega
  · have : (p == a) = false := by simpa using ha
    simp only [this, Bool.false_eq_true, if_false]
    omega
/-- a new owned list of shared or scalar things (by what they are) -/
theorem RelA.newL {e : Sh} {ds : List D} {vs : List V} {p : Addr} {f1 f2 : Fp} (q0 : RelA M B Hb Hs Γ E σ T H f1 f2) (ne : e.noB = true) (np : H p = none) (hz : vs.length ≤ sizeLine)
    (k : RepL (RepS M Hs (upd H p (.lst vs)) e) ds vs []) : Rel M B Hb Γ E σ ((.l e, .lst ds, .ref p) :: T) (upd H p (.lst vs)) := by
  have s : Same H (upd H p (.lst vs)) := same_new np
  obtain ⟨n2, n1, nB, nH⟩ := q0.fresh np
  have q := q0.grow s
  refine ⟨Hs, f1, [p] ++ f2, q.low, q.dom, q.bas, q.sub, q.slo, ⟨[p], f2, rfl, ⟨ne, p, _, _, [], rfl, rfl, upd_same, hz, k, rfl⟩, q.tmp⟩, fun a => ?_⟩
  have fit := q.fit a
  rw [List.count_append, List.count_cons, List.count_nil]
  by_cases ha : p = a
  · subst ha
    rw [cap_one nB nH]
    simp only [beq_self_eq_true, if_true]
    omega
  · have : (p == a) = false := by simpa using ha
    simp only [this, Bool.false_eq_true, if_false]
    omega
/-- a new shared thing -/
theorem Rel.newS {d : D} {o : HO} {p : Addr} (r : Rel M B Hb Γ E σ T H) (np : H p = none)
    (k : ∀ Hs, Same Hs H → (∃ f1 f2, RelA M B Hb Hs Γ E σ T H f1 f2) → Rep M (upd Hs p o) d (.ref p)) : Rel M B Hb Γ E σ ((.s, d, .ref p) :: T) (upd H p o) := by
  have s : Same H (upd H p o) := same_new np
  obtain ⟨Hs, f1, f2, q0⟩ := r
  obtain ⟨n2, n1, nB, nH⟩ := q0.fresh np
  have q := q0.grow s
  have s2 : Same Hs (upd Hs p o) := same_new nH
  refine ⟨upd Hs p o, f1, [] ++ f2, q.low.trans s2, fun a z1 z2 => ?_, q.bas, fun b x e => ?_, q.slo.mono s2 (fun _ => Same.refl _) (fun a _ o e => e), ⟨[], f2, rfl, ⟨k Hs q0.sub ⟨f1, f2, q0⟩, rfl⟩, q.tmp.mono s2 (fun _ => Same.refl _) (fun a _ o e => e)⟩, fun a => ?_⟩
  · by_cases ha : a = p
    · subst ha; exact absurd nB z2
    · rw [upd_ne ha]; exact q.dom a z1 z2
  · by_cases hb : b = p
    · subst hb; rw [upd_same] at e ⊢; exact e
    · rw [upd_ne hb] at e ⊢; exact q0.sub b x e
  · have fit := q.fit a
    rw [List.nil_append]
    by_cases ha : a = p
    · subst ha; omega
    · have : cap B (upd Hs p o) a = cap B Hs a := by unfold cap; rw [upd_ne ha]
      omega
/-- all held values shared -/
theorem Rel.shareAll : ∀ {L L0 : Tm}, (∀ t ∈ L, Sh.noB t.1 = true) → Rel M B Hb Γ E σ (L0 ++ L ++ T) H → Rel M B Hb Γ E σ (L0 ++ L.map (fun t => (.s, t.2.1, t.2.2)) ++ T) H := by
  intro L
  induction L with
  | nil => intro L0 _ r; exact r
  | cons t L ih =>
    intro L0 k r
    obtain ⟨sh, d, v⟩ := t
    have r2 : Rel M B Hb Γ E σ ((L0 ++ [(.s, d, v)]) ++ L ++ T) H := by
      have nb : sh.noB = true := k (sh, d, v) List.mem_cons_self
      obtain ⟨Hs, f1, f2, q⟩ := r
      rw [List.append_assoc] at q
      obtain ⟨g0, g1', e, h0, h12⟩ := Tmps.app q.tmp
      obtain ⟨g1, g2, e', h1, h2⟩ := h12
      subst e'; subst e
      have fit := q.fit
      simp only [List.count_append] at fit
      have nh : ∀ a ∈ g1, B a = none ∧ Hs a = none := fun a m => cap_pos (B := B) (Hs := Hs) (by have := fit a; have := mem_count m; omega)
      have s : Same Hs (ext Hs H g1) := ext_same fun a m => (nh a m).2
      have tapp : ∀ {L T : Tm} {f g : Fp} {Hx : Hp}, Tmps M Hx H L f → Tmps M Hx H T g → Tmps M Hx H (L ++ T) (f ++ g) := by
        intro L
        induction L with
        | nil => intro T f g Hx h h'; obtain rfl : f = [] := h; exact h'
        | cons t L ih =>
          intro T f g Hx h h'
          obtain ⟨sh, d, v⟩ := t
          obtain ⟨k1, k2, e, h1, h2⟩ := h
          subst e
          exact ⟨k1, k2 ++ g, by rw [List.append_assoc], h1, ih h2 h'⟩
      refine ⟨ext Hs H g1, f1, g0 ++ ([] ++ g2), q.low.trans s, fun a z1 z2 => ?_, q.bas, ext_sub q.sub, q.slo.mono s (fun _ => Same.refl _) (fun a _ o e => e), ?_, fun a => ?_⟩
      · unfold ext
        by_cases m : a ∈ g1
        · exact absurd (nh a m).1 z2
        · rw [if_neg m]; exact q.dom a z1 z2
      · rw [List.append_assoc, List.append_assoc]
        refine tapp (h0.mono s (fun _ => Same.refl _) (fun a _ o e => e)) ⟨[], g2, rfl, ⟨?_, rfl⟩, h2.mono s (fun _ => Same.refl _) (fun a _ o e => e)⟩
        exact h1.rep s sh (fun z => by rw [nb] at z; cases z) (fun a m o e => ext_in m e)
      · simp only [List.count_append, List.count_nil]
        by_cases m : a ∈ g1
        · have h3 := fit a
          have h4 := mem_count m
          have h5 := cap_le B Hs a
          omega
        · rw [cap_ext m]
          have := fit a
          omega
    have := ih (L0 := L0 ++ [(.s, d, v)]) (fun t ht => k t (List.mem_cons_of_mem _ ht)) r2
    simpa using this
/-- behind a call whose answer is closed -/
theorem Rel.callC {τ : Sh} {d : D} {v : V} (r : Rel M B Hb Γ E σ T H) (q' : Rel M H H [] [] [] [(τ, d, v)] H') (hc : τ.closed = true) : Rel M B Hb Γ E σ ((τ, d, v) :: T) H' := by
  obtain ⟨Hs, f1, f2, q⟩ := r
  obtain ⟨Hs', f1', f2', p⟩ := q'
  obtain ⟨g1, g2, e, h1, h2⟩ := p.tmp
  obtain rfl : g2 = [] := h2
  subst e
  obtain ⟨_, _, rfl⟩ := p.slo
  have g := q.grow p.bas
  refine ⟨Hs, f1, g1 ++ f2, g.low, g.dom, g.bas, g.sub, g.slo, ⟨g1, f2, rfl, h1.close τ hc, g.tmp⟩, fun a => ?_⟩
  have fit := q.fit a
  have fit' := p.fit a
  simp only [List.count_append, List.count_nil] at fit' ⊢
  by_cases m : a ∈ g1
  · have c1 := mem_count m
    obtain ⟨n1, _⟩ := cap_pos (B := H) (Hs := Hs') (a := a) (by omega)
    obtain ⟨z2, z1, zB, zH⟩ := q.fresh n1
    rw [cap_one zB zH]
    have := cap_le H Hs' a
    omega
  · have : g1.count a = 0 := List.count_eq_zero.mpr m
    omega
/-- .. and may lean on the arguments -/
theorem Rel.callO' {τ : Sh} {d : D} {v : V} {L : Tm} {f1 f2 : Fp} (q : RelA M B Hb Hs Γ E σ (L ++ T) H f1 f2) (hL : ∀ t ∈ L, t.1 = .s)
    (q' : Rel M H Hs [] [] [] [(τ, d, v)] H') (nb : τ.noB = true) : Rel M B Hb Γ E σ ((τ, d, v) :: T) H' := by
  obtain ⟨gL, gT, eL, tL, tT⟩ := Tmps.app q.tmp
  have hr : ∀ {L : Tm} {f : Fp}, Tmps M Hs H L f → (∀ t ∈ L, t.1 = .s) → f = [] := by
    intro L
    induction L with
    | nil => intro f h _; exact h
    | cons t L ih =>
      intro f h k
      obtain ⟨sh, d, v⟩ := t
      obtain ⟨k1, k2, e, h1, h2⟩ := h
      obtain rfl : sh = .s := k (sh, d, v) List.mem_cons_self
      have i1 := ih h2 fun t ht => k t (List.mem_cons_of_mem _ ht)
      obtain ⟨j1, j2⟩ := h1
      subst j2; subst i1
      exact e
  have eg := hr tL hL
  subst eg
  rw [List.nil_append] at eL
  subst eL
  obtain ⟨Hs', f1', f2', p⟩ := q'
  obtain ⟨g1, g2, e, h1, h2⟩ := p.tmp
  obtain rfl : g2 = [] := h2
  subst e
  obtain ⟨_, _, rfl⟩ := p.slo
  have g := q.grow p.bas
  refine ⟨Hs', f1, g1 ++ f2, g.low.trans p.low, fun a z1 z2 => p.dom a (q.dom a z1 z2) fun z3 => ?_, g.bas, p.sub, g.slo.mono p.low (fun _ => Same.refl _) (fun a _ o e => e), ⟨g1, f2, rfl, h1, tT.mono p.low (fun _ => p.bas) (fun a _ o e => p.bas a o e)⟩, fun a => ?_⟩
  · exact z2 (q.bas.free z3)
  · have fit := q.fit a
    have fit' := p.fit a
    simp only [List.count_append, List.count_nil] at fit' ⊢
    by_cases m : a ∈ g1
    · have c1 := mem_count m
      obtain ⟨n1, n2⟩ := cap_pos (B := H) (Hs := Hs') (a := a) (by omega)
      obtain ⟨z2, z1, zB, zH⟩ := q.fresh n1
      rw [cap_one zB n2]
      have := cap_le H Hs' a
      omega
    · have e0 : g1.count a = 0 := List.count_eq_zero.mpr m
      by_cases z : f2.count a + f1.count a = 0
      · omega
      · obtain ⟨n1, n2⟩ := cap_pos (B := B) (Hs := Hs) (a := a) (by omega)
        have ht : H a ≠ none := by
          by_cases z2 : 0 < f2.count a
          · exact Tmps.there tT (count_mem z2)
          · exact Slots.there q.slo (count_mem (by omega))
        have : cap B Hs' a = cap B Hs a := by
          rw [cap_one n1 n2, cap_one n1 (p.dom a n2 ht)]
        omega
end
end Bd

set_option Elab.async false
set_option linter.all false
set_option maxRecDepth 100000
set_option maxHeartbeats 1000000
namespace Bd
open PySem PySem.Spec PyProof.Rows L2

section
variable {X : Cx} {c : Ct} {Γ Γ1 Γ2 Γ3 : Gm} {a b e : Expr} {es : List Expr} {ma mb m : En → R D} {ms : En → R (List D)} {τ τ1 τ2 : Sh} {τs : List Sh} {pos p : Pos}
/-! ### argument lists -/
def aN : En → R (List D) := fun _ => .ok []
def aC (m : En → R D) (ms : En → R (List D)) : En → R (List D) := fun E => (m E).bind fun d => (ms E).bind fun ds => .ok (d :: ds)
theorem sa_nil : SA X c Γ [] aN Γ [] := PA.mono pa_nil fun σ H Q ⟨E, T, r, k⟩ => k [] H (Same.refl _) rfl rfl r
theorem sa_cons (h : SE X c Γ e m Γ1 τ) (h' : SA X c Γ1 es ms Γ2 τs) (hs : starEach (e :: es) X.env = (false, eval e X.env) :: starEach es X.env := by rfl) : SA X c Γ (e :: es) (aC m ms) Γ2 (τ :: τs) := PA.mono (pa_cons h h' hs) fun σ H Q ⟨E, T, r, k⟩ => ⟨E, T, r, by
  unfold aC at k
  cases e1 : m E with
  | ok d =>
    rw [e1] at k
    dsimp only [R.bind] at k
    intro v H1 s1 r1
    refine ⟨E, _, r1, ?_⟩
    cases e2 : ms E with
    | ok ds =>
      rw [e2] at k
      dsimp only [R.bind] at k
      exact fun ts H2 s2 q1 q2 r2 => k ((τ, d, v) :: ts) H2 (s1.trans s2) (by simp [q1]) (by simp [q2]) (by simpa using r2)
    | exn n ns ds => rw [e2] at k; exact fun cls dd H' x r => k cls dd H' x r.pop
    | bad => rw [e2] at k; exact k
  | exn n ns ds => rw [e1] at k; exact k
  | bad => rw [e1] at k; exact k⟩

/-! ### displays -/
def eL (ms : En → R (List D)) : En → R D := fun E => (ms E).bind fun ds => if ds.length ≤ 16777216 then .ok (.lst ds) else .bad
def eT (ms : En → R (List D)) : En → R D := fun E => (ms E).bind fun ds => if ds.length ≤ 16777216 then .ok (.tup ds) else .bad
def allS (e : Sh) (τs : List Sh) : Bool := τs.all fun t => decide (t = e)
theorem allS_mem {e : Sh} {τs : List Sh} {ts : Tm} (h : allS e τs = true) (k : ts.map (·.1) = τs) : ∀ t ∈ ts, t.1 = e := fun t ht => by
  unfold allS at h
  rw [List.all_eq_true] at h
  exact of_decide_eq_true (h t.1 (by rw [← k]; exact List.mem_map_of_mem ht))
theorem se_lst (e0 : Sh) (h : SA X c Γ es ms Γ1 τs) (ne : e0.noB = true := by rfl) (hs : allS e0 τs = true := by rfl) : SE X c Γ (.List es pos) (eL ms) Γ1 (.l e0) := PE.mono (pe_lst h) fun σ H Q ⟨E, T, r, k⟩ => ⟨E, T, r, by
  unfold eL at k
  cases e1 : ms E with
  | ok ds =>
    rw [e1] at k
    dsimp only [R.bind] at k
    intro ts H1 s1 q1 q2 r1
    subst q2
    by_cases hz : (ts.map (·.2.1)).length ≤ 16777216
    · rw [if_pos hz] at k
      refine ⟨by rw [sizeLine_eq]; simpa using hz, fun p np => k _ _ (s1.trans (same_new np)) (r1.packL (allS_mem hs q1) ne np (by rw [sizeLine_eq]; simpa using hz))⟩
    · rw [if_neg hz] at k; exact k.elim
  | exn n ns ds => rw [e1] at k; exact k
  | bad => rw [e1] at k; exact k⟩
theorem Reps.rev {M : Mx} {H : Hp} : ∀ {ds : List D} {vs : List V}, Reps M H ds vs → Reps M H ds.reverse vs.reverse
  | [], _, h => by cases (show _ = [] from h); rfl
  | d :: ds, vs, h => by
    obtain ⟨v, r, e, h1, h2⟩ := h
    subst e
    rw [List.reverse_cons, List.reverse_cons]
    exact (Reps.rev h2).append ⟨v, [], rfl, h1, rfl⟩
theorem reps_of {M : Mx} {B Hb Hs H : Hp} {Γ : Gm} {E : En} {σ : Sg} : ∀ {L T : Tm} {f1 f2 : Fp}, RelA M B Hb Hs Γ E σ (L ++ T) H f1 f2 → (∀ t ∈ L, t.1 = .s) → Reps M Hs (L.map (·.2.1)) (L.map (·.2.2)) := by
  intro L T f1 f2 q k
  obtain ⟨gL, gT, eL, tL, tT⟩ := Tmps.app q.tmp
  have hr : ∀ {L : Tm} {f : Fp}, Tmps M Hs H L f → (∀ t ∈ L, t.1 = .s) → Reps M Hs (L.map (·.2.1)) (L.map (·.2.2)) := by
    intro L
    induction L with
    | nil => intro f h _; exact rfl
    | cons t L ih =>
      intro f h k
      obtain ⟨sh, d, v⟩ := t
      obtain ⟨k1, k2, e, h1, h2⟩ := h
      obtain rfl : sh = .s := k (sh, d, v) List.mem_cons_self
      exact ⟨v, _, rfl, h1.1, ih h2 fun t ht => k t (List.mem_cons_of_mem _ ht)⟩
  exact hr tL k
theorem se_tup {x1} (h : SA X c Γ es ms Γ1 τs) (hs : allS .s τs = true := by rfl) : SE X c Γ (.Tuple es x1 pos) (eT ms) Γ1 .s := PE.mono (pe_tup h) fun σ H Q ⟨E, T, r, k⟩ => ⟨E, T, r, by
  unfold eT at k
  cases e1 : ms E with
  | ok ds =>
    rw [e1] at k
    dsimp only [R.bind] at k
    intro ts H1 s1 q1 q2 r1
    subst q2
    by_cases hz : (ts.map (·.2.1)).length ≤ 16777216
    · rw [if_pos hz] at k
      refine ⟨by rw [sizeLine_eq]; simpa using hz, fun p np => ?_⟩
      have nw := r1.newS (d := .tup (ts.map (·.2.1))) (o := .tup (ts.map (·.2.2))) np fun Hs s ⟨f1, f2, q⟩ => by
        have rp := (reps_of q fun t ht => allS_mem hs q1 t (List.mem_reverse.mp ht)).rev
        rw [← List.map_reverse, ← List.map_reverse, List.reverse_reverse] at rp
        exact ⟨p, _, rfl, .of upd_same, by rw [sizeLine_eq]; simpa using hz, rp.mono (same_new (s.free np))⟩
      refine k _ _ (s1.trans (same_new np)) ?_
      obtain ⟨Hs, f1, f2, q⟩ := nw
      obtain ⟨g1, g2, e2, h1, h2⟩ := q.tmp
      obtain ⟨g3, g4, e3, h3, h4⟩ := Tmps.app h2
      refine ⟨Hs, f1, g1 ++ g4, q.low, q.dom, q.bas, q.sub, q.slo, ⟨g1, g4, rfl, h1, h4⟩, fun a => ?_⟩
      have := q.fit a
      rw [e2, e3] at this
      simp only [List.count_append] at this ⊢
      omega
    · rw [if_neg hz] at k; exact k.elim
  | exn n ns ds => rw [e1] at k; exact k
  | bad => rw [e1] at k; exact k⟩

/-! ### a def's promise, its call -/
def spF (M : Mx) (n : Nat) (f : List D → R D) (τ : Sh) : Sp := fun vs H Q E => ∃ Hb ds, Same Hb H ∧ Reps M Hb ds vs ∧ vs.length = n ∧ (match f ds with
  | .ok d => ∀ v H', Rel M H Hb [] [] [] [(τ, d, v)] H' → Q v H'
  | .exn c ns fs => ∀ cls dd H', Same H H' → XRel M cls dd c ns fs H' → E cls dd H'
  | .bad => False)
def eF (f : List D → R D) (ms : En → R (List D)) : En → R D := fun E => (ms E).bind f
variable {f : List D → R D} {n k : Nat} {fa : Addr} {fd : FuncData} {ps : List Str} {x : Str}
abbrev FnS (X : Cx) (k : Nat) (fa : Addr) (fd : FuncData) (ps : List Str) (f : List D → R D) (τ : Sh) : Prop := FnOk X.prog X.w X.K X.mg X.base (L2.CX X.prog X.w) k fa fd ps (spF (Cx.m X) ps.length f τ)
theorem se_callC (F : FnS X k fa fd ps f τ) (har : ∀ ds, ds.length ≠ ps.length → f ds = .bad) (hr : Room k X.A) (hg : Gl X x) (hm : X.mg x = some (.ref fa)) (hk : PySem.W.keepIn X.K (.ref fa) = true) (hb : Binds X.K fd ps []) (tk : Takes X c.W)
    (ha : SA X c Γ (e :: es) ms Γ1 τs) (hc : τ.closed = true := by rfl) (hx : wk Γ1 c.gx = true := by rfl) (gb : GB Γ1 = true := by rfl) (hdb : (x == ("__debug__" : Str)) = false := by decide)
    (he : starEach (e :: es) X.env = (false, eval e X.env) :: starEach es X.env := by rfl) (hpl : (backTo pos (starEach es X.env)).any (·.1) = false := by rfl) :
    SE X c Γ (.Call (.Name x p) (e :: es) [] pos) (eF f ms) Γ1 τ := PE.mono (pe_callS F hr hg hm hk hb (passAt tk) ha hdb he hpl) fun σ H Q ⟨E, T, r, k⟩ => ⟨E, T, r, by
  unfold eF at k
  cases e1 : ms E with
  | ok ds =>
    rw [e1] at k
    dsimp only [R.bind] at k
    intro ts H1 s1 q1 q2 r1
    refine ⟨H1, ds, Same.refl _, by rw [← q2]; exact r1.args, ?_, ?_⟩
    · by_cases hl : ds.length = ps.length
      · rw [← hl, ← q2]; simp
      · rw [har ds hl] at k; exact k.elim
    · cases ef : f ds with
      | ok d => rw [ef] at k; exact fun v H' q => k v H' (s1.trans q.bas) (r1.drops.callC q hc)
      | exn n ns fs => rw [ef] at k; exact fun cls dd H' s x => k cls dd H' x ((r1.drops.grow s).weak gb hx)
      | bad => rw [ef] at k; exact k
  | exn n ns ds => rw [e1] at k; exact k
  | bad => rw [e1] at k; exact k⟩
theorem se_callO (F : FnS X k fa fd ps f τ) (har : ∀ ds, ds.length ≠ ps.length → f ds = .bad) (hr : Room k X.A) (hg : Gl X x) (hm : X.mg x = some (.ref fa)) (hk : PySem.W.keepIn X.K (.ref fa) = true) (hb : Binds X.K fd ps []) (tk : Takes X c.W)
    (ha : SA X c Γ (e :: es) ms Γ1 τs) (hs : allS .s τs = true := by rfl) (hc : τ.noB = true := by rfl) (hx : wk Γ1 c.gx = true := by rfl) (gb : GB Γ1 = true := by rfl) (hdb : (x == ("__debug__" : Str)) = false := by decide)
    (he : starEach (e :: es) X.env = (false, eval e X.env) :: starEach es X.env := by rfl) (hpl : (backTo pos (starEach es X.env)).any (·.1) = false := by rfl) :
    SE X c Γ (.Call (.Name x p) (e :: es) [] pos) (eF f ms) Γ1 τ := PE.mono (pe_callS F hr hg hm hk hb (passAt tk) ha hdb he hpl) fun σ H Q ⟨E, T, r, k⟩ => ⟨E, T, r, by
  unfold eF at k
  cases e1 : ms E with
  | ok ds =>
    rw [e1] at k
    dsimp only [R.bind] at k
    intro ts H1 s1 q1 q2 r1
    have hS : ∀ t ∈ ts.reverse, t.1 = .s := fun t ht => allS_mem hs q1 t (List.mem_reverse.mp ht)
    obtain ⟨Hs, f1, f2, q⟩ := id r1
    have rp := (reps_of q hS).rev
    rw [← List.map_reverse, ← List.map_reverse, List.reverse_reverse, q2] at rp
    refine ⟨Hs, ds, q.sub, rp, ?_, ?_⟩
    · by_cases hl : ds.length = ps.length
      · rw [← hl, ← q2]; simp
      · rw [har ds hl] at k; exact k.elim
    · cases ef : f ds with
      | ok d =>
        rw [ef] at k
        exact fun v H' q' => k v H' (s1.trans q'.bas) (Rel.callO' q hS q' hc)
      | exn n ns fs => rw [ef] at k; exact fun cls dd H' s x => k cls dd H' x ((r1.drops.grow s).weak gb hx)
      | bad => rw [ef] at k; exact k
  | exn n ns ds => rw [e1] at k; exact k
  | bad => rw [e1] at k; exact k⟩
end
end Bd

set_option Elab.async false
set_option linter.all false
set_option maxRecDepth 100000
set_option maxHeartbeats 1000000
namespace Bd
open PySem PySem.Spec PyProof.Rows L2

section
variable {M : Mx} {B Hb Hs H H' : Hp} {Γ : Gm} {E : En} {σ : Sg} {T : Tm}
theorem Rel.under : ∀ {L : Tm} {t : Sh × D × V} {T : Tm}, Rel M B Hb Γ E σ (t :: (L ++ T)) H → Rel M B Hb Γ E σ (t :: T) H := fun {L t T} r => by
  obtain ⟨Hs, f1, f2, q⟩ := r
  obtain ⟨sh, d, v⟩ := t
  obtain ⟨g1, g2, e, h1, h2⟩ := q.tmp
  obtain ⟨g3, g4, e', h3, h4⟩ := Tmps.app h2
  subst e'; subst e
  refine ⟨Hs, f1, g1 ++ g4, q.low, q.dom, q.bas, q.sub, q.slo, ⟨g1, g4, rfl, h1, h4⟩, fun a => ?_⟩
  have := q.fit a
  simp only [List.count_append] at this ⊢
  omega
theorem RepL.get {P : D → V → Fp → Prop} : ∀ {ds : List D} {vs : List V} {fp : Fp} {i : Nat} {d : D}, RepL P ds vs fp → ds[i]? = some d → ∃ v f, vs[i]? = some v ∧ P d v f ∧ ∀ a, f.count a ≤ fp.count a
  | [], _, _, _, _, _, e => by simp at e
  | d :: ds, vs, fp, 0, x, h, e => by
    obtain ⟨v, r, f1, f2, e1, e2, h1, h2⟩ := h
    simp at e; subst e; subst e1; subst e2
    exact ⟨v, f1, rfl, h1, fun a => by rw [List.count_append]; omega⟩
  | d :: ds, vs, fp, i + 1, x, h, e => by
    obtain ⟨v, r, f1, f2, e1, e2, h1, h2⟩ := h
    subst e1; subst e2
    obtain ⟨v', f', q1, q2, q3⟩ := RepL.get (i := i) (d := x) h2 (by simpa using e)
    exact ⟨v', f', by simpa using q1, q2, fun a => by have := q3 a; rw [List.count_append]; omega⟩
def ixS : Sh → Sh
  | .l e => e
  | .o _ => .s
  | sh => sh
theorem atI_some {α : Type} {xs : List α} {i : Int} {x : α} (h : atI xs i = some x) : ∃ j, ixN xs.length i = some j ∧ xs[j]? = some x := by
  unfold atI at h
  cases e : ixN xs.length i with
  | none => rw [e] at h; cases h
  | some j => rw [e] at h; exact ⟨j, rfl, h⟩
theorem atI_of {α : Type} {xs : List α} {i : Int} {x : α} {j n : Nat} (hn : n = xs.length) (h : ixN n i = some j) (h' : xs[j]? = some x) : atI xs i = some x := by
  unfold atI; subst hn; rw [h]; exact h'
/-- an item of a list -/
theorem Rel.item {sh : Sh} {ds : List D} {x : V} {j : Nat} {d : D} (r : Rel M B Hb Γ E σ ((sh, .lst ds, x) :: T) H) (h : ds[j]? = some d) :
    ∃ p vs v, x = .ref p ∧ SqL M.K H p vs ∧ vs.length = ds.length ∧ vs[j]? = some v ∧ Rel M B Hb Γ E σ ((ixS sh, d, v) :: T) H := by
  obtain ⟨Hs, f1, f2, q⟩ := r
  obtain ⟨g1, g2, e, h1, h2⟩ := q.tmp
  subst e
  have fit := q.fit
  simp only [List.count_append] at fit
  cases sh with
  | sc => exact (show False from h1.1).elim
  | s =>
    obtain ⟨⟨p, vs, e1, sq, z, rs⟩, eg⟩ := h1
    obtain ⟨v, ev, rv⟩ := rs.get h
    exact ⟨p, vs, v, e1, q.sub.seq sq, rs.length.symm, ev, Hs, f1, [] ++ g2, q.low, q.dom, q.bas, q.sub, q.slo, ⟨[], g2, rfl, ⟨rv, rfl⟩, h2⟩, fun a => by have := fit a; rw [List.nil_append]; omega⟩
  | b =>
    obtain ⟨⟨p, vs, e1, sq, z, rs⟩, eg⟩ := h1
    obtain ⟨v, ev, rv⟩ := rs.get h
    exact ⟨p, vs, v, e1, sq, rs.length.symm, ev, Hs, f1, [] ++ g2, q.low, q.dom, q.bas, q.sub, q.slo, ⟨[], g2, rfl, ⟨rv, rfl⟩, h2⟩, fun a => by have := fit a; rw [List.nil_append]; omega⟩
  | l e =>
    obtain ⟨nb, p, vs, ds', f, e1, e2, e3, z, rl, e4⟩ := h1
    cases e1; subst e4
    obtain ⟨v, f', ev, rv, cf⟩ := rl.get h
    exact ⟨p, vs, v, e2, .of e3, rl.length.symm, ev, Hs, f1, f' ++ g2, q.low, q.dom, q.bas, q.sub, q.slo, ⟨f', g2, rfl, rv, h2⟩, fun a => by have := fit a; have := cf a; rw [List.count_cons] at *; rw [List.count_append]; omega⟩
  | o e =>
    obtain ⟨nb, p, c, C, dx, ns, ds', vs, f, e1, _⟩ := h1
    cases e1
  | «at» a => cases h1.1
theorem Rel.itemT {sh : Sh} {ds : List D} {x : V} {j : Nat} {d : D} (r : Rel M B Hb Γ E σ ((sh, .tup ds, x) :: T) H) (h : ds[j]? = some d) :
    ∃ p vs v, x = .ref p ∧ SqT M.K H p vs ∧ vs.length = ds.length ∧ vs[j]? = some v ∧ Rel M B Hb Γ E σ ((ixS sh, d, v) :: T) H := by
  obtain ⟨Hs, f1, f2, q⟩ := r
  obtain ⟨g1, g2, e, h1, h2⟩ := q.tmp
  subst e
  have fit := q.fit
  simp only [List.count_append] at fit
  cases sh with
  | sc => exact (show False from h1.1).elim
  | s =>
    obtain ⟨⟨p, vs, e1, sq, z, rs⟩, eg⟩ := h1
    obtain ⟨v, ev, rv⟩ := rs.get h
    exact ⟨p, vs, v, e1, SqT.same q.sub sq, rs.length.symm, ev, Hs, f1, [] ++ g2, q.low, q.dom, q.bas, q.sub, q.slo, ⟨[], g2, rfl, ⟨rv, rfl⟩, h2⟩, fun a => by have := fit a; rw [List.nil_append]; omega⟩
  | b =>
    obtain ⟨⟨p, vs, e1, sq, z, rs⟩, eg⟩ := h1
    obtain ⟨v, ev, rv⟩ := rs.get h
    exact ⟨p, vs, v, e1, sq, rs.length.symm, ev, Hs, f1, [] ++ g2, q.low, q.dom, q.bas, q.sub, q.slo, ⟨[], g2, rfl, ⟨rv, rfl⟩, h2⟩, fun a => by have := fit a; rw [List.nil_append]; omega⟩
  | l e =>
    obtain ⟨nb, p, vs, ds', f, e1, _⟩ := h1
    cases e1
  | o e =>
    obtain ⟨nb, p, c, C, dx, ns, ds', vs, f, e1, _⟩ := h1
    cases e1
  | «at» a => cases h1.1
/-- a read list -/
theorem Rep.lst {d : List D} {x : V} (r : Rep M H (.lst d) x) : ∃ p vs, x = .ref p ∧ SqL M.K H p vs ∧ vs.length ≤ sizeLine ∧ Reps M H d vs := r
theorem Rep.tup {d : List D} {x : V} (r : Rep M H (.tup d) x) : ∃ p vs, x = .ref p ∧ SqT M.K H p vs ∧ vs.length ≤ sizeLine ∧ Reps M H d vs := r
theorem Reps.scs {G : Hp} : ∀ {ds : List D} {vs : List V}, Reps M H ds vs → ds.all isSc = true → RepL (RepS M Hs G .sc) ds vs []
  | [], _, h, _ => ⟨h, rfl⟩
  | d :: ds, vs, h, k => by
    obtain ⟨v, r, e, h1, h2⟩ := h
    rw [List.all_cons] at k
    obtain ⟨k1, k2⟩ := Bool.and_eq_true_iff.mp k
    exact ⟨v, r, [], [], e, rfl, ⟨h1.sc k1, rfl⟩, Reps.scs h2 k2⟩
theorem Reps.ss {G : Hp} : ∀ {ds : List D} {vs : List V}, Reps M Hs ds vs → RepL (RepS M Hs G .s) ds vs []
  | [], _, h => ⟨h, rfl⟩
  | d :: ds, vs, h => by
    obtain ⟨v, r, e, h1, h2⟩ := h
    exact ⟨v, r, [], [], e, rfl, ⟨h1, rfl⟩, Reps.ss h2⟩
/-- the top's own heap -/
theorem RelA.topS {d : D} {v : V} {f1 f2 : Fp} (q : RelA M B Hb Hs Γ E σ ((.s, d, v) :: T) H f1 f2) : Rep M Hs d v := by
  obtain ⟨g1, g2, e, h1, h2⟩ := q.tmp
  exact h1.1
end

section
variable {X : Cx} {c : Ct} {Γ Γ1 Γ2 Γ3 : Gm} {a b e : Expr} {es : List Expr} {ma mb m : En → R D} {ms : En → R (List D)} {τ τ1 τ2 : Sh} {τs : List Sh} {pos p p2 : Pos} {x : Str}
/-! ### items -/
def dIdx : D → D → R D
  | .lst ds, .int i => match ixN ds.length i with
    | some j => match ds[j]? with | some d => .ok d | none => .bad
    | none => .bad
  | .tup ds, .int i => match ixN ds.length i with
    | some j => match ds[j]? with | some d => .ok d | none => .bad
    | none => .bad
  | .str z, .int i => match atI z.cps.toList i with
    | some c => if z.length ≤ 16777216 then .ok (.str ⟨#[c]⟩) else .bad
    | none => .bad
  | _, _ => .bad
theorem dIdx_nx (d d' : D) (n : Str) (ns : List Str) (ds : List D) : dIdx d d' ≠ .exn n ns ds := by
  intro e
  unfold dIdx at e
  repeat' split at e
  all_goals cases e
theorem se_ix (ha : SE X c Γ a ma Γ1 τ1) (hb : SE X c Γ1 b mb Γ2 τ2) (hs : PlainIx b := by exact fun _ _ => rfl) : SE X c Γ (.Subscript a b pos) (e2 dIdx ma mb) Γ2 (ixS τ1) := by
  refine se_op2 (fun t t' h h' => pe_ix ix_seq h h' hs) ha hb (fun E T σ d d' x y H Q r k => ?_) dIdx_nx
  cases d' with
  | int i =>
    have hy : y = .int i := r.top
    have r1 := r.pop
    cases d with
    | lst ds =>
      dsimp only [dIdx] at k
      cases e1 : ixN ds.length i with
      | none => rw [e1] at k; exact k.elim
      | some j =>
        rw [e1] at k; dsimp only at k
        cases e2 : ds[j]? with
        | none => rw [e2] at k; exact k.elim
        | some d =>
          rw [e2] at k
          obtain ⟨p, vs, v, q1, q2, q3, q4, q5⟩ := r1.item e2
          exact .inl ⟨p, vs, i, v, q1, hy, q2, atI_of q3.symm e1 q4, k v H (Same.refl _) q5⟩
    | tup ds =>
      dsimp only [dIdx] at k
      cases e1 : ixN ds.length i with
      | none => rw [e1] at k; exact k.elim
      | some j =>
        rw [e1] at k; dsimp only at k
        cases e2 : ds[j]? with
        | none => rw [e2] at k; exact k.elim
        | some d =>
          rw [e2] at k
          obtain ⟨p, vs, v, q1, q2, q3, q4, q5⟩ := r1.itemT e2
          exact .inr (.inl ⟨p, vs, i, v, q1, hy, q2, atI_of q3.symm e1 q4, k v H (Same.refl _) q5⟩)
    | str z =>
      dsimp only [dIdx] at k
      cases e1 : atI z.cps.toList i with
      | none => rw [e1] at k; exact k.elim
      | some c0 =>
        rw [e1] at k; dsimp only at k
        by_cases hz : z.length ≤ 16777216
        · rw [if_pos hz] at k
          have hx : x = .str z := r1.top
          refine .inr (.inr ⟨z, i, c0, hx, hy, by rw [sizeLine_eq]; exact hz, e1, k _ H (Same.refl _) ?_⟩)
          have r2 := r1.pop.psc (d := .str ⟨#[c0]⟩) (v := .str ⟨#[c0]⟩) rfl
          obtain ⟨Hs, f1, f2, q⟩ := r1
          obtain ⟨g1, g2, eg, h1, h2⟩ := q.tmp
          cases τ1 with
          | sc => exact r2
          | s => exact r2.share rfl
          | b => exact r2.pop.pb (show Rep _ _ _ _ from rfl)
          | l e => obtain ⟨_, _, _, _, _, e1, _⟩ := h1; cases e1
          | o e => obtain ⟨_, _, _, _, _, _, _, _, _, e1, _⟩ := h1; cases e1
          | «at» a => cases h1.1
        · rw [if_neg hz] at k; exact k.elim
    | _ => exact k.elim
  | _ => cases d <;> exact k.elim

/-! ### slices -/
def dCut (d : D) (lo hi : Option Int) : R D := match d with
  | .lst ds => .ok (.lst ((ds.drop (HT.sIx ds.length 0 lo)).take (HT.sIx ds.length ds.length hi - HT.sIx ds.length 0 lo)))
  | _ => .bad
def dI : D → R Int
  | .int i => .ok i
  | _ => .bad
def oN : En → R (Option Int) := fun _ => .ok none
def oS (m : En → R D) : En → R (Option Int) := fun E => (m E).bind fun d => (dI d).bind fun i => .ok (some i)
def rdO (X : Cx) (c : Ct) (Γ : Gm) (m : En → R (Option Int)) (Γ' : Gm) : TO := fun σ H Q => ∃ E T, Rel (Cx.m X) c.B c.Hb Γ E σ T H ∧ (match m E with
  | .ok i => ∀ H', Same H H' → Rel (Cx.m X) c.B c.Hb Γ' E σ T H' → Q i H'
  | .exn n ns ds => ∀ cls dd H', XRel (Cx.m X) cls dd n ns ds H' → Rel (Cx.m X) c.B c.Hb c.gx E σ T H' → c.W cls dd σ H'
  | .bad => False)
theorem PO.mono {X : Cx} {e : Option Expr} {t t' : TO} (h : PO X e t) (k : ∀ σ H Q, t' σ H Q → t σ H Q) : PO X e t' := ⟨fun pins s σ H Q I q => h.run pins s σ H Q I (k σ H Q q)⟩
def SO (X : Cx) (c : Ct) (Γ : Gm) (e : Option Expr) (m : En → R (Option Int)) (Γ' : Gm) : Prop := PO X e (rdO X c Γ m Γ')
theorem so_n : SO X c Γ none oN Γ := PO.mono po_none fun σ H Q ⟨E, T, r, k⟩ => k H (Same.refl _) r
theorem so_s (h : SE X c Γ a ma Γ1 τ) : SO X c Γ (some a) (oS ma) Γ1 := PO.mono (po_some h) fun σ H Q ⟨E, T, r, k⟩ => ⟨E, T, r, by
  unfold oS at k
  cases e : ma E with
  | ok d =>
    rw [e] at k
    dsimp only [R.bind] at k
    intro v H' s r'
    cases d with
    | int i => exact ⟨i, r'.top, k H' s r'.pop⟩
    | _ => exact k.elim
  | exn n ns ds => rw [e] at k; exact k
  | bad => rw [e] at k; exact k⟩
variable {lo hi : Option Expr} {ml mh : En → R (Option Int)}
def eCut (g : D → Option Int → Option Int → R D) (m : En → R D) (ml mh : En → R (Option Int)) : En → R D := fun E => (m E).bind fun d => (ml E).bind fun l => (mh E).bind fun h => g d l h
theorem se_cut {g : D → Option Int → Option Int → R D} {rs : V → Option Int → Option Int → Hp → VK → Prop} (hr : SlR X rs) (ha : SE X c Γ a m Γ1 τ1) (hl : SO X c Γ1 lo ml Γ2) (hh : SO X c Γ2 hi mh Γ3)
    (hu : ∀ (E : En) (T : Tm) (σ : Sg) (d : D) (l u : Option Int) (x : V) (H : Hp) (Q : VK), Rel (Cx.m X) c.B c.Hb Γ3 E σ ((τ1, d, x) :: T) H → (match g d l u with | .ok r => ∀ v H', Same H H' → Rel (Cx.m X) c.B c.Hb Γ3 E σ ((τ, r, v) :: T) H' → Q v H' | _ => False) → rs x l u H Q)
    (nx : ∀ d l u n ns ds, g d l u ≠ .exn n ns ds) : SE X c Γ (.Subscript a (.Slice lo hi none p2) pos) (eCut g m ml mh) Γ3 τ := PE.mono (pe_slice hr ha hl hh) fun σ H Q ⟨E, T, r, k⟩ => ⟨E, T, r, by
  unfold eCut at k
  cases e : m E with
  | ok d =>
    rw [e] at k
    dsimp only [R.bind] at k
    intro x H1 s1 r1
    refine ⟨E, _, r1, ?_⟩
    cases e' : ml E with
    | ok l =>
      rw [e'] at k
      dsimp only [R.bind] at k
      intro H2 s2 r2
      refine ⟨E, _, r2, ?_⟩
      cases e3 : mh E with
      | ok u =>
        rw [e3] at k
        dsimp only [R.bind] at k
        intro H3 s3 r3
        refine hu E T σ d l u x H3 Q r3 ?_
        cases ef : g d l u with
        | ok y => rw [ef] at k; exact fun v H' s4 r' => k v H' (((s1.trans s2).trans s3).trans s4) r'
        | exn n ns ds => exact absurd ef (nx d l u n ns ds)
        | bad => rw [ef] at k; exact k
      | exn n ns ds => rw [e3] at k; exact fun cls dd H' x r => k cls dd H' x r.pop
      | bad => rw [e3] at k; exact k
    | exn n ns ds => rw [e'] at k; exact fun cls dd H' x r => k cls dd H' x r.pop
    | bad => rw [e'] at k; exact k
  | exn n ns ds => rw [e] at k; exact k
  | bad => rw [e] at k; exact k⟩
def scL (d : D) : Bool := match d with | .lst ds => ds.all isSc | .tup ds => ds.all isSc | _ => false
def dCutC (d : D) (lo hi : Option Int) : R D := if scL d = true then dCut d lo hi else .bad
theorem cut_reps {M : Mx} {H : Hp} {ds : List D} {vs : List V} (r : Reps M H ds vs) (lo hi : Option Int) : Reps M H ((ds.drop (HT.sIx ds.length 0 lo)).take (HT.sIx ds.length ds.length hi - HT.sIx ds.length 0 lo)) (cutV vs lo hi) := by
  unfold cutV
  rw [← r.length]
  exact (r.drop _).take _
theorem dCut_nx (d : D) (l u : Option Int) (n : Str) (ns : List Str) (ds : List D) : dCut d l u ≠ .exn n ns ds := by
  intro e; unfold dCut at e; split at e <;> cases e
theorem se_cutS (ha : SE X c Γ a m Γ1 .s) (hl : SO X c Γ1 lo ml Γ2) (hh : SO X c Γ2 hi mh Γ3) : SE X c Γ (.Subscript a (.Slice lo hi none p2) pos) (eCut dCut m ml mh) Γ3 (.l .s) := by
  refine se_cut sl_list ha hl hh (fun E T σ d l u x H Q r k => ?_) dCut_nx
  cases d with
  | lst ds =>
    obtain ⟨Hs, f1, f2, q⟩ := r
    obtain ⟨p, vs, e1, sq, z, rs⟩ := q.topS.lst
    refine ⟨p, vs, e1, q.sub.seq sq, fun y ny => k _ _ (same_new ny) ?_⟩
    exact (q.newL (ds := (ds.drop (HT.sIx ds.length 0 l)).take (HT.sIx ds.length ds.length u - HT.sIx ds.length 0 l)) rfl ny (Nat.le_trans (cutV_length _ _ _) z) (cut_reps rs l u).ss).under (L := [(.s, .lst ds, x)])
  | _ => exact k.elim
theorem dCutC_nx (d : D) (l u : Option Int) (n : Str) (ns : List Str) (ds : List D) : dCutC d l u ≠ .exn n ns ds := by
  intro e; unfold dCutC at e; split at e
  · exact dCut_nx d l u n ns ds e
  · cases e
theorem dCutC_bad {d : D} {lo hi : Option Int} (h : ∀ ds, d ≠ .lst ds) : dCutC d lo hi = .bad := by
  unfold dCutC
  split
  · cases d <;> first | rfl | exact absurd rfl (h _)
  · rfl
theorem all_cut {ds : List D} (h : ds.all isSc = true) (a b : Nat) : ((ds.drop a).take b).all isSc = true := by
  rw [List.all_eq_true] at h ⊢
  exact fun x hx => h x (List.mem_of_mem_drop (List.mem_of_mem_take hx))
theorem se_cutC (ha : SE X c Γ a m Γ1 τ1) (hl : SO X c Γ1 lo ml Γ2) (hh : SO X c Γ2 hi mh Γ3) : SE X c Γ (.Subscript a (.Slice lo hi none p2) pos) (eCut dCutC m ml mh) Γ3 (.l .sc) := by
  refine se_cut sl_list ha hl hh (fun E T σ d l u x H Q r k => ?_) dCutC_nx
  cases d with
  | lst ds =>
    unfold dCutC at k
    by_cases hs : scL (.lst ds) = true
    · rw [if_pos hs] at k
      obtain ⟨p, vs, e1, sq, z, rs⟩ := r.top.lst
      refine ⟨p, vs, e1, sq, fun y ny => k _ _ (same_new ny) ?_⟩
      obtain ⟨Hs, f1, f2, q⟩ := r
      exact (q.newL (ds := (ds.drop (HT.sIx ds.length 0 l)).take (HT.sIx ds.length ds.length u - HT.sIx ds.length 0 l)) rfl ny (Nat.le_trans (cutV_length _ _ _) z) ((cut_reps rs l u).scs (all_cut hs _ _))).under (L := [(τ1, .lst ds, x)])
    · rw [if_neg hs] at k; exact k.elim
  | _ => rw [dCutC_bad (by intro ds z; cases z)] at k; exact k.elim

/-! ### built-ins by name -/
theorem se_b1 {f : D → R D} {id : String} {rd : List V → Hp → VK → Prop} (hc : CallR X (.builtin id) rd) (hg : Gl X x) (hm : X.mg x = none) (hv : bootBuiltins x = some (.builtin id)) (ha : SE X c Γ a ma Γ1 τ1)
    (hu : ∀ (E : En) (T : Tm) (σ : Sg) (d : D) (v : V) (H : Hp) (Q : VK), Rel (Cx.m X) c.B c.Hb Γ1 E σ ((τ1, d, v) :: T) H → (match f d with | .ok r => ∀ v H', Same H H' → Rel (Cx.m X) c.B c.Hb Γ1 E σ ((τ, r, v) :: T) H' → Q v H' | _ => False) → rd [v] H Q)
    (nx : ∀ d n ns ds, f d ≠ .exn n ns ds) (hn : x ≠ "__name__" := by decide) (hdb : (x == ("__debug__" : Str)) = false := by decide) (he : starEach [a] X.env = (false, eval a X.env) :: starEach [] X.env := by rfl) :
    SE X c Γ (.Call (.Name x p) [a] [] pos) (e1 f ma) Γ1 τ :=
  se_op1 (u := fun v H Q => rd [v] H Q) (fun t h => pe_callB hc hg hm hv (pa_cons h pa_nil he) hn hdb he) ha hu nx
theorem se_b1T {f : D → R D} {id : String} {rd : List V → Hp → VK → Prop} (hc : CallR X (.type id) rd) (hg : Gl X x) (hm : X.mg x = none) (hv : bootBuiltins x = some (.type id)) (ha : SE X c Γ a ma Γ1 τ1)
    (hu : ∀ (E : En) (T : Tm) (σ : Sg) (d : D) (v : V) (H : Hp) (Q : VK), Rel (Cx.m X) c.B c.Hb Γ1 E σ ((τ1, d, v) :: T) H → (match f d with | .ok r => ∀ v H', Same H H' → Rel (Cx.m X) c.B c.Hb Γ1 E σ ((τ, r, v) :: T) H' → Q v H' | _ => False) → rd [v] H Q)
    (nx : ∀ d n ns ds, f d ≠ .exn n ns ds) (hn : x ≠ "__name__" := by decide) (hdb : (x == ("__debug__" : Str)) = false := by decide) (he : starEach [a] X.env = (false, eval a X.env) :: starEach [] X.env := by rfl) :
    SE X c Γ (.Call (.Name x p) [a] [] pos) (e1 f ma) Γ1 τ :=
  se_op1 (u := fun v H Q => rd [v] H Q) (fun t h => pe_callTy hc hg hm hv (pa_cons h pa_nil he) hn hdb he) ha hu nx
theorem se_b2 {f : D → D → R D} {id : String} {rd : List V → Hp → VK → Prop} (hc : CallR X (.builtin id) rd) (hg : Gl X x) (hm : X.mg x = none) (hv : bootBuiltins x = some (.builtin id)) (ha : SE X c Γ a ma Γ1 τ1) (hb : SE X c Γ1 b mb Γ2 τ2)
    (hu : ∀ (E : En) (T : Tm) (σ : Sg) (d d' : D) (v w : V) (H : Hp) (Q : VK), Rel (Cx.m X) c.B c.Hb Γ2 E σ ((τ2, d', w) :: (τ1, d, v) :: T) H → (match f d d' with | .ok r => ∀ v H', Same H H' → Rel (Cx.m X) c.B c.Hb Γ2 E σ ((τ, r, v) :: T) H' → Q v H' | _ => False) → rd [v, w] H Q)
    (nx : ∀ d d' n ns ds, f d d' ≠ .exn n ns ds) (hn : x ≠ "__name__" := by decide) (hdb : (x == ("__debug__" : Str)) = false := by decide) (he : starEach [a, b] X.env = (false, eval a X.env) :: starEach [b] X.env := by rfl) (he2 : starEach [b] X.env = (false, eval b X.env) :: starEach [] X.env := by rfl)
    (hpl : (backTo pos (starEach [b] X.env)).any (·.1) = false := by rfl) :
    SE X c Γ (.Call (.Name x p) [a, b] [] pos) (e2 f ma mb) Γ2 τ :=
  se_op2 (u := fun v w H Q => rd [v, w] H Q) (fun t t' h h' => pe_callB hc hg hm hv (pa_cons h (pa_cons h' pa_nil he2) he) hn hdb he hpl) ha hb hu nx
/-- len -/
def dLen : D → R D
  | .lst ds => .ok (.int ds.length)
  | .tup ds => .ok (.int ds.length)
  | .str z => if z.length ≤ 16777216 then .ok (.int z.length) else .bad
  | _ => .bad
theorem se_len (hg : Gl X "len") (hm : X.mg "len" = none) (ha : SE X c Γ a ma Γ1 τ1) (he : starEach [a] X.env = (false, eval a X.env) :: starEach [] X.env := by rfl) : SE X c Γ (.Call (.Name "len" p) [a] [] pos) (e1 dLen ma) Γ1 .sc := by
  refine se_b1 call_len hg hm (by decide +kernel) ha (fun E T σ d v H Q r k => ?_) (fun d n ns ds e => ?_) (he := he)
  · cases d with
    | lst ds =>
      obtain ⟨p, vs, e1, sq, z, rs⟩ := r.top.lst
      exact ⟨v, vs.length, rfl, by subst e1; exact .inl ⟨vs, sq, rfl⟩, k _ H (Same.refl _) (r.pop.psc (by rw [rs.length]; rfl))⟩
    | tup ds =>
      obtain ⟨p, vs, e1, sq, z, rs⟩ := r.top.tup
      exact ⟨v, vs.length, rfl, by subst e1; exact .inr ⟨vs, sq, rfl⟩, k _ H (Same.refl _) (r.pop.psc (by rw [rs.length]; rfl))⟩
    | str y =>
      dsimp only [dLen] at k
      by_cases hz : y.length ≤ 16777216
      · rw [if_pos hz] at k
        have hv : v = .str y := r.top
        exact ⟨v, y.length, rfl, by subst hv; exact ⟨by rw [sizeLine_eq]; exact hz, rfl⟩, k _ H (Same.refl _) (r.pop.psc rfl)⟩
      · rw [if_neg hz] at k; exact k.elim
    | _ => exact k.elim
  · cases d <;> first | (cases e; done) | (dsimp only [dLen] at e; split at e <;> cases e)
/-- list(x) -/
def dList : D → R D
  | .lst ds => .ok (.lst ds)
  | .tup ds => .ok (.lst ds)
  | _ => .bad
def dListC (d : D) : R D := if scL d = true then dList d else .bad
theorem se_listS (hg : Gl X "list") (hm : X.mg "list" = none) (ha : SE X c Γ a ma Γ1 .s) (he : starEach [a] X.env = (false, eval a X.env) :: starEach [] X.env := by rfl) : SE X c Γ (.Call (.Name "list" p) [a] [] pos) (e1 dList ma) Γ1 (.l .s) := by
  refine se_b1T call_list_of hg hm (by decide +kernel) ha (fun E T σ d v H Q r k => ?_) (fun d n ns ds e => by cases d <;> cases e) (he := he)
  obtain ⟨Hs, f1, f2, q⟩ := r
  cases d with
  | lst ds =>
    obtain ⟨p, vs, e1, sq, z, rs⟩ := q.topS.lst
    exact ⟨p, vs, by rw [e1], .inl (q.sub.seq sq), fun y ny => k _ _ (same_new ny) ((q.newL (ds := ds) rfl ny z rs.ss).under (L := [(.s, .lst ds, v)]))⟩
  | tup ds =>
    obtain ⟨p, vs, e1, sq, z, rs⟩ := q.topS.tup
    exact ⟨p, vs, by rw [e1], .inr (SqT.same q.sub sq), fun y ny => k _ _ (same_new ny) ((q.newL (ds := ds) rfl ny z rs.ss).under (L := [(.s, .tup ds, v)]))⟩
  | _ => exact k.elim
theorem se_listC (hg : Gl X "list") (hm : X.mg "list" = none) (ha : SE X c Γ a ma Γ1 τ1) (he : starEach [a] X.env = (false, eval a X.env) :: starEach [] X.env := by rfl) : SE X c Γ (.Call (.Name "list" p) [a] [] pos) (e1 dListC ma) Γ1 (.l .sc) := by
  refine se_b1T call_list_of hg hm (by decide +kernel) ha (fun E T σ d v H Q r k => ?_) (fun d n ns ds e => ?_) (he := he)
  · unfold dListC at k
    by_cases hs : scL d = true
    · rw [if_pos hs] at k
      have t := r.top
      obtain ⟨Hs, f1, f2, q⟩ := r
      cases d with
      | lst ds =>
        obtain ⟨p, vs, e1, sq, z, rs⟩ := t.lst
        exact ⟨p, vs, by rw [e1], .inl sq, fun y ny => k _ _ (same_new ny) ((q.newL (ds := ds) rfl ny z (rs.scs hs)).under (L := [(τ1, .lst ds, v)]))⟩
      | tup ds =>
        obtain ⟨p, vs, e1, sq, z, rs⟩ := t.tup
        exact ⟨p, vs, by rw [e1], .inr sq, fun y ny => k _ _ (same_new ny) ((q.newL (ds := ds) rfl ny z (rs.scs hs)).under (L := [(τ1, .tup ds, v)]))⟩
      | _ => exact k.elim
    · rw [if_neg hs] at k; exact k.elim
  · unfold dListC at e; split at e
    · cases d <;> cases e
    · cases e
/-- isinstance(x, T), T a built-in type by its name -/
theorem se_ty {n : String} (hg : Gl X x) (hm : X.mg x = none) (hv : bootBuiltins x = some (.type n)) (hn : x ≠ "__name__" := by decide) (hd : (x == ("__debug__" : Str)) = false := by decide) : SE X c Γ (.Name x pos) (eC (.ty n)) Γ .sc :=
  PE.mono (pe_bltn (v := .ty n) hg hm hv rfl hn hd) fun σ H Q ⟨E, T, r, k⟩ => k _ H (Same.refl _) (r.psc rfl)
def tyN : D → String
  | .non => "NoneType"
  | .bl _ => "bool"
  | .int _ => "int"
  | .str _ => "str"
  | .lst _ => "list"
  | .tup _ => "tuple"
  | _ => ""
def tyK (n : String) : Bool := n == "int" || n == "bool" || n == "list" || n == "tuple" || n == "str"
def dIsi : D → D → R D
  | .obj _ _ _, _ => .bad
  | .ty _, _ => .bad
  | .raw, _ => .bad
  | d, .ty n => if tyK n = true then .ok (.bl (tyN d == n || (tyN d == "bool" && n == "int"))) else .bad
  | _, _ => .bad
theorem kit_ok {K : PySem.W.Frag} {t n : String} (ht : t = "NoneType" ∨ t = "bool" ∨ t = "int" ∨ t = "str" ∨ t = "list" ∨ t = "tuple") (h : tyK n = true) : PySem.W.kitOne K (.type t) (.type n) = some (t == n || (t == "bool" && n == "int")) := by
  unfold tyK at h
  simp only [Bool.or_eq_true, beq_iff_eq] at h
  rcases h with (((h | h) | h) | h) | h <;> subst h <;> rcases ht with h | h | h | h | h | h <;> subst h <;> exact kit_ty (by decide +kernel)
theorem SqL.ty {K : PySem.W.Frag} {H : Hp} {a : Addr} {xs : List V} (h : SqL K H a xs) : TyX K H (.ref a) (.type "list") := by
  rcases h with (h | ⟨o, h⟩) | ⟨o, its, n, h, hc, _⟩
  · exact .base (.lst h)
  · exact .base (.frz h)
  · exact .kList h hc
theorem SqT.ty {K : PySem.W.Frag} {H : Hp} {a : Addr} {xs : List V} (h : SqT K H a xs) : TyX K H (.ref a) (.type "tuple") := by
  rcases h with (h | ⟨o, h⟩) | ⟨o, its, n, h, hc, _⟩
  · exact .base (.tup h)
  · exact .fTuple h
  · exact .kTuple h hc
theorem Rep.ty {M : Mx} {H : Hp} {d : D} {v : V} (h : Rep M H d v) (k : tyN d ≠ "") : TyX M.K H v (.type (tyN d)) ∧ (tyN d = "NoneType" ∨ tyN d = "bool" ∨ tyN d = "int" ∨ tyN d = "str" ∨ tyN d = "list" ∨ tyN d = "tuple") := by
  cases d with
  | non => cases (show v = .non from h); exact ⟨.base .non, by simp [tyN]⟩
  | bl b => cases (show v = .bl b from h); exact ⟨.base (.bl _), by simp [tyN]⟩
  | int b => cases (show v = .int b from h); exact ⟨.base (.int _), by simp [tyN]⟩
  | str b => cases (show v = .str b from h); exact ⟨.base (.str _), by simp [tyN]⟩
  | lst ds => obtain ⟨a, vs, e, q, _⟩ := h; subst e; exact ⟨SqL.ty q, by simp [tyN]⟩
  | tup ds => obtain ⟨a, vs, e, q, _⟩ := h; subst e; exact ⟨SqT.ty q, by simp [tyN]⟩
  | _ => exact absurd rfl k
theorem dIsi_nx (d d' : D) (n : Str) (ns : List Str) (ds : List D) : dIsi d d' ≠ .exn n ns ds := by
  intro e
  unfold dIsi at e
  repeat' split at e
  all_goals cases e
theorem se_isi (hg : Gl X "isinstance") (hm : X.mg "isinstance" = none) (ha : SE X c Γ a ma Γ1 τ1) (hb : SE X c Γ1 b mb Γ2 τ2) (he : starEach [a, b] X.env = (false, eval a X.env) :: starEach [b] X.env := by rfl) (he2 : starEach [b] X.env = (false, eval b X.env) :: starEach [] X.env := by rfl)
    (hpl : (backTo pos (starEach [b] X.env)).any (·.1) = false := by rfl) : SE X c Γ (.Call (.Name "isinstance" p) [a, b] [] pos) (e2 dIsi ma mb) Γ2 .sc := by
  refine se_b2 call_isi hg hm (by decide +kernel) ha hb (fun E T σ d d' v w H Q r k => ?_) dIsi_nx (he := he) (he2 := he2) (hpl := hpl)
  have key : ∀ n, d' = .ty n → tyN d ≠ "" → (if tyK n = true then (R.ok (D.bl (tyN d == n || (tyN d == "bool" && n == "int"))) : R D) else .bad) = dIsi d d' → rIsi X.K [v, w] H Q := by
    intro n e1 hne e2
    rw [← e2] at k
    by_cases hk : tyK n = true
    · rw [if_pos hk] at k
      obtain ⟨t1, t2⟩ := r.pop.top.ty hne
      have hw : w = .ty n := by have := r.top; rw [e1] at this; exact this
      exact ⟨v, w, _, _, _, rfl, by rw [hw]; exact .ty n, t1, kit_ok t2 hk, k _ H (Same.refl _) (r.pop.pop.psc rfl)⟩
    · rw [if_neg hk] at k; exact k.elim
  cases d' with
  | ty n =>
    cases d with
    | obj _ _ _ => exact k.elim
    | ty _ => exact k.elim
    | raw => exact k.elim
    | _ => exact key n rfl (by simp [tyN]) rfl
  | _ => cases d <;> exact k.elim
end
end Bd

set_option Elab.async false
set_option linter.all false
set_option maxRecDepth 100000
set_option maxHeartbeats 1000000
namespace Bd
open PySem PySem.Spec PyProof.Rows L2

/-! ### what is walked -/
def ItOk (M : Mx) (B Hb : Hp) (J : It) (τi : Sh) (t : Sh × D × V) (xs : List D) : Prop := ∀ (Γ : Gm) (E : En) (σ : Sg) (L T : Tm) (H : Hp) (n : Nat), Rel M B Hb Γ E σ (L ++ t :: T) H →
  (∀ d, xs[n]? = some d → J.go n H ∧ ∀ x H', J.yld n H x H' → Same H H' ∧ Rel M B Hb Γ E σ ((τi, d, x) :: (L ++ t :: T)) H') ∧ (xs.length ≤ n → J.stop n H)
def rdI (X : Cx) (c : Ct) (Γ : Gm) (m : En → R (List D)) (Γ' : Gm) (τi : Sh) : TI := fun σ H Q => ∃ E T, Rel (Cx.m X) c.B c.Hb Γ E σ T H ∧ (match m E with
  | .ok xs => ∀ J H' t, Same H H' → Rel (Cx.m X) c.B c.Hb Γ' E σ (t :: T) H' → t.1.noB = true → ItOk (Cx.m X) c.B c.Hb J τi t xs → xs.length ≤ sizeLine → Q J H'
  | .exn n ns ds => ∀ cls dd H', XRel (Cx.m X) cls dd n ns ds H' → Rel (Cx.m X) c.B c.Hb c.gx E σ T H' → c.W cls dd σ H'
  | .bad => False)
def SI (X : Cx) (c : Ct) (tg : Expr) (Γ : Gm) (e : Expr) (m : En → R (List D)) (Γ' : Gm) (τi : Sh) : Prop := PI X tg e (rdI X c Γ m Γ' τi)
theorem PI.mono {X : Cx} {tg e : Expr} {t t' : TI} (h : PI X tg e t) (k : ∀ σ H Q, t' σ H Q → t σ H Q) : PI X tg e t' := ⟨fun pins s σ H Q I q => h.run pins s σ H Q I (k σ H Q q)⟩
section
variable {M : Mx} {B Hb Hs H H' : Hp} {Γ : Gm} {E : En} {σ : Sg} {T : Tm}
theorem Tmps.mk : ∀ {L T : Tm} {f g : Fp}, Tmps M Hs H L f → Tmps M Hs H T g → Tmps M Hs H (L ++ T) (f ++ g) := by
  intro L
  induction L with
  | nil => intro T f g h h'; obtain rfl : f = [] := h; exact h'
  | cons t L ih =>
    intro T f g h h'
    obtain ⟨sh, d, v⟩ := t
    obtain ⟨k1, k2, e, h1, h2⟩ := h
    subst e
    exact ⟨k1, k2 ++ g, by rw [List.append_assoc], h1, ih h2 h'⟩
/-- a thing that owns nothing, read off the shared part of what is held -/
theorem Rel.at {L T : Tm} {sh : Sh} {d : D} {v : V} (r : Rel M B Hb Γ E σ (L ++ (sh, d, v) :: T) H) : ∃ Hs f1 f2 g1 g2 g3, RelA M B Hb Hs Γ E σ (L ++ (sh, d, v) :: T) H f1 f2 ∧ f2 = g1 ++ (g2 ++ g3) ∧ Tmps M Hs H L g1 ∧ RepS M Hs H sh d v g2 ∧ Tmps M Hs H T g3 := by
  obtain ⟨Hs, f1, f2, q⟩ := r
  obtain ⟨g1, g', e, h1, h2⟩ := Tmps.app q.tmp
  obtain ⟨g2, g3, e', h3, h4⟩ := h2
  subst e'; subst e
  exact ⟨Hs, f1, _, g1, g2, g3, q, rfl, h1, h3, h4⟩
theorem RelA.push {f1 f2 : Fp} {sh : Sh} {d : D} {v : V} (q : RelA M B Hb Hs Γ E σ T H f1 f2) (h : RepS M Hs H sh d v []) : Rel M B Hb Γ E σ ((sh, d, v) :: T) H :=
  ⟨Hs, f1, [] ++ f2, q.low, q.dom, q.bas, q.sub, q.slo, ⟨[], f2, rfl, h, q.tmp⟩, fun a => by have := q.fit a; rw [List.nil_append]; exact this⟩
theorem it_list {a : Addr} {ds : List D} : ItOk M B Hb (Itl M.K a) .s (.s, .lst ds, .ref a) ds := by
  intro Γ E σ L T H n r
  obtain ⟨Hs, f1, f2, g1, g2, g3, q, e, h1, h2, h3⟩ := r.at
  obtain ⟨⟨p, vs, ep, sq, z, rs⟩, _⟩ := h2
  cases ep
  have sq' := q.sub.seq sq
  refine ⟨fun d hd => ?_, fun hn => ⟨vs, sq', by rw [← rs.length]; exact hn⟩⟩
  obtain ⟨v, ev, rv⟩ := rs.get hd
  refine ⟨⟨vs, v, sq', ev⟩, fun x H' y => ?_⟩
  obtain ⟨rfl, y⟩ := y
  have : x = v := by have := y vs sq'; rw [ev] at this; exact (Option.some.inj this).symm
  subst this
  exact ⟨Same.refl _, q.push ⟨rv, rfl⟩⟩
theorem it_listC {a : Addr} {ds : List D} : ItOk M B Hb (Itl M.K a) .sc (.l .sc, .lst ds, .ref a) ds := by
  intro Γ E σ L T H n r
  obtain ⟨Hs, f1, f2, g1, g2, g3, q, e, h1, h2, h3⟩ := r.at
  obtain ⟨nb, p, vs, ds', f, e1, e2, e3, z, rl, e4⟩ := h2
  cases e1; cases e2
  have sq' : SqL M.K H a vs := .of e3
  refine ⟨fun d hd => ?_, fun hn => ⟨vs, sq', by rw [← rl.length]; exact hn⟩⟩
  obtain ⟨v, f', ev, rv, _⟩ := rl.get hd
  refine ⟨⟨vs, v, sq', ev⟩, fun x H' y => ?_⟩
  obtain ⟨rfl, y⟩ := y
  have : x = v := by have := y vs sq'; rw [ev] at this; exact (Option.some.inj this).symm
  subst this
  exact ⟨Same.refl _, q.push ⟨rv.1, rfl⟩⟩
theorem it_tup {a : Addr} {ds : List D} : ItOk M B Hb (Itt M.K a) .s (.s, .tup ds, .ref a) ds := by
  intro Γ E σ L T H n r
  obtain ⟨Hs, f1, f2, g1, g2, g3, q, e, h1, h2, h3⟩ := r.at
  obtain ⟨⟨p, vs, ep, sq, z, rs⟩, _⟩ := h2
  cases ep
  have sq' := SqT.same q.sub sq
  refine ⟨fun d hd => ?_, fun hn => ⟨vs, sq', by rw [← rs.length]; exact hn⟩⟩
  obtain ⟨v, ev, rv⟩ := rs.get hd
  refine ⟨⟨vs, v, sq', ev⟩, fun x H' y => ?_⟩
  obtain ⟨rfl, y⟩ := y
  have : x = v := by have := y vs sq'; rw [ev] at this; exact (Option.some.inj this).symm
  subst this
  exact ⟨Same.refl _, q.push ⟨rv, rfl⟩⟩
def rngD (lo : Int) (n : Nat) : List D := (List.range n).map fun (k : Nat) => .int (lo + (k : Int))
theorem rngD_get {lo : Int} {n k : Nat} {d : D} (h : (rngD lo n)[k]? = some d) : k < n ∧ d = .int (lo + (k : Int)) := by
  unfold rngD at h
  rw [List.getElem?_map] at h
  obtain ⟨j, hj, e⟩ := Option.map_eq_some_iff.mp h
  have hlt : k < n := by
    have := (List.getElem?_eq_some_iff.mp hj).1
    simpa using this
  rw [List.getElem?_range hlt] at hj
  cases hj
  exact ⟨hlt, e.symm⟩
theorem it_rng {lo : Int} {n : Nat} {t : Sh × D × V} : ItOk M B Hb (Itr lo n) .sc t (rngD lo n) := by
  intro Γ E σ L T H k r
  refine ⟨fun d hd => ?_, fun hn => by unfold rngD at hn; exact (show n ≤ k by simpa using hn)⟩
  obtain ⟨h1, h2⟩ := rngD_get hd
  subst h2
  refine ⟨h1, fun x H' y => ?_⟩
  obtain ⟨rfl, rfl⟩ := y
  exact ⟨Same.refl _, r.psc rfl⟩
end
section
variable {X : Cx} {c : Ct} {Γ Γ1 Γ2 Γ3 : Gm} {a b e tg : Expr} {es : List Expr} {ma mb m : En → R D} {ms : En → R (List D)} {τ τ1 τ2 : Sh} {τs : List Sh} {pos p p2 : Pos} {x : Str}
def dItems : D → R (List D)
  | .lst ds => .ok ds
  | _ => .bad
def dItemsT : D → R (List D)
  | .tup ds => .ok ds
  | _ => .bad
def iE (f : D → R (List D)) (m : En → R D) : En → R (List D) := fun E => (m E).bind f
theorem si_list (h : SE X c Γ e m Γ1 .s) : SI X c tg Γ e (iE dItems m) Γ1 .s := PI.mono (pi_list h) fun σ H Q ⟨E, T, r, k⟩ => ⟨E, T, r, by
  unfold iE at k
  cases e1 : m E with
  | ok d =>
    rw [e1] at k
    dsimp only [R.bind] at k
    intro v H1 s1 r1
    cases d with
    | lst ds =>
      obtain ⟨p, vs, e2, sq, z, rs⟩ := r1.top.lst
      subst e2
      exact ⟨p, rfl, ⟨vs, sq⟩, k _ _ _ s1 r1 rfl it_list (by rw [rs.length]; exact z)⟩
    | _ => exact k.elim
  | exn n ns ds => rw [e1] at k; exact k
  | bad => rw [e1] at k; exact k⟩
theorem si_listC (h : SE X c Γ e m Γ1 (.l .sc)) : SI X c tg Γ e (iE dItems m) Γ1 .sc := PI.mono (pi_list h) fun σ H Q ⟨E, T, r, k⟩ => ⟨E, T, r, by
  unfold iE at k
  cases e1 : m E with
  | ok d =>
    rw [e1] at k
    dsimp only [R.bind] at k
    intro v H1 s1 r1
    cases d with
    | lst ds =>
      obtain ⟨p, vs, e2, sq, z, rs⟩ := r1.top.lst
      subst e2
      exact ⟨p, rfl, ⟨vs, sq⟩, k _ _ _ s1 r1 rfl it_listC (by rw [rs.length]; exact z)⟩
    | _ => exact k.elim
  | exn n ns ds => rw [e1] at k; exact k
  | bad => rw [e1] at k; exact k⟩
theorem si_tup (h : SE X c Γ e m Γ1 .s) : SI X c tg Γ e (iE dItemsT m) Γ1 .s := PI.mono (pi_tup h) fun σ H Q ⟨E, T, r, k⟩ => ⟨E, T, r, by
  unfold iE at k
  cases e1 : m E with
  | ok d =>
    rw [e1] at k
    dsimp only [R.bind] at k
    intro v H1 s1 r1
    cases d with
    | tup ds =>
      obtain ⟨p, vs, e2, sq, z, rs⟩ := r1.top.tup
      subst e2
      exact ⟨p, rfl, ⟨vs, sq⟩, k _ _ _ s1 r1 rfl it_tup (by rw [rs.length]; exact z)⟩
    | _ => exact k.elim
  | exn n ns ds => rw [e1] at k; exact k
  | bad => rw [e1] at k; exact k⟩
def dRng1 : List D → R (List D)
  | [.int j] => if -(2 ^ 62) ≤ j ∧ j ≤ 16777216 then .ok (rngD 0 j.toNat) else .bad
  | _ => .bad
def dRng2 : List D → R (List D)
  | [.int i, .int j] => if (-(2 ^ 62) ≤ i ∧ i < 2 ^ 62 ∧ -(2 ^ 62) ≤ j ∧ j < 2 ^ 62) ∧ j - i ≤ 16777216 then .ok (rngD i (j - i).toNat) else .bad
  | _ => .bad
def iA (f : List D → R (List D)) (m : En → R (List D)) : En → R (List D) := fun E => (m E).bind f
theorem rngD_len {lo : Int} {n : Nat} : (rngD lo n).length = n := by unfold rngD; simp
theorem si_range1 (hg : Gl X "range") (hm : X.mg "range" = none) (h : SA X c Γ [a] ms Γ1 τs) (hs : starEach [a] X.env = [(false, eval a X.env)] := by rfl) : SI X c tg Γ (.Call (.Name "range" p) [a] [] pos) (iA dRng1 ms) Γ1 .sc :=
  PI.mono (pi_range1 hg hm h hs) fun σ H Q ⟨E, T, r, k⟩ => ⟨E, T, r, by
  unfold iA at k
  cases e1 : ms E with
  | ok ds =>
    rw [e1] at k
    dsimp only [R.bind] at k
    intro ts H1 s1 q1 q2 r1
    have ar := r1.args
    rw [q2] at ar
    cases ds with
    | nil => exact k.elim
    | cons d ds =>
      cases ds with
      | cons _ _ => cases d <;> exact k.elim
      | nil =>
        cases d with
        | int j =>
          dsimp only [dRng1] at k
          by_cases hc : -(2 ^ 62) ≤ j ∧ j ≤ 16777216
          · rw [if_pos hc] at k
            obtain ⟨v, rr, e2, rv, e3⟩ := ar
            have e3' : rr = [] := e3
            subst e3'
            have hv : v = .int j := rv
            subst hv
            refine ⟨j, e2, hc.1, by omega, k _ _ (.sc, .non, .non) s1 (r1.drops.psc rfl) rfl ?_ ?_⟩
            · exact it_rng
            · rw [rngD_len, sizeLine_eq]; omega
          · rw [if_neg hc] at k; exact k.elim
        | _ => exact k.elim
  | exn n ns ds => rw [e1] at k; exact k
  | bad => rw [e1] at k; exact k⟩
theorem si_range2 (hg : Gl X "range") (hm : X.mg "range" = none) (h : SA X c Γ [a, b] ms Γ1 τs) (hs : starEach [a, b] X.env = [(false, eval a X.env), (false, eval b X.env)] := by rfl) (hs2 : starEach [b] X.env = [(false, eval b X.env)] := by rfl) : SI X c tg Γ (.Call (.Name "range" p) [a, b] [] pos) (iA dRng2 ms) Γ1 .sc :=
  PI.mono (pi_range2 hg hm h hs hs2) fun σ H Q ⟨E, T, r, k⟩ => ⟨E, T, r, by
  unfold iA at k
  cases e1 : ms E with
  | ok ds =>
    rw [e1] at k
    dsimp only [R.bind] at k
    intro ts H1 s1 q1 q2 r1
    have ar := r1.args
    rw [q2] at ar
    cases ds with
    | nil => exact k.elim
    | cons d ds =>
      cases ds with
      | nil => cases d <;> exact k.elim
      | cons d' ds =>
        cases ds with
        | cons _ _ => cases d <;> cases d' <;> exact k.elim
        | nil =>
          cases d with
          | int i =>
            cases d' with
            | int j =>
              dsimp only [dRng2] at k
              by_cases hc : (-(2 ^ 62) ≤ i ∧ i < 2 ^ 62 ∧ -(2 ^ 62) ≤ j ∧ j < 2 ^ 62) ∧ j - i ≤ 16777216
              · rw [if_pos hc] at k
                obtain ⟨v, rr, e2, rv, v', rr', e3, rv', e4⟩ := ar
                have e4' : rr' = [] := e4
                subst e4'
                have hv : v = .int i := rv
                have hv' : v' = .int j := rv'
                subst hv; subst hv'; subst e3
                refine ⟨i, j, e2, hc.1, k _ _ (.sc, .non, .non) s1 (r1.drops.psc rfl) rfl ?_ ?_⟩
                · exact it_rng
                · rw [rngD_len, sizeLine_eq]; omega
              · rw [if_neg hc] at k; exact k.elim
            | _ => exact k.elim
          | _ => cases d' <;> exact k.elim
  | exn n ns ds => rw [e1] at k; exact k
  | bad => rw [e1] at k; exact k⟩
end

/-! ### comprehensions -/
def mapO (f : D → R (Option D)) : List D → R (List D)
  | [] => .ok []
  | x :: xs => match f x with
    | .ok none => mapO f xs
    | .ok (some y) => match mapO f xs with
      | .ok ys => .ok (y :: ys)
      | _ => .bad
    | _ => .bad
def cTurn (i : Nat) (t : En → R Bool) (m : En → R D) (E : En) (d : D) : R (Option D) := match t (E.set i (some d)) with
  | .ok true => match m (E.set i (some d)) with
    | .ok y => .ok (some y)
    | _ => .bad
  | .ok false => .ok none
  | _ => .bad
def tY : En → R Bool := fun _ => .ok true
def eComp (i : Nat) (src : En → R (List D)) (t : En → R Bool) (m : En → R D) : En → R D := fun E => (src E).bind fun xs => match mapO (cTurn i t m E) xs with
  | .ok ys => .ok (.lst ys)
  | _ => .bad
section
variable {M : Mx} {B Hb Hs H H' : Hp} {Γ : Gm} {E : En} {σ : Sg} {T : Tm}
def nbT (t : Sh × D × V) : Bool := t.1.noB
theorem RepS.bnil {sh : Sh} {d : D} {v : V} {f : Fp} (h : RepS M Hs H sh d v f) (k : sh.noB = false) : sh = .b ∧ f = [] ∧ Rep M H d v := by
  cases sh with
  | b => exact ⟨rfl, h.2, h.1⟩
  | _ => exact absurd (show true = false from k) (by decide)
theorem Tmps.forget : ∀ {T : Tm} {f : Fp}, Tmps M Hs H T f → Tmps M Hs H (T.filter nbT) f ∧ ∀ t ∈ T, t.1 = .b → Rep M H t.2.1 t.2.2
  | [], f, h => ⟨h, fun t ht => nomatch ht⟩
  | (sh, d, v) :: T, f, h => by
    obtain ⟨f1, f2, e, h1, h2⟩ := h
    obtain ⟨i1, i2⟩ := Tmps.forget h2
    by_cases hb : sh.noB = true
    · refine ⟨?_, fun t ht eb => ?_⟩
      · rw [List.filter_cons_of_pos (by exact hb)]
        exact ⟨f1, f2, e, h1, i1⟩
      · rcases List.mem_cons.mp ht with z | z
        · subst z; have eb' : sh = .b := eb
          subst eb'; cases hb
        · exact i2 t z eb
    · have hb' : sh.noB = false := by simpa using hb
      obtain ⟨e1, e2, rp⟩ := h1.bnil hb'
      subst e2; subst e
      refine ⟨?_, fun t ht eb => ?_⟩
      · rw [List.filter_cons_of_neg (by exact hb)]
        exact i1
      · rcases List.mem_cons.mp ht with z | z
        · subst z; exact rp
        · exact i2 t z eb
theorem Tmps.recall : ∀ {T : Tm} {f : Fp}, Tmps M Hs H (T.filter nbT) f → (∀ t ∈ T, t.1 = .b → Rep M H t.2.1 t.2.2) → Tmps M Hs H T f
  | [], f, h, _ => h
  | (sh, d, v) :: T, f, h, k => by
    by_cases hb : sh.noB = true
    · rw [List.filter_cons_of_pos (by exact hb)] at h
      obtain ⟨f1, f2, e, h1, h2⟩ := h
      exact ⟨f1, f2, e, h1, Tmps.recall h2 fun t ht => k t (List.mem_cons_of_mem _ ht)⟩
    · rw [List.filter_cons_of_neg (by exact hb)] at h
      have eb : sh = .b := by cases sh <;> first | rfl | exact absurd rfl hb
      subst eb
      exact ⟨[], f, rfl, ⟨k (.b, d, v) List.mem_cons_self rfl, rfl⟩, Tmps.recall h fun t ht => k t (List.mem_cons_of_mem _ ht)⟩
theorem TB_filter (T : Tm) : TB (T.filter nbT) = true := by
  unfold TB
  rw [List.all_eq_true]
  intro t ht
  exact (List.mem_filter.mp ht).2
/-- a held owned list grows -/
theorem Rel.grown {e : Sh} {ys : List D} {y : D} {w : V} {p : Addr} (gb : GB Γ = true) (tb : TB T = true) (r : Rel M B Hb Γ E σ ((e, y, w) :: (.l e, .lst ys, .ref p) :: T) H) :
    ∃ acc, H p = some (.lst acc) ∧ acc.length = ys.length ∧ (ys.length < sizeLine → Rel M B Hb Γ E σ ((.l e, .lst (ys ++ [y]), .ref p) :: T) (upd H p (.lst (acc ++ [w])))) ∧ B p = none ∧ (∃ Hs0, Same Hs0 H ∧ Hs0 p = none) := by
  obtain ⟨Hs, f1, f2, q⟩ := r
  obtain ⟨g1, g', ee, h1, g2, g3, e', h2, h3⟩ := q.tmp
  subst e'; subst ee
  obtain ⟨nb, p', vs, ds', f, z1, z2, z3, z4, rl, z5⟩ := h2
  cases z1; cases z2; subst z5
  have fit := q.fit
  simp only [List.count_append, List.count_cons] at fit
  have hp : cap B Hs p = 1 ∧ g1.count p = 0 ∧ f.count p = 0 ∧ g3.count p = 0 ∧ f1.count p = 0 := by
    have h := fit p
    have := cap_le B Hs p
    simp only [beq_self_eq_true, if_true] at h
    omega
  obtain ⟨c0, c1, c2, c3, c4⟩ := hp
  obtain ⟨nB, nH⟩ := cap_pos (B := B) (Hs := Hs) (a := p) (by omega)
  refine ⟨vs, z3, rl.length.symm, fun hz => ?_, nB, Hs, q.sub, nH⟩
  have ne : ∀ {g : Fp} {a : Addr}, g.count p = 0 → a ∈ g → a ≠ p := fun {g a} hc m z => by subst z; have := mem_count m; omega
  have kp : ∀ {g : Fp}, g.count p = 0 → ∀ a ∈ g, ∀ o, H a = some o → upd H p (.lst (vs ++ [w])) a = some o := fun {g} hc a m o ho => by rw [upd_ne (ne hc m)]; exact ho
  refine ⟨Hs, f1, (p :: (f ++ g1)) ++ g3, q.low, q.dom, fun b o z => ?_, fun b o z => ?_, q.slo.mono (Same.refl _) (fun z => by rw [gb] at z; cases z) (kp c4), ⟨p :: (f ++ g1), g3, rfl, ?_, h3.mono (Same.refl _) (fun z => by rw [tb] at z; cases z) (kp c3)⟩, fun a => ?_⟩
  · rw [upd_ne (ne_of_none z nB)]; exact q.bas b o z
  · rw [upd_ne (ne_of_none z nH)]; exact q.sub b o z
  · refine ⟨nb, p, vs ++ [w], ys ++ [y], f ++ g1, rfl, rfl, upd_same, ?_, ?_, rfl⟩
    · have := rl.length; rw [List.length_append, List.length_singleton]; omega
    · have nbe : e.noB = false → Same H (upd H p (.lst (vs ++ [w]))) := fun z => by rw [nb] at z; cases z
      have a1 : RepL (RepS M Hs (upd H p (.lst (vs ++ [w]))) e) ys vs f := rl.mono fun d v f' hs x => x.mono (Same.refl _) e nbe (fun a m o ho => kp c2 a (hs a m) o ho)
      have a2 : RepS M Hs (upd H p (.lst (vs ++ [w]))) e y w g1 := h1.mono (Same.refl _) e nbe (kp c1)
      have app : ∀ {ds : List D} {vs : List V} {f g : Fp} {P : D → V → Fp → Prop}, RepL P ds vs f → P y w g → RepL P (ds ++ [y]) (vs ++ [w]) (f ++ g) := by
        intro ds
        induction ds with
        | nil =>
          intro vs f g P h h'
          obtain ⟨rfl, rfl⟩ := h
          exact ⟨w, [], g, [], rfl, by simp, h', rfl, rfl⟩
        | cons d ds ih =>
          intro vs f g P h h'
          obtain ⟨v, r, k1, k2, e1, e2, h1, h2⟩ := h
          subst e1; subst e2
          exact ⟨v, r ++ [w], k1, k2 ++ g, rfl, by rw [List.append_assoc], h1, ih h2 h'⟩
      exact app a1 a2
  · have := fit a
    simp only [List.count_append, List.count_cons] at this ⊢
    omega
end
end Bd

set_option Elab.async false
set_option linter.all false
set_option maxRecDepth 100000
set_option maxHeartbeats 1000000
namespace Bd
open PySem PySem.Spec PyProof.Rows L2

def nn (Γ : Gm) : Gm := Γ.map fun _ => none
/-- within a comprehension's block nothing may be raised -/
def Ct.blk (c : Ct) (Γ : Gm) : Ct := { c with W := fun _ _ _ _ => False, gx := nn Γ }
/-- a clause's test -/
def STs (X : Cx) (c : Ct) (Γ : Gm) (e : List Expr) (m : En → R Bool) (Γ' : Gm) : Prop := PTs X e (rdT X c Γ m Γ')
section
variable {X : Cx} {c : Ct} {Γ Γ0 Γ1 Γ2 Γ3 Γ4 : Gm} {a b e tg elt iter : Expr} {ifs : List Expr} {ma mb m me : En → R D} {ms : En → R (List D)} {mt : En → R Bool} {τ τ1 τ2 τi τe : Sh} {pos p p2 pos' : Pos} {x : Str} {i : Nat} {scope : Scope}
theorem PTs.mono {X : Cx} {e : List Expr} {t t' : TT} (h : PTs X e t) (k : ∀ σ H Q, t' σ H Q → t σ H Q) : PTs X e t' := ⟨fun pins s σ H Q I q => h.run pins s σ H Q I (k σ H Q q)⟩
theorem sts_n : STs X c Γ [] tY Γ := PTs.mono pts_nil fun σ H Q ⟨E, T, r, k⟩ => k H (Same.refl _) r
theorem sts_1 (h : ST X c Γ a mt Γ1) : STs X c Γ [a] mt Γ1 := pts_one h

/-- the reading of a comprehension, from what it gives -/
theorem comp_rd {src : En → R (List D)} (hΓ0 : wk Γ1 Γ0 = true) (h0i : Γ0[i]? = some none) (gb1 : GB Γ1 = true) (gb0 : GB Γ0 = true) (h4 : wk (Γ4.set i none) Γ0 = true) (gb4 : GB (Γ4.set i none) = true) (h3 : wk (Γ3.set i none) Γ0 = true) (gb3 : GB (Γ3.set i none) = true)
    (hil : i < Γ4.length) (hil3 : i < Γ3.length) (ne : τe.noB = true) (σ : Sg) (H : Hp) (Q : VK) (q : rdE X c Γ (eComp i src mt me) Γ0 (.l τe) σ H Q) :
    tLc (rdI X c Γ src Γ1 τi) (gName i) (rdT X (c.blk Γ) (Γ0.set i (some τi)) mt Γ3) (rdE X (c.blk Γ) Γ3 me Γ4 τe) [i] σ H Q := by
  obtain ⟨E, T, r, k⟩ := q
  refine ⟨E, T, r, ?_⟩
  unfold eComp at k
  cases e1 : src E with
  | exn n ns ds => rw [e1] at k; exact k
  | bad => rw [e1] at k; exact k
  | ok xs =>
    rw [e1] at k
    dsimp only [R.bind] at k
    intro J H1 t s1 r1 tb it hz D hD
    cases e2 : mapO (cTurn i mt me E) xs with
    | exn n ns ds => rw [e2] at k; exact k.elim
    | bad => rw [e2] at k; exact k.elim
    | ok out =>
    rw [e2] at k
    dsimp only at k
    -- what stands outside
    have sD : Same H1 (upd H1 D (.lst [])) := same_new hD
    have r0 := r1.weak gb1 hΓ0
    obtain ⟨Hs, f1, f2, q⟩ := id r0
    obtain ⟨t0, td, tv⟩ := t
    obtain ⟨g1, g2, e3, h1, h2⟩ := q.tmp
    obtain ⟨fo, bs⟩ := h2.forget
    have il : i < E.length ∧ i < σ.length := by
      have := q.slo.len
      have h := (List.getElem?_eq_some_iff.mp h0i).1
      omega
    have q1 : RelA (Cx.m X) c.B c.Hb Hs Γ0 E (wipe σ [i]) ((t0, td, tv) :: T.filter nbT) H1 f1 f2 := ⟨q.low, q.dom, q.bas, q.sub, by
      have := q.slo.dead (e := E[i]?.getD none) (x := none) h0i
      rw [set_self (l := E) (x := E[i]?.getD none) (by rw [List.getElem?_eq_getElem il.1]; rfl)] at this
      exact this, ⟨g1, g2, e3, h1, fo⟩, q.fit⟩
    have start : Rel (Cx.m X) c.B c.Hb Γ0 E (wipe σ [i]) ((.l τe, .lst [], .ref D) :: (t0, td, tv) :: T.filter nbT) (upd H1 D (.lst [])) := q1.newL ne hD (Nat.zero_le _) ⟨rfl, rfl⟩
    refine ⟨fun n m H => m = xs.length - n ∧ n ≤ xs.length ∧ Same H1 H ∧ ∃ ys zs, Rel (Cx.m X) c.B c.Hb Γ0 E (wipe σ [i]) ((.l τe, .lst ys, .ref D) :: (t0, td, tv) :: T.filter nbT) H ∧ mapO (cTurn i mt me E) (xs.drop n) = .ok zs ∧ ys ++ zs = out ∧ ys.length ≤ n, ⟨xs.length, rfl, Nat.zero_le _, sD, [], out, start, e2, rfl, Nat.le_refl _⟩, ?_⟩
    rintro n m H ⟨rfl, hn, sH, ys, zs, rr, em, eo, hy⟩
    have itn := it Γ0 E (wipe σ [i]) [(.l τe, .lst ys, .ref D)] (T.filter nbT) H n rr
    by_cases hlt : n < xs.length
    · right
      have ex : xs[n]? = some xs[n] := List.getElem?_eq_getElem hlt
      obtain ⟨go, yl⟩ := itn.1 xs[n] ex
      have ed : xs.drop n = xs[n] :: xs.drop (n + 1) := List.drop_eq_getElem_cons hlt
      rw [ed] at em
      refine ⟨go, fun H' => Same H1 H' ∧ ∃ ys zs, Rel (Cx.m X) c.B c.Hb Γ0 E (wipe σ [i]) ((.l τe, .lst ys, .ref D) :: (t0, td, tv) :: T.filter nbT) H' ∧ mapO (cTurn i mt me E) (xs.drop (n + 1)) = .ok zs ∧ ys ++ zs = out ∧ ys.length ≤ n + 1,
        fun H' ⟨s, w⟩ => ⟨xs.length - (n + 1), by omega, rfl, hlt, s, w⟩, fun v H' y => ?_⟩
      obtain ⟨s2, r2⟩ := yl v H' y
      have wl : (wipe σ [i]).length = σ.length := wipe_length _ _
      have r3 := r2.store (i := i) (List.getElem?_eq_some_iff.mp h0i).1 gb0
      refine ⟨?_, ?_⟩
      · show (((σ.set i none).set i (some v)).set i none) = σ.set i none
        rw [List.set_set, List.set_set]
      have back : ∀ {H6 : Hp} {Γ' : Gm} {L : Tm}, wk (Γ'.set i none) Γ0 = true → GB (Γ'.set i none) = true → i < Γ'.length → Rel (Cx.m X) c.B c.Hb Γ' (E.set i (some xs[n])) ((wipe σ [i]).set i (some v)) L H6 → Rel (Cx.m X) c.B c.Hb Γ0 E (wipe σ [i]) L H6 := by
        intro H6 Γ' L hw hg hl rx
        have ry := (rx.kill hl).weak hg hw
        obtain ⟨Hs', f1', f2', q'⟩ := ry
        refine ⟨Hs', f1', f2', q'.low, q'.dom, q'.bas, q'.sub, ?_, q'.tmp, q'.fit⟩
        have := q'.slo.dead (e := E[i]?.getD none) (x := none) h0i
        rw [List.set_set, List.set_set, set_self (l := E) (x := E[i]?.getD none) (by rw [List.getElem?_eq_getElem il.1]; rfl), set_self (l := wipe σ [i]) (x := none) (by show (σ.set i none)[i]? = some none; exact List.getElem?_set_self il.2)] at this
        exact this
      refine ⟨E.set i (some xs[n]), _, r3, ?_⟩
      have em2 : (match cTurn i mt me E xs[n] with | .ok none => mapO (cTurn i mt me E) (xs.drop (n + 1)) | .ok (some y) => (match mapO (cTurn i mt me E) (xs.drop (n + 1)) with | .ok ys => R.ok (y :: ys) | _ => .bad) | _ => .bad) = .ok zs := em
      have ct : cTurn i mt me E xs[n] = (match mt (E.set i (some xs[n])) with | .ok true => (match me (E.set i (some xs[n])) with | .ok y => .ok (some y) | _ => .bad) | .ok false => .ok none | _ => .bad) := rfl
      rw [ct] at em2
      cases e4 : mt (E.set i (some xs[n])) with
      | exn n ns ds => rw [e4] at em2; cases em2
      | bad => rw [e4] at em2; cases em2
      | ok bt =>
        rw [e4] at em2
        intro H5 s5 r5
        cases bt with
        | false =>
          rw [if_neg Bool.false_ne_true]
          dsimp only at em2
          exact ⟨(sH.trans s2).trans s5, ys, zs, back h3 gb3 hil3 r5, em2, eo, by omega⟩
        | true =>
          rw [if_pos rfl]
          dsimp only at em2
          refine ⟨E.set i (some xs[n]), _, r5, ?_⟩
          cases e5 : me (E.set i (some xs[n])) with
          | exn n ns ds => rw [e5] at em2; cases em2
          | bad => rw [e5] at em2; cases em2
          | ok yd =>
            rw [e5] at em2
            dsimp only at em2
            intro w H6 s6 r6
            have r7 := back h4 gb4 hil r6
            have tbT : TB ((t0, td, tv) :: T.filter nbT) = true := by
              have := TB_filter T
              unfold TB at this ⊢
              rw [List.all_cons, this, Bool.and_true]; exact tb
            obtain ⟨acc, a1, a2, a3, a4, _⟩ := r7.grown gb0 tbT
            refine ⟨acc, a1, by omega, ?_, ?_⟩
            · intro b o z
              have nb : b ≠ D := ne_of_none z hD
              rw [upd_ne nb]
              exact s6 b o (s5 b o (s2 b o (sH b o z)))
            · cases e6 : mapO (cTurn i mt me E) (xs.drop (n + 1)) with
              | ok zs' =>
                rw [e6] at em2
                dsimp only at em2
                cases em2
                exact ⟨ys ++ [yd], zs', a3 (by omega), rfl, by rw [List.append_assoc]; exact eo, by rw [List.length_append, List.length_singleton]; omega⟩
              | exn n ns ds => rw [e6] at em2; cases em2
              | bad => rw [e6] at em2; cases em2
    · left
      refine ⟨itn.2 (by omega), k _ H (s1.trans sH) ?_⟩
      have e7 : xs.drop n = [] := List.drop_eq_nil_of_le (by omega)
      rw [e7] at em
      cases em
      rw [List.append_nil] at eo
      subst eo
      obtain ⟨Hs', f1', f2', q'⟩ := rr.under (L := [(t0, td, tv)])
      obtain ⟨k1, k2, e8, u1, u2⟩ := q'.tmp
      refine ⟨Hs', f1', f2', q'.low, q'.dom, q'.bas, q'.sub, ?_, ⟨k1, k2, e8, u1, u2.recall fun t ht eb => (bs t ht eb).mono sH⟩, q'.fit⟩
      have := q'.slo.dead (e := E[i]?.getD none) (x := σ[i]?.getD none) h0i
      rw [set_self (l := E) (x := E[i]?.getD none) (by rw [List.getElem?_eq_getElem il.1]; rfl)] at this
      have e9 : (wipe σ [i]).set i (σ[i]?.getD none) = σ := by
        show (σ.set i none).set i _ = σ
        rw [List.set_set]
        exact set_self (by rw [List.getElem?_eq_getElem il.2]; rfl)
      rw [e9] at this
      exact this
end
end Bd

set_option Elab.async false
set_option linter.all false
set_option maxRecDepth 100000
set_option maxHeartbeats 1000000
namespace Bd
open PySem PySem.Spec PyProof.Rows L2

section
variable {M : Mx} {B Hb Hs H H' : Hp} {Γ : Gm} {E : En} {σ : Sg} {T : Tm}
theorem Rel.swap {t u : Sh × D × V} (r : Rel M B Hb Γ E σ (t :: u :: T) H) : Rel M B Hb Γ E σ (u :: t :: T) H := by
  obtain ⟨Hs, f1, f2, q⟩ := r
  obtain ⟨s1, d1, v1⟩ := t
  obtain ⟨s2, d2, v2⟩ := u
  obtain ⟨g1, g', e, h1, g2, g3, e', h2, h3⟩ := q.tmp
  subst e'; subst e
  refine ⟨Hs, f1, g2 ++ (g1 ++ g3), q.low, q.dom, q.bas, q.sub, q.slo, ⟨g2, _, rfl, h2, g1, g3, rfl, h1, h3⟩, fun a => ?_⟩
  have := q.fit a
  simp only [List.count_append] at this ⊢
  omega
/-- a held owned list has an item exchanged -/
theorem Rel.setAt {e : Sh} {ys : List D} {y : D} {w : V} {p : Addr} {j : Nat} (gb : GB Γ = true) (tb : TB T = true) (hj : j < ys.length) (r : Rel M B Hb Γ E σ ((e, y, w) :: (.l e, .lst ys, .ref p) :: T) H) :
    ∃ acc, H p = some (.lst acc) ∧ acc.length = ys.length ∧ Rel M B Hb Γ E σ ((.l e, .lst (ys.set j y), .ref p) :: T) (upd H p (.lst (acc.set j w))) := by
  obtain ⟨Hs, f1, f2, q⟩ := r
  obtain ⟨g1, g', ee, h1, g2, g3, e', h2, h3⟩ := q.tmp
  subst e'; subst ee
  obtain ⟨nb, p', vs, ds', f, z1, z2, z3, z4, rl, z5⟩ := h2
  cases z1; cases z2; subst z5
  have fit := q.fit
  simp only [List.count_append, List.count_cons] at fit
  have hp : cap B Hs p = 1 ∧ g1.count p = 0 ∧ f.count p = 0 ∧ g3.count p = 0 ∧ f1.count p = 0 := by
    have h := fit p
    have := cap_le B Hs p
    simp only [beq_self_eq_true, if_true] at h
    omega
  obtain ⟨c0, c1, c2, c3, c4⟩ := hp
  obtain ⟨nB, nH⟩ := cap_pos (B := B) (Hs := Hs) (a := p) (by omega)
  refine ⟨vs, z3, rl.length.symm, ?_⟩
  have ne : ∀ {g : Fp} {a : Addr}, g.count p = 0 → a ∈ g → a ≠ p := fun {g a} hc m z => by subst z; have := mem_count m; omega
  have kp : ∀ {g : Fp}, g.count p = 0 → ∀ a ∈ g, ∀ o, H a = some o → upd H p (.lst (vs.set j w)) a = some o := fun {g} hc a m o ho => by rw [upd_ne (ne hc m)]; exact ho
  have nbe : e.noB = false → Same H (upd H p (.lst (vs.set j w))) := fun z => by rw [nb] at z; cases z
  have a1 : RepL (RepS M Hs (upd H p (.lst (vs.set j w))) e) ys vs f := rl.mono fun d v f' hs x => x.mono (Same.refl _) e nbe (fun a m o ho => kp c2 a (hs a m) o ho)
  have a2 : RepS M Hs (upd H p (.lst (vs.set j w))) e y w g1 := h1.mono (Same.refl _) e nbe (kp c1)
  have put : ∀ {ds : List D} {vs : List V} {f : Fp} {j : Nat} {P : D → V → Fp → Prop}, j < ds.length → RepL P ds vs f → P y w g1 → ∃ f', (∀ a, f'.count a ≤ f.count a + g1.count a) ∧ RepL P (ds.set j y) (vs.set j w) f' := by
    intro ds
    induction ds with
    | nil => intro vs f j P hj; simp at hj
    | cons d ds ih =>
      intro vs f j P hj h h'
      obtain ⟨v, r, k1, k2, e1, e2, h1, h2⟩ := h
      subst e1; subst e2
      cases j with
      | zero => exact ⟨g1 ++ k2, fun a => by simp only [List.count_append]; omega, w, r, g1, k2, rfl, rfl, h', h2⟩
      | succ j =>
        obtain ⟨f', c', r'⟩ := ih (by simpa using hj) h2 h'
        exact ⟨k1 ++ f', fun a => by have := c' a; simp only [List.count_append]; omega, v, r.set j w, k1, f', rfl, rfl, h1, r'⟩
  obtain ⟨f', c', r'⟩ := put hj a1 a2
  refine ⟨Hs, f1, (p :: f') ++ g3, q.low, q.dom, fun b o z => ?_, fun b o z => ?_, q.slo.mono (Same.refl _) (fun z => by rw [gb] at z; cases z) (kp c4), ⟨p :: f', g3, rfl, ?_, h3.mono (Same.refl _) (fun z => by rw [tb] at z; cases z) (kp c3)⟩, fun a => ?_⟩
  · rw [upd_ne (ne_of_none z nB)]; exact q.bas b o z
  · rw [upd_ne (ne_of_none z nH)]; exact q.sub b o z
  · exact ⟨nb, p, vs.set j w, ys.set j y, f', rfl, rfl, upd_same, by simpa using z4, r', rfl⟩
  · have := fit a
    have := c' a
    simp only [List.count_append, List.count_cons] at this ⊢
    omega
theorem Rel.own {i : Nat} {e : Sh} (r : Rel M B Hb Γ E σ T H) (h : Γ[i]? = some (some (.l e))) : ∃ p ds vs, E[i]? = some (some (.lst ds)) ∧ σ[i]? = some (some (.ref p)) ∧ H p = some (.lst vs) ∧ vs.length = ds.length := by
  obtain ⟨Hs, f1, f2, q⟩ := r
  obtain ⟨d, v, f, e1, e2, rs, _⟩ := q.slo.get h
  obtain ⟨nb, p, vs, ds', f', z1, z2, z3, z4, rl, z5⟩ := rs
  subst z1; subst z2
  exact ⟨p, ds', vs, e1, e2, z3, rl.length.symm⟩
end

/-! ### statements -/
def sSeq (a b : En → Out) : En → Out := fun E => match a E with
  | .nx E' => b E'
  | o => o
def sAsg (i : Nat) (m : En → R D) : En → Out := fun E => match m E with
  | .ok d => .nx (E.set i (some d))
  | .exn c ns ds => .exn c ns ds E
  | .bad => .bad
def sExpr (m : En → R D) : En → Out := fun E => match m E with
  | .ok d => .nx E
  | .exn c ns ds => .exn c ns ds E
  | .bad => .bad
def sRet (m : En → R D) : En → Out := fun E => match m E with
  | .ok d => .rt d
  | .exn c ns ds => .exn c ns ds E
  | .bad => .bad
def sIf (t : En → R Bool) (a b : En → Out) : En → Out := fun E => match t E with
  | .ok true => a E
  | .ok false => b E
  | .exn c ns ds => .exn c ns ds E
  | .bad => .bad
def sPass : En → Out := fun E => .nx E
def sBrk : En → Out := fun E => .bk E
def sCnt : En → Out := fun E => .ct E
def lAt (i : Nat) (E : En) : R (List D) := match E[i]? with
  | some (some (.lst xs)) => .ok xs
  | _ => .bad
def sApp (i : Nat) (m : En → R D) : En → Out := fun E => match m E with
  | .ok d => match lAt i E with
    | .ok xs => if xs.length < 16777216 then .nx (E.set i (some (.lst (xs ++ [d])))) else .bad
    | _ => .bad
  | .exn c ns ds => .exn c ns ds E
  | .bad => .bad
def sPut (i : Nat) (mi m : En → R D) : En → Out := fun E => match m E with
  | .ok d => match mi E with
    | .ok (.int k) => match lAt i E with
      | .ok xs => match ixN xs.length k with
        | some j => .nx (E.set i (some (.lst (xs.set j d))))
        | none => .bad
      | _ => .bad
    | .ok _ => .bad
    | .exn c ns ds => .exn c ns ds E
    | .bad => .bad
  | .exn c ns ds => .exn c ns ds E
  | .bad => .bad
section
variable {X : Cx} {c : Ct} {Γ Γ0 Γ1 Γ2 Γ3 Γ4 : Gm} {a b e tg elt iter : Expr} {st : Stmt} {sts rest : List Stmt} {ifs : List Expr} {ma mb m me mi : En → R D} {ms src : En → R (List D)} {mt : En → R Bool} {sa sb : En → Out} {τ τ1 τ2 τi τe : Sh} {pos p p2 pos' px py : Pos} {x y : Str} {i j : Nat} {scope : Scope}

theorem SSs.we (h : SSs X c Γ sts sa Γ1) (hw : wk Γ1 Γ2 = true := by rfl) (gb : GB Γ1 = true := by rfl) : SSs X c Γ sts sa Γ2 := PSs.mono h fun D σ H ⟨E, T, tb, r, k⟩ => ⟨E, T, tb, r, by
  cases e : sa E with
  | nx E' => rw [e] at k; exact fun σ' H' r' => k σ' H' (r'.weak gb hw)
  | _ => rw [e] at k; exact k⟩
/-- what is known ahead may be less -/
theorem SSs.pre (hw : wk Γ Γ1 = true) (gb : GB Γ = true) (h : SSs X c Γ1 sts sa Γ2) : SSs X c Γ sts sa Γ2 := PSs.mono h fun D σ H ⟨E, T, tb, r, k⟩ => ⟨E, T, tb, r.weak gb hw, k⟩
theorem SS.pre (hw : wk Γ Γ1 = true) (gb : GB Γ = true) (h : SS X c Γ1 st sa Γ2) : SS X c Γ st sa Γ2 := PS.mono h fun D σ H ⟨E, T, tb, r, k⟩ => ⟨E, T, tb, r.weak gb hw, k⟩
theorem sss_nil : SSs X c Γ [] sPass Γ := PSs.mono pss_nil fun D σ H ⟨E, T, tb, r, k⟩ => k σ H r
theorem sss_cons (h : SS X c Γ st sa Γ1) (h' : SSs X c Γ1 rest sb Γ2) : SSs X c Γ (st :: rest) (sSeq sa sb) Γ2 := PSs.mono (pss_cons h h') fun D σ H ⟨E, T, tb, r, k⟩ => ⟨E, T, tb, r, by
  unfold sSeq at k
  cases e : sa E with
  | nx E' => rw [e] at k; exact fun σ' H' r' => ⟨E', T, tb, r', k⟩
  | _ => rw [e] at k; exact k⟩
theorem sss_one (h : SS X c Γ st sa Γ1) : SSs X c Γ [st] sa Γ1 := PSs.mono (pss_one h) fun D σ H q => q
theorem ss_pass : SS X c Γ (.Pass pos) sPass Γ := PS.mono ps_pass fun D σ H ⟨E, T, tb, r, k⟩ => k σ H r
theorem ss_break (hw : wk Γ c.gb = true := by rfl) (gb : GB Γ = true := by rfl) : SS X c Γ (.Break pos) sBrk Γ1 := PS.mono ps_break fun D σ H ⟨E, T, tb, r, k⟩ => k σ H (r.weak gb hw)
theorem ss_cont (hw : wk Γ c.gc = true := by rfl) (gb : GB Γ = true := by rfl) : SS X c Γ (.Continue pos) sCnt Γ1 := PS.mono ps_continue fun D σ H ⟨E, T, tb, r, k⟩ => k σ H (r.weak gb hw)
/-- name = e -/
theorem ss_asg (i : Nat) (he : SE X c Γ e m Γ1 τ) (hN : X.N.Nodup) (hx : Loc X.env.scope x := by first | exact Or.inl rfl | exact Or.inr rfl) (hi : X.N[i]? = some x := by rfl) (nb : τ.noB = true := by rfl) (gb : GB Γ1 = true := by rfl) (hl : i < Γ1.length := by exact Nat.le_of_ble_eq_true rfl)
    (hs : swapsWith e (some (.Name x pos')) pos.line X.env = pure false := by rfl) (hf : X.fn x = true ∨ X.env.scope.names.lookup x = some .local := by first | exact .inl rfl | exact .inr rfl) :
    SS X c Γ (.Assign [.Name x pos'] e pos) (sAsg i m) (Γ1.set i (some τ)) := PS.mono (ps_set hN hi hx he hs hf) fun D σ H ⟨E, T, tb, r, k⟩ => ⟨E, T, r, by
  unfold sAsg at k
  cases e : m E with
  | ok d => rw [e] at k; exact fun v H1 s r1 => k _ _ (r1.store hl gb)
  | exn n ns ds => rw [e] at k; exact fun cls dd H' x r' => k cls dd σ H' x r'
  | bad => rw [e] at k; exact k⟩
/-- name op= e, by the same operator -/
theorem ss_expr (he : SE X c Γ e m Γ1 τ) (hs : swapsWith e none pos.line X.env = pure false := by rfl) : SS X c Γ (.Expr e pos) (sExpr m) Γ1 := PS.mono (ps_expr he hs) fun D σ H ⟨E, T, tb, r, k⟩ => ⟨E, T, r, by
  unfold sExpr at k
  cases e : m E with
  | ok d => rw [e] at k; exact fun v H1 s r1 => k _ _ r1.pop
  | exn n ns ds => rw [e] at k; exact fun cls dd H' x r' => k cls dd σ H' x r'
  | bad => rw [e] at k; exact k⟩
theorem ss_ret (he : SE X c Γ e m Γ1 c.τ) : SS X c Γ (.Return (some e) pos) (sRet m) Γ2 := PS.mono (ps_ret he) fun D σ H ⟨E, T, tb, r, k⟩ => ⟨E, T, r, by
  unfold sRet at k
  cases e : m E with
  | ok d => rw [e] at k; exact fun v H1 s r1 => k _ _ r1.alone
  | exn n ns ds => rw [e] at k; exact fun cls dd H' x r' => k cls dd σ H' x r'
  | bad => rw [e] at k; exact k⟩
theorem ss_if (ht : ST X c Γ a mt Γ1) (ha : SSs X c Γ1 sts sa Γ2) (hb : SSs X c Γ1 rest sb Γ2) : SS X c Γ (.If a sts rest pos) (sIf mt sa sb) Γ2 := PS.mono (ps_if ht ha hb) fun D σ H ⟨E, T, tb, r, k⟩ => ⟨E, T, r, by
  unfold sIf at k
  cases e : mt E with
  | ok d =>
    rw [e] at k
    intro H1 s r1
    cases d with
    | true => rw [if_pos rfl]; exact ⟨E, T, tb, r1, k⟩
    | false => rw [if_neg Bool.false_ne_true]; exact ⟨E, T, tb, r1, k⟩
  | exn n ns ds => rw [e] at k; exact fun cls dd H' x r' => k cls dd σ H' x r'
  | bad => rw [e] at k; exact k⟩
/-- x.append(e) -/
theorem ss_app (i : Nat) (he : SE X c Γ e m Γ1 τe) (h0 : Γ[i]? = some (some (.l τe)) := by rfl) (h1 : Γ1[i]? = some (some (.l τe)) := by rfl) (gb : GB Γ1 = true := by rfl) (hN : X.N[i]? = some x := by rfl) (hv : Vis X.env.scope x := by first | exact Or.inl rfl | exact Or.inr (Or.inl rfl) | exact Or.inr (Or.inr rfl)) (hd : (x == ("__debug__" : Str)) = false := by decide)
    (hcd : (x == ("__classdict__" : Str)) = false := by decide) (hst : starEach [e] X.env = (false, eval e X.env) :: starEach [] X.env := by rfl)
    (hp : ∀ {t : TA}, PA X [e] t → PS X (.Expr (.Call (.Attribute (.Name x px) "append" p2) [e] [] p) pos) (tDrop (tBM X.K "list" rAppend (tVar i) t)) := by exact fun ha => ps_expr (pe_bm PySem.F.plainAttrs_list PySem.F.slot_list_append PySem.F.type_list_append mt_append (pe_var rfl (by first | exact Or.inl rfl | exact Or.inr (Or.inl rfl) | exact Or.inr (Or.inr rfl))) ha)) :
    SS X c Γ (.Expr (.Call (.Attribute (.Name x px) "append" p2) [e] [] p) pos) (sApp i m) Γ1 := PS.mono (hp (pa_cons he pa_nil hst)) fun D σ H ⟨E, T, tb, r, k⟩ => by
  obtain ⟨p0, ds0, vs0, y1, y2, y3, y4⟩ := r.own h0
  refine ⟨.ref p0, y2, .inl ⟨rfl, _, SqL.of y3⟩, E, T, r, ?_⟩
  unfold sApp at k
  cases e1 : m E with
  | ok d =>
    rw [e1] at k
    intro w H1 s r1
    obtain ⟨d', v', z1, z2, r2⟩ := r1.take h1
    rw [y1] at z1; cases z1
    rw [y2] at z2; cases z2
    have gb' : GB (Γ1.set i none) = true := GB_set gb rfl
    obtain ⟨acc, a1, a2, a3, _⟩ := r2.swap.grown gb' tb
    dsimp only [lAt] at k
    rw [y1] at k
    dsimp only at k
    by_cases hz : ds0.length < 16777216
    · rw [if_pos hz] at k
      refine ⟨p0, acc, w, rfl, rfl, a1, by rw [sizeLine_eq]; omega, ?_⟩
      have il := (List.getElem?_eq_some_iff.mp h1).1
      have r3 := (a3 (by rw [sizeLine_eq]; exact hz)).store (i := i) (by simpa using il) gb'
      rw [List.set_set, set_self h1, set_self y2] at r3
      exact k _ _ r3
    · rw [if_neg hz] at k; exact k.elim
  | exn n ns ds => rw [e1] at k; exact fun cls dd H' x r' => k cls dd σ H' x r'
  | bad => rw [e1] at k; exact k
end
end Bd

set_option Elab.async false
set_option linter.all false
set_option maxRecDepth 100000
set_option maxHeartbeats 1000000
namespace Bd
open PySem PySem.Spec PyProof.Rows L2

section
variable {X : Cx} {c : Ct} {Γ Γ0 Γ1 Γ2 Γ3 Γ4 ΓL : Gm} {a b e tg elt iter : Expr} {st : Stmt} {sts rest body : List Stmt} {ifs : List Expr} {ma mb m me mi : En → R D} {ms src : En → R (List D)} {mt : En → R Bool} {sa sb : En → Out} {τ τ1 τ2 τi τe : Sh} {pos p p2 pos' px py spos : Pos} {x y : Str} {i j : Nat} {scope : Scope}
/-- x[k] = e -/
theorem ss_put (i : Nat) {o k : Expr} (he : SE X c Γ e m Γ1 τe) (hk : SE X c Γ1 k mi Γ2 τi) (h2 : Γ2[i]? = some (some (.l τe)) := by rfl) (h1 : Γ1[i]? = some (some (.l τe)) := by rfl) (gb : GB Γ2 = true := by rfl) (ho : PE X o (tVar i))
    (hp : ∀ {t ti}, PE X e t → PE X k ti → PS X (.Assign [.Subscript o k p2] e pos) (tAsg t (gSub (tVar i) ti rSetL)) := by exact fun ha hi => ps_asg ha (pg_sub (pe_var rfl (by first | exact Or.inl rfl | exact Or.inr (Or.inl rfl) | exact Or.inr (Or.inr rfl))) hi set_list)) :
    SS X c Γ (.Assign [.Subscript o k p2] e pos) (sPut i mi m) Γ2 := PS.mono (hp he hk) fun D σ H ⟨E, T, tb, r, kk⟩ => ⟨E, T, r, by
  unfold sPut at kk
  cases e1 : m E with
  | ok d =>
    rw [e1] at kk
    intro w H1 s r1
    obtain ⟨p0, ds0, vs0, y1, y2, y3, y4⟩ := r1.own h1
    refine ⟨.ref p0, y2, E, _, r1, ?_⟩
    dsimp only at kk
    cases e2 : mi E with
    | ok dk =>
      rw [e2] at kk
      intro wk' H2 s2 r2
      cases dk with
      | int kz =>
        dsimp only [lAt] at kk
        rw [y1] at kk
        dsimp only at kk
        cases e3 : ixN ds0.length kz with
        | none => rw [e3] at kk; exact kk.elim
        | some jj =>
          rw [e3] at kk
          have hk' : wk' = .int kz := r2.top
          obtain ⟨d', v', z1, z2, r3⟩ := r2.pop.take h2
          rw [y1] at z1; cases z1
          rw [y2] at z2; cases z2
          have gb' : GB (Γ2.set i none) = true := GB_set gb rfl
          obtain ⟨acc, a1, a2, a3⟩ := r3.swap.setAt gb' tb (ixN_seq e3).2.1
          have il := (List.getElem?_eq_some_iff.mp h2).1
          refine ⟨p0, acc, kz, jj, rfl, hk', a1, by rw [a2]; exact e3, ?_⟩
          have r4 := a3.store (i := i) (by simpa using il) gb'
          rw [List.set_set, set_self h2, set_self y2] at r4
          exact kk _ _ r4
      | _ => exact kk.elim
    | exn n ns ds => rw [e2] at kk; exact fun cls dd H' x r' => kk cls dd σ H' x r'.pop
    | bad => rw [e2] at kk; exact kk
  | exn n ns ds => rw [e1] at kk; exact fun cls dd H' x r' => kk cls dd σ H' x r'
  | bad => rw [e1] at kk; exact kk⟩

/-! ### comprehensions as values and stored -/
theorem se_comp (i : Nat) (hN : X.N.Nodup) (hc : X.calm = true) (hi : SI X c (.Name x px) Γ iter src Γ1 τi) (ok : BlkOk X.N X.env.scope scope [(x, i)])
    (hg : ∀ (s : Shared) (H : Hp) (C : Addr) (cl : List (Str × Addr)) (fp : List Addr), PG (X.blk s H scope (compEnvC scope cl C X.env) fp) (.Name x px) (gName i))
    (ht : ∀ (s : Shared) (H : Hp) (C : Addr) (cl : List (Str × Addr)) (fp : List Addr), STs (X.blk s H scope (compEnvC scope cl C X.env) fp) (c.blk Γ) (Γ0.set i (some τi)) ifs mt Γ3)
    (he : ∀ (s : Shared) (H : Hp) (C : Addr) (cl : List (Str × Addr)) (fp : List Addr), SE (X.blk s H scope (compEnvC scope cl C X.env) fp) (c.blk Γ) Γ3 elt me Γ4 τe)
    (hΓ0 : wk Γ1 Γ0 = true := by rfl) (h0i : Γ0[i]? = some none := by rfl) (gb1 : GB Γ1 = true := by rfl) (gb0 : GB Γ0 = true := by rfl) (h4 : wk (Γ4.set i none) Γ0 = true := by rfl) (gb4 : GB (Γ4.set i none) = true := by rfl) (h3 : wk (Γ3.set i none) Γ0 = true := by rfl) (gb3 : GB (Γ3.set i none) = true := by rfl)
    (hil : i < Γ4.length := by exact Nat.le_of_ble_eq_true rfl) (hil3 : i < Γ3.length := by exact Nat.le_of_ble_eq_true rfl) (ne : τe.noB = true := by rfl) (hs : ∀ x, foldedSetIterable iter X.env x = pure x := by intro _; rfl) :
    SE X c Γ (.ListComp elt [⟨.Name x px, iter, ifs, 0⟩] scope pos) (eComp i src mt me) Γ0 (.l τe) :=
  PE.mono (pe_lc (tt := rdT X (c.blk Γ) (Γ0.set i (some τi)) mt Γ3) (te := rdE X (c.blk Γ) Γ3 me Γ4 τe) hc hN hi ok hg ht he hs) fun σ H Q q => comp_rd hΓ0 h0i gb1 gb0 h4 gb4 h3 gb3 hil hil3 ne σ H Q q
theorem ss_setComp (k i : Nat) (hN : X.N.Nodup) (hc : X.calm = true) (hy : X.N[k]? = some y) (hyl : X.env.scope.names.lookup y = some .local)
    (hsw : swapsWith (.ListComp elt [⟨.Name x px, iter, ifs, 0⟩] scope pos) (some (.Name y py)) spos.line X.env = pure true) (hi : SI X c (.Name x px) Γ iter src Γ1 τi) (ok : BlkOk X.N X.env.scope scope [(x, i)])
    (hg : ∀ (s : Shared) (H : Hp) (C : Addr) (cl : List (Str × Addr)) (fp : List Addr), PG (X.blk s H scope (compEnvC scope cl C X.env) fp) (.Name x px) (gName i))
    (ht : ∀ (s : Shared) (H : Hp) (C : Addr) (cl : List (Str × Addr)) (fp : List Addr), STs (X.blk s H scope (compEnvC scope cl C X.env) fp) (c.blk Γ) (Γ0.set i (some τi)) ifs mt Γ3)
    (he : ∀ (s : Shared) (H : Hp) (C : Addr) (cl : List (Str × Addr)) (fp : List Addr), SE (X.blk s H scope (compEnvC scope cl C X.env) fp) (c.blk Γ) Γ3 elt me Γ4 τe)
    (hΓ0 : wk Γ1 Γ0 = true := by rfl) (h0i : Γ0[i]? = some none := by rfl) (gb1 : GB Γ1 = true := by rfl) (gb0 : GB Γ0 = true := by rfl) (h4 : wk (Γ4.set i none) Γ0 = true := by rfl) (gb4 : GB (Γ4.set i none) = true := by rfl) (h3 : wk (Γ3.set i none) Γ0 = true := by rfl) (gb3 : GB (Γ3.set i none) = true := by rfl)
    (hil : i < Γ4.length := by exact Nat.le_of_ble_eq_true rfl) (hil3 : i < Γ3.length := by exact Nat.le_of_ble_eq_true rfl) (ne : τe.noB = true := by rfl) (hl : k < Γ0.length := by exact Nat.le_of_ble_eq_true rfl) (hs : ∀ x, foldedSetIterable iter X.env x = pure x := by intro _; rfl) :
    SS X c Γ (.Assign [.Name y py] (.ListComp elt [⟨.Name x px, iter, ifs, 0⟩] scope pos) spos) (sAsg k (eComp i src mt me)) (Γ0.set k (some (.l τe))) :=
  PS.mono (ps_setLc (tt := rdT X (c.blk Γ) (Γ0.set i (some τi)) mt Γ3) (te := rdE X (c.blk Γ) Γ3 me Γ4 τe) hc hN hy hyl hsw hi ok hg ht he hs) fun D σ H ⟨E, T, tb, r, kk⟩ => comp_rd hΓ0 h0i gb1 gb0 h4 gb4 h3 gb3 hil hil3 ne σ H _ ⟨E, T, r, by
    unfold sAsg at kk
    cases e : eComp i src mt me E with
    | ok d => rw [e] at kk; exact fun v H1 s r1 => kk _ _ (r1.store hl gb0)
    | exn n ns ds => rw [e] at kk; exact fun cls dd H' x r' => kk cls dd σ H' x r'
    | bad => rw [e] at kk; exact kk⟩

/-! ### loops -/
def rdG (X : Cx) (c : Ct) (Γ : Gm) (g : D → En → R En) (Γ' : Gm) (τi : Sh) : TG := fun v σ H Q => ∃ E T d, Rel (Cx.m X) c.B c.Hb Γ E σ ((τi, d, v) :: T) H ∧ (match g d E with
  | .ok E' => ∀ σ' H', Rel (Cx.m X) c.B c.Hb Γ' E' σ' T H' → Q σ' H'
  | _ => False)
def SG (X : Cx) (c : Ct) (Γ : Gm) (tg : Expr) (g : D → En → R En) (Γ' : Gm) (τi : Sh) : Prop := PG X tg (rdG X c Γ g Γ' τi)
theorem PG.mono {X : Cx} {tg : Expr} {t t' : TG} (h : PG X tg t) (k : ∀ v σ H Q, t' v σ H Q → t v σ H Q) : PG X tg t' := ⟨fun pins s σ H v u Q I r q => h.run pins s σ H v u Q I r (k v σ H Q q)⟩
def gN (i : Nat) : D → En → R En := fun d E => .ok (E.set i (some d))
theorem sg_name (i : Nat) (hN : X.N.Nodup) (hx : Loc X.env.scope x := by first | exact Or.inl rfl | exact Or.inr rfl) (hi : X.N[i]? = some x := by rfl) (gb : GB Γ = true := by rfl) (hl : i < Γ.length := by exact Nat.le_of_ble_eq_true rfl)
    (hf : X.fn x = true ∨ X.env.scope.names.lookup x = some .local := by first | exact .inl rfl | exact .inr rfl) : SG X c Γ (.Name x pos) (gN i) (Γ.set i (some τi)) τi :=
  PG.mono (pg_name hN hi hx hf) fun v σ H Q ⟨E, T, d, r, k⟩ => k _ _ (r.store hl gb)
def forM (g : D → En → R En) (body : En → Out) : List D → En → Out
  | [], E => .nx E
  | x :: xs, E => match g x E with
    | .ok E1 => match body E1 with
      | .nx E2 => forM g body xs E2
      | .ct E2 => forM g body xs E2
      | .bk E2 => .nx E2
      | o => o
    | _ => .bad
def sFor (g : D → En → R En) (src : En → R (List D)) (body : En → Out) : En → Out := fun E => match src E with
  | .ok xs => forM g body xs E
  | .exn c ns ds => .exn c ns ds E
  | .bad => .bad
def Ct.lp (c : Ct) (ΓL : Gm) : Ct := { c with gb := ΓL, gc := ΓL }
theorem ss_for (ΓL : Gm) {g : D → En → R En} (hp : PassesOwn (model X.prog X.w) X.A X.env X.xe) (hc : X.calm = true) (hi : SI X c tg Γ iter src Γ1 τi) (hg : SG X (c.lp ΓL) ΓL tg g Γ2 τi) (hb : SSs X (c.lp ΓL) Γ2 body sb Γ3)
    (h1 : wk Γ1 ΓL = true := by rfl) (gb1 : GB Γ1 = true := by rfl) (h3 : wk Γ3 ΓL = true := by rfl) (gb3 : GB Γ3 = true := by rfl) (hs : ∀ x, foldedSetIterable iter X.env x = pure x := by intro _; rfl) : SS X c Γ (.For tg iter body [] pos) (sFor g src sb) ΓL :=
  PS.mono (ps_for hp hc hi hg hb hs) fun D σ H ⟨E, T, tb, r, k⟩ => ⟨E, T, r, by
  unfold sFor at k
  cases e1 : src E with
  | exn n ns ds => rw [e1] at k; exact fun cls dd H' x r' => k cls dd σ H' x r'
  | bad => rw [e1] at k; exact k
  | ok xs =>
    rw [e1] at k
    intro J H1 t s1 r1 tbt it hz
    have tbT : TB (t :: T) = true := by
      unfold TB at tb ⊢
      rw [List.all_cons, tb, Bool.and_true]; exact tbt
    refine ⟨fun n m σ H => m = xs.length - n ∧ n ≤ xs.length ∧ ∃ E, Rel (Cx.m X) c.B c.Hb ΓL E σ (t :: T) H ∧ (match forM g sb (xs.drop n) E with
        | .nx E' => ∀ σ' H', Rel (Cx.m X) c.B c.Hb ΓL E' σ' T H' → D.nx σ' H'
        | .rt d => ∀ v H', Rel (Cx.m X) c.B c.Hb [] [] [] [(c.τ, d, v)] H' → D.rt v H'
        | .bk E' => ∀ σ' H', Rel (Cx.m X) c.B c.Hb c.gb E' σ' T H' → D.bk σ' H'
        | .ct E' => ∀ σ' H', Rel (Cx.m X) c.B c.Hb c.gc E' σ' T H' → D.ct σ' H'
        | .exn n ns ds E' => ∀ cls dd σ' H', XRel (Cx.m X) cls dd n ns ds H' → Rel (Cx.m X) c.B c.Hb c.gx E' σ' T H' → c.W cls dd σ' H'
        | .bad => False), ⟨xs.length, rfl, Nat.zero_le _, E, r1.weak gb1 h1, k⟩, ?_⟩
    rintro n m σ3 H3 ⟨rfl, hn, E3, r3, k3⟩
    have itn := it ΓL E3 σ3 [] T H3 n r3
    by_cases hlt : n < xs.length
    · right
      have ex : xs[n]? = some xs[n] := List.getElem?_eq_getElem hlt
      obtain ⟨go, yl⟩ := itn.1 xs[n] ex
      rw [List.drop_eq_getElem_cons hlt] at k3
      refine ⟨go, fun σ' H' => ∃ E, Rel (Cx.m X) c.B c.Hb ΓL E σ' (t :: T) H' ∧ (match forM g sb (xs.drop (n + 1)) E with
        | .nx E' => ∀ σ' H', Rel (Cx.m X) c.B c.Hb ΓL E' σ' T H' → D.nx σ' H'
        | .rt d => ∀ v H', Rel (Cx.m X) c.B c.Hb [] [] [] [(c.τ, d, v)] H' → D.rt v H'
        | .bk E' => ∀ σ' H', Rel (Cx.m X) c.B c.Hb c.gb E' σ' T H' → D.bk σ' H'
        | .ct E' => ∀ σ' H', Rel (Cx.m X) c.B c.Hb c.gc E' σ' T H' → D.ct σ' H'
        | .exn n ns ds E' => ∀ cls dd σ' H', XRel (Cx.m X) cls dd n ns ds H' → Rel (Cx.m X) c.B c.Hb c.gx E' σ' T H' → c.W cls dd σ' H'
        | .bad => False), fun σ' H' w => ⟨xs.length - (n + 1), by omega, rfl, hlt, w⟩, fun v H' y => ?_⟩
      obtain ⟨s2, r4⟩ := yl v H' y
      refine ⟨E3, t :: T, xs[n], r4, ?_⟩
      have k4 : (match g xs[n] E3 with
        | .ok E1 => match sb E1 with
          | .nx E2 => forM g sb (xs.drop (n + 1)) E2
          | .ct E2 => forM g sb (xs.drop (n + 1)) E2
          | .bk E2 => .nx E2
          | o => o
        | _ => .bad) = forM g sb (xs[n] :: xs.drop (n + 1)) E3 := rfl
      rw [← k4] at k3
      cases e4 : g xs[n] E3 with
      | ok E1 =>
        rw [e4] at k3
        dsimp only at k3 ⊢
        intro σ5 H5 r5
        refine ⟨E1, t :: T, tbT, r5, ?_⟩
        cases e5 : sb E1 with
        | nx E2 => rw [e5] at k3; exact fun σ' H' r' => ⟨E2, r'.weak gb3 h3, k3⟩
        | ct E2 => rw [e5] at k3; exact fun σ' H' r' => ⟨E2, r', k3⟩
        | bk E2 => rw [e5] at k3; exact fun σ' H' r' => k3 σ' H' r'.pop
        | rt d => rw [e5] at k3; exact k3
        | exn n ns ds E2 => rw [e5] at k3; exact fun cls dd σ' H' x r' => k3 cls dd σ' H' x r'.pop
        | bad => rw [e5] at k3; exact k3
      | exn n ns ds => rw [e4] at k3; exact k3.elim
      | bad => rw [e4] at k3; exact k3.elim
    · left
      have e7 : xs.drop n = [] := List.drop_eq_nil_of_le (by omega)
      rw [e7] at k3
      exact ⟨itn.2 (by omega), k3 σ3 H3 r3.pop⟩⟩

/-! ### while -/
def whF (t : En → R Bool) (body : En → Out) : Nat → En → Out
  | 0, _ => .bad
  | n + 1, E => match t E with
    | .ok true => match body E with
      | .nx E2 => whF t body n E2
      | .ct E2 => whF t body n E2
      | .bk E2 => .nx E2
      | o => o
    | .ok false => .nx E
    | .exn c ns ds => .exn c ns ds E
    | .bad => .bad
theorem whF_mono {t : En → R Bool} {body : En → Out} : ∀ {n k : Nat} {E : En}, whF t body n E ≠ .bad → whF t body (n + k) E = whF t body n E
  | 0, k, E, h => absurd rfl h
  | n + 1, k, E, h => by
    rw [Nat.add_right_comm]
    have e1 : ∀ m, whF t body (m + 1) E = (match t E with
      | .ok true => match body E with
        | .nx E2 => whF t body m E2
        | .ct E2 => whF t body m E2
        | .bk E2 => .nx E2
        | o => o
      | .ok false => .nx E
      | .exn c ns ds => .exn c ns ds E
      | .bad => .bad) := fun m => rfl
    rw [e1] at h ⊢
    rw [e1]
    cases et : t E with
    | exn c ns ds => rfl
    | bad => rfl
    | ok b =>
      cases b with
      | false => rfl
      | true =>
        rw [et] at h
        dsimp only at h ⊢
        cases eb : body E with
        | nx E2 => rw [eb] at h; exact whF_mono h
        | ct E2 => rw [eb] at h; exact whF_mono h
        | _ => rfl
open Classical in
noncomputable def sWh (t : En → R Bool) (body : En → Out) : En → Out := fun E => if h : ∃ n, whF t body n E ≠ .bad then whF t body (choose h) E else .bad
theorem sWh_of {t : En → R Bool} {body : En → Out} {n : Nat} {E : En} (h : whF t body n E ≠ .bad) : sWh t body E = whF t body n E := by
  unfold sWh
  have h' : ∃ n, whF t body n E ≠ .bad := ⟨n, h⟩
  rw [dif_pos h']
  have hc := Classical.choose_spec h'
  generalize Classical.choose h' = m at hc
  rcases Nat.le_total m n with q | q
  · obtain ⟨k, rfl⟩ := Nat.le.dest q
    exact (whF_mono hc).symm
  · obtain ⟨k, rfl⟩ := Nat.le.dest q
    exact whF_mono h
theorem sWh_fuel {t : En → R Bool} {body : En → Out} {E : En} (h : sWh t body E ≠ .bad) : ∃ n, sWh t body E = whF t body n E := by
  unfold sWh at h ⊢
  by_cases h' : ∃ n, whF t body n E ≠ .bad
  · rw [dif_pos h'] at h ⊢; exact ⟨_, rfl⟩
  · rw [dif_neg h'] at h; exact absurd rfl h
/-- one turn -/
theorem sWh_eq (t : En → R Bool) (body : En → Out) (E : En) : sWh t body E = (match t E with
    | .ok true => match body E with
      | .nx E2 => sWh t body E2
      | .ct E2 => sWh t body E2
      | .bk E2 => .nx E2
      | o => o
    | .ok false => .nx E
    | .exn c ns ds => .exn c ns ds E
    | .bad => .bad) := by
  have e1 : ∀ m, whF t body (m + 1) E = (match t E with
      | .ok true => match body E with
        | .nx E2 => whF t body m E2
        | .ct E2 => whF t body m E2
        | .bk E2 => .nx E2
        | o => o
      | .ok false => .nx E
      | .exn c ns ds => .exn c ns ds E
      | .bad => .bad) := fun m => rfl
  have go : ∀ {o : Out}, o ≠ .bad → whF t body 1 E = o → sWh t body E = o := fun ho e => by
    rw [← e]; exact sWh_of (by rw [e]; exact ho)
  have no : (∀ n, whF t body n E = .bad) → sWh t body E = .bad := fun h => by
    unfold sWh
    rw [dif_neg fun ⟨n, hn⟩ => hn (h n)]
  have step : ∀ E2, (∀ m, whF t body (m + 1) E = whF t body m E2) → sWh t body E = sWh t body E2 := fun E2 h => by
    by_cases hb : sWh t body E2 = .bad
    · rw [hb]
      refine no fun n => ?_
      cases n with
      | zero => rfl
      | succ n =>
        rw [h n]
        by_cases z : whF t body n E2 = .bad
        · exact z
        · rw [sWh_of z] at hb; exact absurd hb z
    · obtain ⟨n, e⟩ := sWh_fuel hb
      rw [e]
      have := h n
      rw [← this]
      exact sWh_of (by rw [this, ← e]; exact hb)
  cases et : t E with
  | exn c ns ds => exact go (by intro z; cases z) (by rw [e1, et])
  | bad => exact no fun n => by cases n with | zero => rfl | succ n => rw [e1, et]
  | ok b =>
    cases b with
    | false => exact go (by intro z; cases z) (by rw [e1, et])
    | true =>
      dsimp only
      cases eb : body E with
      | nx E2 => exact step E2 fun m => by rw [e1, et]; dsimp only; rw [eb]
      | ct E2 => exact step E2 fun m => by rw [e1, et]; dsimp only; rw [eb]
      | bad => exact no fun n => by cases n with | zero => rfl | succ n => rw [e1, et]; dsimp only; rw [eb]
      | _ => exact go (by intro z; cases z) (by rw [e1, et]; dsimp only; rw [eb])
theorem ss_while (ΓL : Gm) (hp : PassesOwn (model X.prog X.w) X.A X.env X.xe) (ht : ST X (c.lp ΓL) ΓL a mt Γ2) (hb : SSs X (c.lp ΓL) Γ2 body sb Γ3)
    (h1 : wk Γ ΓL = true := by rfl) (gb1 : GB Γ = true := by rfl) (h2 : wk Γ2 ΓL = true := by rfl) (gb2 : GB Γ2 = true := by rfl) (h3 : wk Γ3 ΓL = true := by rfl) (gb3 : GB Γ3 = true := by rfl) : SS X c Γ (.While a body [] pos) (sWh mt sb) ΓL :=
  PS.mono (ps_while hp ht hb) fun D σ H ⟨E, T, tb, r, k⟩ => by
  have nb : sWh mt sb E ≠ .bad := fun z => by rw [z] at k; exact k
  obtain ⟨n0, e0⟩ := sWh_fuel nb
  rw [e0] at k
  refine ⟨fun m σ H => ∃ E, Rel (Cx.m X) c.B c.Hb ΓL E σ T H ∧ (match whF mt sb m E with
        | .nx E' => ∀ σ' H', Rel (Cx.m X) c.B c.Hb ΓL E' σ' T H' → D.nx σ' H'
        | .rt d => ∀ v H', Rel (Cx.m X) c.B c.Hb [] [] [] [(c.τ, d, v)] H' → D.rt v H'
        | .bk E' => ∀ σ' H', Rel (Cx.m X) c.B c.Hb c.gb E' σ' T H' → D.bk σ' H'
        | .ct E' => ∀ σ' H', Rel (Cx.m X) c.B c.Hb c.gc E' σ' T H' → D.ct σ' H'
        | .exn n ns ds E' => ∀ cls dd σ' H', XRel (Cx.m X) cls dd n ns ds H' → Rel (Cx.m X) c.B c.Hb c.gx E' σ' T H' → c.W cls dd σ' H'
        | .bad => False), ⟨n0, E, r.weak gb1 h1, k⟩, ?_⟩
  rintro m σ3 H3 ⟨E3, r3, k3⟩
  cases m with
  | zero => exact k3.elim
  | succ m =>
    refine ⟨E3, T, r3, ?_⟩
    have e1 : whF mt sb (m + 1) E3 = (match mt E3 with
      | .ok true => match sb E3 with
        | .nx E2 => whF mt sb m E2
        | .ct E2 => whF mt sb m E2
        | .bk E2 => .nx E2
        | o => o
      | .ok false => .nx E3
      | .exn c ns ds => .exn c ns ds E3
      | .bad => .bad) := rfl
    rw [e1] at k3
    cases et : mt E3 with
    | exn n ns ds => rw [et] at k3; exact fun cls dd H' x r' => k3 cls dd σ3 H' x r'
    | bad => rw [et] at k3; exact k3
    | ok b =>
      rw [et] at k3
      intro H4 s4 r4
      cases b with
      | false =>
        rw [if_neg Bool.false_ne_true]
        exact k3 σ3 H4 (r4.weak gb2 h2)
      | true =>
        rw [if_pos rfl]
        refine ⟨fun σ' H' => ∃ E, Rel (Cx.m X) c.B c.Hb ΓL E σ' T H' ∧ (match whF mt sb m E with
        | .nx E' => ∀ σ' H', Rel (Cx.m X) c.B c.Hb ΓL E' σ' T H' → D.nx σ' H'
        | .rt d => ∀ v H', Rel (Cx.m X) c.B c.Hb [] [] [] [(c.τ, d, v)] H' → D.rt v H'
        | .bk E' => ∀ σ' H', Rel (Cx.m X) c.B c.Hb c.gb E' σ' T H' → D.bk σ' H'
        | .ct E' => ∀ σ' H', Rel (Cx.m X) c.B c.Hb c.gc E' σ' T H' → D.ct σ' H'
        | .exn n ns ds E' => ∀ cls dd σ' H', XRel (Cx.m X) cls dd n ns ds H' → Rel (Cx.m X) c.B c.Hb c.gx E' σ' T H' → c.W cls dd σ' H'
        | .bad => False), fun σ' H' w => ⟨m, Nat.lt_succ_self m, w⟩, E3, T, tb, r4, ?_⟩
        dsimp only at k3
        cases e5 : sb E3 with
        | nx E2 => rw [e5] at k3; exact fun σ' H' r' => ⟨E2, r'.weak gb3 h3, k3⟩
        | ct E2 => rw [e5] at k3; exact fun σ' H' r' => ⟨E2, r', k3⟩
        | bk E2 => rw [e5] at k3; exact fun σ' H' r' => k3 σ' H' r'
        | rt d => rw [e5] at k3; exact k3
        | exn n ns ds E2 => rw [e5] at k3; exact fun cls dd σ' H' x r' => k3 cls dd σ' H' x r'
        | bad => rw [e5] at k3; exact k3
end
end Bd

set_option Elab.async false
set_option linter.all false
set_option maxRecDepth 100000
set_option maxHeartbeats 1000000
namespace Bd
open PySem PySem.Spec PyProof.Rows L2

/-! ### defs -/
def fnM (n N : Nat) (v : Bool) (body : En → Out) : List D → R D := fun ds => if ds.length = n then (match body (ds.map some ++ List.replicate (N - n) none) with
    | .nx _ => if v = true then .ok .non else .bad
    | .rt d => .ok d
    | .exn c ns fs _ => .exn c ns fs
    | _ => .bad) else .bad
theorem fnM_ar {n N : Nat} {v : Bool} {body : En → Out} (ds : List D) (h : ds.length ≠ n) : fnM n N v body ds = .bad := by unfold fnM; rw [if_neg h]
def g0 (n N : Nat) : Gm := List.replicate n (some .s) ++ List.replicate (N - n) none
section
variable {P : Program} {w : World} {K : PySem.W.Frag} {mg : Str → Option Value} {base : Heap}
theorem slots_start {M : Mx} {Hs H : Hp} : ∀ {ds : List D} {vs : List V} {k : Nat}, Reps M Hs ds vs → Slots M Hs H (List.replicate ds.length (some .s) ++ List.replicate k none) (ds.map some ++ List.replicate k none) (vs.map some ++ List.replicate k none) []
  | [], vs, k, h => by
    obtain rfl : vs = [] := h
    induction k with
    | zero => exact ⟨rfl, rfl, rfl⟩
    | succ k ih => exact ⟨none, _, none, _, [], [], rfl, rfl, rfl, rfl, ih⟩
  | d :: ds, vs, k, h => by
    obtain ⟨v, r, e, h1, h2⟩ := h
    subst e
    exact ⟨some d, _, some v, _, [], [], rfl, rfl, rfl, ⟨d, v, rfl, rfl, h1, rfl⟩, slots_start h2⟩
abbrev Ct.fn (H Hb : Hp) (E : XK) (N : Nat) (τ : Sh) : Ct := ⟨H, Hb, fun cls d _ H' => E cls d H', List.replicate N none, [], [], τ⟩
theorem fn_S {x qual : Str} {st : Stmt} {f : Addr} {fd : FuncData} {N ps : List Str} {k : Nat} (F : Fun K x qual st f fd) (S : FnScope N ps (defScope st)) (mb : En → Out) (v : Bool) (τ : Sh) (Γe : Gm) (hv : v = true → τ = .sc ∨ τ = .s)
    (hbody : ∀ (cdv : Value) (A : Around) (outer : List Env) (s : Shared) (H : Hp) (E : XK) (Hb : Hp), Room k (A.deeper (envOfC qual (defScope st) s.heap.objs.size f cdv)) →
      SSs (cxOf (L2.CX P w) P w K mg base N qual (defScope st) f cdv A outer s H E) (Ct.fn H Hb E N.length τ) (g0 ps.length N.length) (defBody st) mb Γe) :
    FnOk P w K mg base (L2.CX P w) (k + 1) f fd ps (spF ⟨K, mg⟩ ps.length (fnM ps.length N.length v mb) τ) := by
  refine F.okX S (fun vs H Q E h => ?_) (fun cdv A outer s H vs Q E hr h => ?_)
  · obtain ⟨_, _, _, _, e, _⟩ := h
    exact e
  · obtain ⟨Hb, ds, sb, rs, hl, k0⟩ := h
    refine ⟨_, hbody cdv A outer s H E Hb hr, ?_⟩
    have hl' : ds.length = ps.length := by rw [rs.length]; exact hl
    unfold fnM at k0
    rw [if_pos hl'] at k0
    refine ⟨ds.map some ++ List.replicate (N.length - ps.length) none, [], rfl, ?_, ?_⟩
    · have hs := slots_start (M := ⟨K, mg⟩) (Hs := Hb) (H := H) (k := N.length - ps.length) rs
      rw [hl'] at hs
      refine ⟨Hb, [], [], Same.refl _, fun a z _ => z, Same.refl _, sb, ?_, rfl, fun a => by simp⟩
      unfold L2.start
      rw [hl]
      exact hs
    · cases e : mb (ds.map some ++ List.replicate (N.length - ps.length) none) with
      | nx E' =>
        rw [e] at k0
        intro σ' H' r'
        dsimp only at k0
        cases v with
        | false => exact k0.elim
        | true =>
          refine k0 .non H' ?_
          have r2 : Rel ⟨K, mg⟩ H Hb [] [] [] [(.sc, .non, .non)] H' := (r'.psc (d := .non) (v := .non) rfl).alone
          rcases hv rfl with h | h
          · rw [h]; exact r2
          · rw [h]; exact r2.share rfl
      | rt d => rw [e] at k0; exact k0
      | exn n ns fs E' => rw [e] at k0; exact fun cls dd σ' H' x r' => k0 cls dd H' r'.bas x
      | bk E' => rw [e] at k0; exact k0.elim
      | ct E' => rw [e] at k0; exact k0.elim
      | bad => rw [e] at k0; exact k0
/-- a def that stands in the module -/
structure Dat (K : PySem.W.Frag) (mg : Str → Option Value) (x : Str) (st : Stmt) (ps : List Str) (f : Addr) (fd : FuncData) : Prop where
  F : Fun K x x st f fd
  g : mg x = some (.ref f)
  b : Binds K fd ps []
/-- .. and keeps its promise -/
def Cal (P : Program) (w : World) (K : PySem.W.Frag) (mg : Str → Option Value) (base : Heap) (k : Nat) (x : Str) (n : Nat) (m : List D → R D) (τ : Sh) : Prop :=
  ∃ f fd ps, ps.length = n ∧ FnOk P w K mg base (L2.CX P w) k f fd ps (spF ⟨K, mg⟩ n m τ) ∧ mg x = some (.ref f) ∧ PySem.W.keepIn K (.ref f) = true ∧ Binds K fd ps [] ∧ ∀ ds, ds.length ≠ n → m ds = .bad
theorem Dat.cal {x : Str} {st : Stmt} {N ps : List Str} {k : Nat} {f : Addr} {fd : FuncData} (d : Dat K mg x st ps f fd) (S : FnScope N ps (defScope st)) (mb : En → Out) (v : Bool) (τ : Sh) (Γe : Gm) (hv : v = true → τ = .sc ∨ τ = .s)
    (hbody : ∀ (cdv : Value) (A : Around) (outer : List Env) (s : Shared) (H : Hp) (E : XK) (Hb : Hp), Room k (A.deeper (envOfC x (defScope st) s.heap.objs.size f cdv)) →
      SSs (cxOf (L2.CX P w) P w K mg base N x (defScope st) f cdv A outer s H E) (Ct.fn H Hb E N.length τ) (g0 ps.length N.length) (defBody st) mb Γe) :
    Cal P w K mg base (k + 1) x ps.length (fnM ps.length N.length v mb) τ :=
  ⟨f, fd, ps, rfl, fn_S d.F S mb v τ Γe hv hbody, d.g, d.F.kp, d.b, fun ds h => fnM_ar ds h⟩
end
section
variable {X : Cx} {c : Ct} {Γ Γ0 Γ1 Γ2 Γ3 Γ4 ΓL : Gm} {a b e : Expr} {es : List Expr} {ms : En → R (List D)} {τ : Sh} {τs : List Sh} {pos p : Pos} {x : Str} {k k' n : Nat} {f : List D → R D}
theorem se_cC (C : Cal X.prog X.w X.K X.mg X.base k x n f τ) (hr : Room k' X.A) (hk : k ≤ k' := by decide) (hg : Gl X x) (tk : Takes X c.W) (ha : SA X c Γ (e :: es) ms Γ1 τs) (hc : τ.closed = true := by rfl) (hx : wk Γ1 c.gx = true := by rfl) (gb : GB Γ1 = true := by rfl) (hdb : (x == ("__debug__" : Str)) = false := by decide)
    (he : starEach (e :: es) X.env = (false, eval e X.env) :: starEach es X.env := by rfl) (hpl : (backTo pos (starEach es X.env)).any (·.1) = false := by rfl) :
    SE X c Γ (.Call (.Name x p) (e :: es) [] pos) (eF f ms) Γ1 τ := by
  obtain ⟨fa, fd, ps, rfl, F, m, kp, bi, ar⟩ := C
  exact se_callC (F.mono hk) ar hr hg m kp bi tk ha hc hx gb hdb he hpl
theorem se_cO (C : Cal X.prog X.w X.K X.mg X.base k x n f τ) (hr : Room k' X.A) (hk : k ≤ k' := by decide) (hg : Gl X x) (tk : Takes X c.W) (ha : SA X c Γ (e :: es) ms Γ1 τs) (hs : allS .s τs = true := by rfl) (hc : τ.noB = true := by rfl) (hx : wk Γ1 c.gx = true := by rfl) (gb : GB Γ1 = true := by rfl) (hdb : (x == ("__debug__" : Str)) = false := by decide)
    (he : starEach (e :: es) X.env = (false, eval e X.env) :: starEach es X.env := by rfl) (hpl : (backTo pos (starEach es X.env)).any (·.1) = false := by rfl) :
    SE X c Γ (.Call (.Name x p) (e :: es) [] pos) (eF f ms) Γ1 τ := by
  obtain ⟨fa, fd, ps, rfl, F, m, kp, bi, ar⟩ := C
  exact se_callO (F.mono hk) ar hr hg m kp bi tk ha hs hc hx gb hdb he hpl
/-- raise X('..'), X a class of one's own without __init__ -/
def sRaise0 (cn : Str) : En → Out := fun E => .exn cn [] [] E
structure Exc0 (K : PySem.W.Frag) (mg : Str → Option Value) (x : Str) (C : Addr) : Prop where
  g : mg x = some (.ref C)
  xI : PySem.W.excIn K C [.type "ValueError", .type "Exception", .type "BaseException", .type "object"] "ValueError.__new__" = true
  kp : PySem.W.keepIn K (.ref C) = true
  bI : PySem.W.subIn K (.ref C) (.type "BaseException") = some true
  tI : PySem.W.typeIn K (.ref C) = some (.type "type")
theorem ss_raise0 {m : Str} {C : Addr} {j : Nat} {p2 pos2 : Pos} (q : Exc0 X.K X.mg x C) (hc : X.calm = true) (tk : Takes X c.W) (hg : Gl X x) (hx : wk Γ c.gx = true := by rfl) (gb : GB Γ = true := by rfl) (hdb : (x == ("__debug__" : Str)) = false := by decide) :
    SS X c Γ (.Raise (some (.Call (.Name x p) [.Constant (.str m) j p2] [] pos)) none pos2) (sRaise0 x) Γ1 :=
  PS.mono (ps_raise hc tk (pmk_own PySem.F.excBase_ValueError q.xI q.g q.kp (raises_own q.bI q.tI) hg hdb)) fun D σ H ⟨E, T, tb, r, k⟩ =>
    k _ none σ H ⟨C, rfl, q.g, fun _ => rfl, fun z => absurd rfl z⟩ (r.weak gb hx)
end

/-! ### the law -/
def spLaw (K : PySem.W.Frag) : Sp := fun vs H Q _ => ∃ (a : Addr) (ns : List Int), vs = [.ref a] ∧ SqL K H a (ns.map V.int) ∧ ns.length ≤ 63 ∧ ∀ H', Q (.bl true) H'
theorem reps_ints {M : Mx} {H : Hp} : ∀ ns : List Int, Reps M H (ns.map D.int) (ns.map V.int)
  | [] => rfl
  | n :: ns => ⟨.int n, _, rfl, rfl, reps_ints ns⟩
theorem law_end {P : Program} {w : World} {K : PySem.W.Frag} {mg : Str → Option Value} {base : Heap} {k : Nat} {fa : Addr} {fd : FuncData} {ps : List Str} {m : List D → R D} {τ : Sh}
    (F : FnOk P w K mg base (L2.CX P w) k fa fd ps (spF ⟨K, mg⟩ 1 m τ)) (h : ∀ ns : List Int, ns.length ≤ 63 → m [.lst (ns.map D.int)] = .ok (.bl true)) : FnOk P w K mg base (L2.CX P w) k fa fd ps (spLaw K) := by
  refine F.imp fun vs H Q E hs => ?_
  obtain ⟨a, ns, e, sq, hl, q⟩ := hs
  subst e
  refine ⟨H, [.lst (ns.map D.int)], Same.refl _, ⟨.ref a, [], rfl, ⟨a, _, rfl, sq, ?_, reps_ints ns⟩, rfl⟩, rfl, ?_⟩
  · rw [List.length_map, sizeLine_eq]; omega
  · rw [h ns hl]
    intro v H' r
    have : v = .bl true := r.top
    rw [this]; exact q H'
theorem noCX {P : Program} {w : World} {H : Hp} {s : Shared} {e : Value} {s' : Shared} (h : L2.CX P w [] H s (fun _ _ _ => False) e s') : False := by
  obtain ⟨_, _, _, _, _, _, _, _, _, _, _, _, z⟩ := h
  exact z.elim
end Bd

set_option Elab.async false
set_option linter.all false
set_option maxRecDepth 100000
set_option maxHeartbeats 1000000
namespace Bd
open PySem PySem.Spec PyProof.Rows L2
section
variable {X : Cx} {c : Ct} {Γ Γ0 Γ1 Γ2 Γ3 Γ4 ΓL : Gm} {a b e : Expr} {es : List Expr} {ma mb m : En → R D} {ms : En → R (List D)} {τ τ1 τ2 e0 : Sh} {τs : List Sh} {pos p px : Pos} {x : Str} {k k' n : Nat} {f : List D → R D} {body : List Stmt} {sb : En → Out} {i : Nat}
theorem units65 {A : Around} (hr : Room k A) : A.units + 65 < cLine := by have := hr.un; omega
/-- an item of an owned list in a slot, that is shared or scalar itself -/
theorem se_ixV (i : Nat) {x : Str} (hb : SE X c Γ b mb Γ2 τ2) (hΓ : Γ2[i]? = some (some (.l e0)) := by rfl) (he : e0 = .s ∨ e0 = .sc := by first | exact .inl rfl | exact .inr rfl) (h0 : Γ[i]? = some (some (.l e0)) := by rfl) (hN : X.N[i]? = some x := by rfl) (hv : Vis X.env.scope x := by first | exact Or.inl rfl | exact Or.inr (Or.inl rfl) | exact Or.inr (Or.inr rfl)) (hd : (x == ("__debug__" : Str)) = false := by decide)
    (hcd : (x == ("__classdict__" : Str)) = false := by decide) (hs : PlainIx b := by exact fun _ _ => rfl) : SE X c Γ (.Subscript (.Name x px) b pos) (e2 dIdx (eV i) mb) Γ2 e0 := by
  refine PE.mono (pe_ix ix_seq (pe_var hN hv hd hcd) hb hs) fun σ H Q ⟨E, T, r, kk⟩ => ?_
  obtain ⟨p0, ds0, vs0, y1, y2, y3, y4⟩ := r.own h0
  refine ⟨.ref p0, y2, E, T, r, ?_⟩
  unfold e2 at kk
  rw [eV_at y1] at kk
  dsimp only [R.bind] at kk
  cases e1 : mb E with
  | exn n ns ds => rw [e1] at kk; exact kk
  | bad => rw [e1] at kk; exact kk
  | ok dk =>
    rw [e1] at kk
    dsimp only at kk
    intro w H1 s r1
    cases dk with
    | int z =>
      dsimp only [dIdx] at kk
      cases e3 : ixN ds0.length z with
      | none => rw [e3] at kk; exact kk.elim
      | some j =>
        rw [e3] at kk; dsimp only at kk
        cases e4 : ds0[j]? with
        | none => rw [e4] at kk; exact kk.elim
        | some d =>
          rw [e4] at kk
          have hw : w = .int z := r1.top
          obtain ⟨Hs, f1, f2, q⟩ := r1.pop
          obtain ⟨d', v', fp, z1, z2, rs, _⟩ := q.slo.get hΓ
          rw [y1] at z1; cases z1
          rw [y2] at z2; cases z2
          obtain ⟨nb, p', vs, ds', g, u1, u2, u3, u4, rl, u5⟩ := rs
          cases u1; cases u2
          obtain ⟨v, g', ev, rv, _⟩ := rl.get e4
          have eg : g' = [] := by rcases he with h | h <;> subst h <;> exact rv.2
          subst eg
          exact .inl ⟨p0, vs, z, v, rfl, hw, .of u3, atI_of rl.length e3 ev, kk v _ s (q.push rv)⟩
    | _ => exact kk.elim
/-- name op= e -/
def sAug (i : Nat) (f : D → D → R D) (m : En → R D) : En → Out := fun E => match m E with
  | .ok d => match eV i E with
    | .ok d0 => match f d0 d with
      | .ok r => .nx (E.set i (some r))
      | _ => .bad
    | _ => .bad
  | .exn c ns ds => .exn c ns ds E
  | .bad => .bad
theorem ss_addI (i : Nat) (he : SE X c Γ e m Γ1 τ) {sh : Sh} (hN : X.N.Nodup) (h0 : Γ[i]? = some (some sh) := by rfl) (hi : X.N[i]? = some x := by rfl) (hx : Loc X.env.scope x := by first | exact Or.inl rfl | exact Or.inr rfl) (gb : GB Γ1 = true := by rfl) (hl : i < Γ1.length := by exact Nat.le_of_ble_eq_true rfl)
    (hf : X.fn x = true ∨ X.env.scope.names.lookup x = some .local := by first | exact .inl rfl | exact .inr rfl) : SS X c Γ (.AugAssign (.Name x px) .Add e pos) (sAug i dAdd m) (Γ1.set i (some .sc)) := PS.mono (ps_aug hN hi hx he (show PIp X .Add (fun x y H Q => (ipI (fun i j => i + j)) x y H Q ∨ ∃ i j, x = .str i ∧ y = .str j ∧ i.length + j.length ≤ sizeLine ∧ Q (.str (i ++ j)) H) from fun pins s σ H x y v u Q I r1 r2 h => by
      rcases h with h | h
      · exact ip_add pins s σ H x y v u Q I r1 r2 h
      · exact iop_add_str pins s σ H x y v u Q I r1 r2 h) hf) fun D σ H ⟨E, T, tb, r, k⟩ => by
  obtain ⟨d0, v0, z1, z2, rp⟩ := r.slot h0
  refine ⟨v0, z2, E, T, r, ?_⟩
  unfold sAug at k
  cases e : m E with
  | ok d =>
    rw [e] at k
    rw [eV_at z1] at k
    dsimp only at k
    intro w H1 s r1
    cases d0 with
    | int a =>
      cases d with
      | int b =>
        have hw : w = .int b := r1.top
        exact .inl ⟨a, b, rp, hw, k _ _ ((r1.pop.psc (d := .int (a + b)) (v := .int (a + b)) rfl).store hl gb)⟩
      | _ => exact k.elim
    | str a =>
      cases d with
      | str b =>
        dsimp only [dAdd] at k
        by_cases hc : a.length + b.length ≤ 16777216
        · rw [if_pos hc] at k
          have hw : w = .str b := r1.top
          exact .inr ⟨a, b, rp, hw, by rw [sizeLine_eq]; exact hc, k _ _ ((r1.pop.psc (d := .str (a ++ b)) (v := .str (a ++ b)) rfl).store hl gb)⟩
        · rw [if_neg hc] at k; exact k.elim
      | _ => exact k.elim
    | _ => cases d <;> exact k.elim
  | exn n ns ds => rw [e] at k; exact fun cls dd H' x r' => k cls dd σ H' x r'
  | bad => rw [e] at k; exact k
/-- max, min of two numbers; abs -/
def dMax : D → D → R D
  | .int i, .int j => .ok (.int (if j > i then j else i))
  | _, _ => .bad
def dMin : D → D → R D
  | .int i, .int j => .ok (.int (if j < i then j else i))
  | _, _ => .bad
def dAbs : D → R D
  | .int i => .ok (.int (if i < 0 then -i else i))
  | _ => .bad
theorem se_max (hc : X.calm = true) (hg : Gl X "max") (hm : X.mg "max" = none) (ha : SE X c Γ a ma Γ1 τ1) (hb : SE X c Γ1 b mb Γ2 τ2) (he : starEach [a, b] X.env = (false, eval a X.env) :: starEach [b] X.env := by rfl) (he2 : starEach [b] X.env = (false, eval b X.env) :: starEach [] X.env := by rfl)
    (hpl : (backTo pos (starEach [b] X.env)).any (·.1) = false := by rfl) : SE X c Γ (.Call (.Name "max" p) [a, b] [] pos) (e2 dMax ma mb) Γ2 .sc := by
  refine se_b2 (call_max2 hc) hg hm (by decide +kernel) ha hb (fun E T σ d d' v w H Q r k => ?_) (fun d d' n ns ds e => by cases d <;> cases d' <;> cases e) (he := he) (he2 := he2) (hpl := hpl)
  cases d with
  | int i =>
    cases d' with
    | int j =>
      have h1 : v = .int i := r.pop.top
      have h2 : w = .int j := r.top
      exact ⟨i, j, by rw [h1, h2], k _ H (Same.refl _) (r.pop.pop.psc rfl)⟩
    | _ => exact k.elim
  | _ => cases d' <;> exact k.elim
theorem se_min (hc : X.calm = true) (hg : Gl X "min") (hm : X.mg "min" = none) (ha : SE X c Γ a ma Γ1 τ1) (hb : SE X c Γ1 b mb Γ2 τ2) (he : starEach [a, b] X.env = (false, eval a X.env) :: starEach [b] X.env := by rfl) (he2 : starEach [b] X.env = (false, eval b X.env) :: starEach [] X.env := by rfl)
    (hpl : (backTo pos (starEach [b] X.env)).any (·.1) = false := by rfl) : SE X c Γ (.Call (.Name "min" p) [a, b] [] pos) (e2 dMin ma mb) Γ2 .sc := by
  refine se_b2 (call_min2 hc) hg hm (by decide +kernel) ha hb (fun E T σ d d' v w H Q r k => ?_) (fun d d' n ns ds e => by cases d <;> cases d' <;> cases e) (he := he) (he2 := he2) (hpl := hpl)
  cases d with
  | int i =>
    cases d' with
    | int j =>
      have h1 : v = .int i := r.pop.top
      have h2 : w = .int j := r.top
      exact ⟨i, j, by rw [h1, h2], k _ H (Same.refl _) (r.pop.pop.psc rfl)⟩
    | _ => exact k.elim
  | _ => cases d' <;> exact k.elim
theorem se_abs (hg : Gl X "abs") (hm : X.mg "abs" = none) (ha : SE X c Γ a ma Γ1 τ1) (he : starEach [a] X.env = (false, eval a X.env) :: starEach [] X.env := by rfl) : SE X c Γ (.Call (.Name "abs" p) [a] [] pos) (e1 dAbs ma) Γ1 .sc := by
  refine se_b1 call_abs hg hm (by decide +kernel) ha (fun E T σ d v H Q r k => ?_) (fun d n ns ds e => by cases d <;> cases e) (he := he)
  cases d with
  | int i =>
    have h1 : v = .int i := r.top
    exact ⟨i, by rw [h1], k _ H (Same.refl _) (r.pop.psc rfl)⟩
  | _ => exact k.elim
/-- range(a, b, c) -/
def rngC (i j k : Int) : Bool := (decide (k ≠ 0) && decide (k.natAbs < 1073741824)) && (Builtin.Range.small i j k && (decide (0 ≤ Builtin.Range.rangeSize i j k) && decide (Builtin.Range.rangeSize i j k ≤ 16777216)))
def rngK (i k : Int) (n : Nat) : List D := (List.range n).map fun (t : Nat) => .int (i + (t : Int) * k)
def dRng3 : List D → R (List D)
  | [.int i, .int j, .int k] => if rngC i j k = true then .ok (rngK i k (Builtin.Range.rangeSize i j k).toNat) else .bad
  | _ => .bad
theorem dRng3_bad {ds : List D} (h : ¬ ∃ i j k, ds = [.int i, .int j, .int k]) : dRng3 ds = .bad := by
  unfold dRng3
  split
  · exact absurd ⟨_, _, _, rfl⟩ h
  · rfl
theorem rngK_len {i k : Int} {n : Nat} : (rngK i k n).length = n := by unfold rngK; simp
theorem it_rngK {M : Mx} {B Hb : Hp} {i k : Int} {n : Nat} {t : Sh × D × V} : ItOk M B Hb (Itc i k n) .sc t (rngK i k n) := by
  intro Γ E σ L T H m r
  refine ⟨fun d hd => ?_, fun hn => by rw [rngK_len] at hn; exact hn⟩
  unfold rngK at hd
  rw [List.getElem?_map] at hd
  obtain ⟨j, hj, e⟩ := Option.map_eq_some_iff.mp hd
  have hlt : m < n := by
    have := (List.getElem?_eq_some_iff.mp hj).1
    simpa using this
  rw [List.getElem?_range hlt] at hj
  cases hj
  subst e
  refine ⟨hlt, fun x H' y => ?_⟩
  obtain ⟨rfl, rfl⟩ := y
  exact ⟨Same.refl _, r.psc rfl⟩
theorem si_range3 {tg d : Expr} (hg : Gl X "range") (hm : X.mg "range" = none) (h : SA X c Γ [a, b, d] ms Γ1 τs) (hs : starEach [a, b, d] X.env = (false, eval a X.env) :: starEach [b, d] X.env := by rfl) (hpl : (backTo pos (starEach [b, d] X.env)).any (·.1) = false := by rfl) : SI X c tg Γ (.Call (.Name "range" p) [a, b, d] [] pos) (iA dRng3 ms) Γ1 .sc :=
  PI.mono (pi_range3 hg hm h hs hpl) fun σ H Q ⟨E, T, r, k⟩ => ⟨E, T, r, by
  unfold iA at k
  cases e1 : ms E with
  | ok ds =>
    rw [e1] at k
    dsimp only [R.bind] at k
    intro ts H1 s1 q1 q2 r1
    have ar := r1.args
    rw [q2] at ar
    have key : ∀ i j kk, ds = [.int i, .int j, .int kk] → ∃ (i j c : Int) (n : Nat), ts.map (·.2.2) = [V.int i, V.int j, V.int c] ∧ RgC i j c n ∧ Q (Itc i c n) H1 := fun i j kk hd => by
      subst hd
      dsimp only [dRng3] at k
      by_cases hc : rngC i j kk = true
      · rw [if_pos hc] at k
        obtain ⟨v, rr, z1, z2, v', rr', z3, z4, v2, rr2, z5, z6, z7⟩ := ar
        have z7' : rr2 = [] := z7
        have y1 : v = .int i := z2
        have y2 : v' = .int j := z4
        have y3 : v2 = .int kk := z6
        subst z7'; subst y1; subst y2; subst y3; subst z5; subst z3
        unfold rngC at hc
        simp only [Bool.and_eq_true, decide_eq_true_eq] at hc
        obtain ⟨⟨c1, c2⟩, c3, c4, c5⟩ := hc
        exact ⟨i, j, kk, (Builtin.Range.rangeSize i j kk).toNat, z1, ⟨c1, c2, c3, by omega⟩, k _ _ (.sc, .non, .non) s1 (r1.drops.psc rfl) rfl it_rngK (by rw [rngK_len, sizeLine_eq]; omega)⟩
      · rw [if_neg hc] at k; exact k.elim
    by_cases h3 : ∃ i j kk, ds = [.int i, .int j, .int kk]
    · obtain ⟨i, j, kk, h3⟩ := h3
      exact key i j kk h3
    · rw [dRng3_bad h3] at k
      exact k.elim
  | exn n ns ds => rw [e1] at k; exact k
  | bad => rw [e1] at k; exact k⟩
end
end Bd

set_option Elab.async false
set_option linter.all false
set_option maxRecDepth 100000
set_option maxHeartbeats 1000000
namespace Bd
open PySem PySem.Spec PyProof.Rows L2

/-! ### try .. except -/
def sTryO (c : List (Str × Bool)) (mb ms : En → Out) : En → Out := fun E => match mb E with
  | .exn n ns ds E' => (match c.lookup n with
    | some true => (match ms E' with
      | .exn _ _ _ _ => .bad
      | o => o)
    | some false => .exn n ns ds E'
    | none => .bad)
  | o => o
def outE (f : En → En) : Out → Out
  | .nx E => .nx (f E)
  | .bk E => .bk (f E)
  | .ct E => .ct (f E)
  | .rt d => .rt d
  | _ => .bad
def sTryA (n0 : Str) (c : List (Str × Bool)) (i : Nat) (mb ms : En → Out) : En → Out := fun E => match mb E with
  | .exn n ns ds E' => (match c.lookup n with
    | some true => if n = n0 ∧ ns = [] then outE (fun E => E.set i none) (ms (E'.set i (some .raw))) else .bad
    | some false => .exn n ns ds E'
    | none => .bad)
  | o => o
/-- what a clause catches of the classes by their names -/
def Cat (K : PySem.W.Frag) (mg : Str → Option Value) (cv : Value) (c : List (Str × Bool)) : Prop := ∀ n b, c.lookup n = some b → ∃ C, mg n = some (.ref C) ∧ PySem.W.exmOne K (.ref C) cv = some b
theorem Cat.nil {K : PySem.W.Frag} {mg : Str → Option Value} {cv : Value} : Cat K mg cv [] := fun n b h => by cases h
theorem Cat.cons {K : PySem.W.Frag} {mg : Str → Option Value} {cv : Value} {c : List (Str × Bool)} {m : Str} {C : Addr} {b : Bool} (h1 : mg m = some (.ref C)) (h2 : PySem.W.exmOne K (.ref C) cv = some b) (h : Cat K mg cv c) : Cat K mg cv ((m, b) :: c) := fun n b' e => by
  rw [List.lookup_cons] at e
  by_cases hn : n = m
  · subst hn
    rw [beq_self_eq_true] at e
    cases e
    exact ⟨C, h1, h2⟩
  · rw [beq_eq_false_iff_ne.mpr hn] at e
    exact h n b' e
section
variable {X : Cx} {c : Ct} {Γ Γ1 Γ2 Γ3 : Gm} {x n : Str} {cv : Value} {body suite : List Stmt} {b₀ : Stmt} {np pos pos' : Pos} {mb ms : En → Out} {cat : List (Str × Bool)}
theorem Rel.dead {M : Mx} {B Hb H : Hp} {E : En} {σ : Sg} {T : Tm} {i : Nat} (r : Rel M B Hb Γ E σ T H) (h : Γ[i]? = some none) {e : Option D} {y : Option V} : Rel M B Hb Γ (E.set i e) (σ.set i y) T H := by
  obtain ⟨Hs, f1, f2, q⟩ := r
  exact ⟨Hs, f1, f2, { q with slo := q.slo.dead h }⟩
theorem ss_tryO (Γx : Gm) (hs : X.stack = X.env :: X.outer) (hf : X.env.frame = some X.env.locals) (hc : Names X x cv) (tk : Takes X c.W) (hk : Cat X.K X.mg cv cat)
    (hb : ∀ (W : WX) (pn : List (Addr × Obj)) (xe : Value → Shared → Prop), Takes (X.tr pn xe) W → PassesOwn (model X.prog X.w) X.A X.env xe → SSs (X.tr pn xe) { c with W := W, gx := Γx } Γ body mb Γ3)
    (hsu : ∀ (a : Addr) (pn : List (Addr × Obj)), SSs (X.suite a pn) { c with W := fun _ _ _ _ => False } Γx (b₀ :: suite) ms Γ3)
    (hw : wk Γx c.gx = true := by rfl) (gb : GB Γx = true := by rfl) : SS X c Γ (.Try body [.ExceptHandler (some (.Name x np)) none (b₀ :: suite) pos'] [] [] pos) (sTryO cat mb ms) Γ3 :=
  PS.mono (ps_try_only (tb := fun W => rdS X { c with W := W, gx := Γx } Γ mb Γ3) (ts := fun _ _ _ => rdS X { c with W := fun _ _ _ _ => False } Γx ms Γ3) hs hf hc tk hb fun a oe cls d pn _ _ => hsu a _) fun D σ H ⟨E, T, tb, r, k⟩ => ⟨E, T, tb, r, by
  unfold sTryO at k
  cases e : mb E with
  | nx E' => rw [e] at k; exact k
  | rt d => rw [e] at k; exact k
  | bk E' => rw [e] at k; exact k
  | ct E' => rw [e] at k; exact k
  | bad => rw [e] at k; exact k
  | exn m ns ds E' =>
    rw [e] at k
    dsimp only at k
    intro cls dd σ' H' xr r'
    cases el : cat.lookup m with
    | none => rw [el] at k; exact k.elim
    | some b =>
      rw [el] at k
      obtain ⟨C, hC, hx⟩ := hk m b el
      obtain ⟨C', ec, hC', _⟩ := id xr
      rw [show (Cx.m X).mg m = X.mg m from rfl, hC] at hC'
      cases hC'
      subst ec
      refine ⟨b, hx, fun hb a _ => ?_, fun hb => ?_⟩
      · subst hb
        dsimp only at k
        refine ⟨E', T, tb, r', ?_⟩
        cases e2 : ms E' with
        | exn _ _ _ _ => rw [e2] at k; exact k.elim
        | nx _ => rw [e2] at k; exact k
        | rt _ => rw [e2] at k; exact k
        | bk _ => rw [e2] at k; exact k
        | ct _ => rw [e2] at k; exact k
        | bad => rw [e2] at k; exact k
      · subst hb
        dsimp only at k
        exact k _ _ _ _ xr (r'.weak gb hw)⟩
theorem PSs.pure {X : Cx} {P : Prop} {sts : List Stmt} {t : TS} (h : P → PSs X sts t) : PSs X sts (fun D σ H => P ∧ t D σ H) := ⟨fun pins s σ H D I q => (h q.1).run pins s σ H D I q.2⟩
theorem ss_tryA {n0 : Str} {C0 : Addr} (i : Nat) (Γx : Gm) (hs : X.stack = X.env :: X.outer) (hf : X.env.frame = some X.env.locals) (hN : X.N.Nodup) (hi : X.N[i]? = some n) (hln : X.env.kindOf n = some .local) (hc : Names X x cv) (tk : Takes X c.W) (hk : Cat X.K X.mg cv cat) (h0 : X.mg n0 = some (.ref C0))
    (hb : ∀ (W : WX) (pn : List (Addr × Obj)) (xe : Value → Shared → Prop), Takes (X.tr pn xe) W → PassesOwn (model X.prog X.w) X.A X.env xe → SSs (X.tr pn xe) { c with W := W, gx := Γx } Γ body mb Γ3)
    (hsu : ∀ (a : Addr) (oe : Obj) (pn : List (Addr × Obj)), Zc (.ref C0) none oe → (∃ vs, oe.data = .fields vs) → SSs (X.suite a ((a, oe) :: pn)) { c with W := fun _ _ _ _ => False } (Γx.set i (some (.at a))) (b₀ :: suite) ms Γ3)
    (h3 : Γ3[i]? = some none := by rfl) (hil : i < Γx.length := by exact Nat.le_of_ble_eq_true rfl) (hgb : c.gb[i]? = some none ∨ c.gb = [] := by first | exact .inl rfl | exact .inr rfl) (hgc : c.gc[i]? = some none ∨ c.gc = [] := by first | exact .inl rfl | exact .inr rfl)
    (hw : wk Γx c.gx = true := by rfl) (gb : GB Γx = true := by rfl) : SS X c Γ (.Try body [.ExceptHandler (some (.Name x np)) (some n) (b₀ :: suite) pos'] [] [] pos) (sTryA n0 cat i mb ms) Γ3 :=
  PS.mono (ps_try_as (tb := fun W => rdS X { c with W := W, gx := Γx } Γ mb Γ3) (ts := fun a cls d D σ H => (cls = .ref C0 ∧ d = none) ∧ rdS X { c with W := fun _ _ _ _ => False } (Γx.set i (some (.at a))) ms Γ3 D σ H) hs hf hN hi hln hc tk hb fun a oe cls d pn z f => PSs.pure fun q => by
    obtain ⟨rfl, rfl⟩ := q
    exact hsu a oe pn z f) fun D σ H ⟨E, T, tb, r, k⟩ => ⟨E, T, tb, r, by
  unfold sTryA at k
  cases e : mb E with
  | nx E' => rw [e] at k; exact k
  | rt d => rw [e] at k; exact k
  | bk E' => rw [e] at k; exact k
  | ct E' => rw [e] at k; exact k
  | bad => rw [e] at k; exact k
  | exn m ns ds E' =>
    rw [e] at k
    dsimp only at k
    intro cls dd σ' H' xr r'
    cases el : cat.lookup m with
    | none => rw [el] at k; exact k.elim
    | some b =>
      rw [el] at k
      obtain ⟨C, hC, hx⟩ := hk m b el
      obtain ⟨C', ec, hC', hno, _⟩ := id xr
      rw [show (Cx.m X).mg m = X.mg m from rfl, hC] at hC'
      cases hC'
      subst ec
      refine ⟨b, hx, fun hb a _ => ?_, fun hb => ?_⟩
      · subst hb
        dsimp only at k
        by_cases hq : m = n0 ∧ ns = []
        · rw [if_pos hq] at k
          obtain ⟨rfl, rfl⟩ := hq
          rw [hC] at h0
          cases h0
          refine ⟨⟨rfl, hno rfl⟩, E'.set i (some .raw), T, tb, ?_, ?_⟩
          · obtain ⟨Hs, f1, f2, q⟩ := r'
            exact Rel.store (sh := .at a) (d := .raw) (v := .ref a) hil gb (q.push ⟨rfl, rfl, rfl⟩)
          · cases e2 : ms (E'.set i (some .raw)) with
            | exn _ _ _ _ => rw [e2] at k; exact k.elim
            | nx E2 => rw [e2] at k; exact fun σ2 H2 r2 => k _ _ (r2.dead h3)
            | rt _ => rw [e2] at k; exact k
            | bk E2 =>
              rw [e2] at k
              refine fun σ2 H2 r2 => k _ _ ?_
              rcases hgb with hgb | hgb
              · exact r2.dead hgb
              · rw [show ({ c with W := fun _ _ _ _ => False } : Ct).gb = c.gb from rfl, hgb] at r2
                rw [hgb]
                obtain ⟨Hs, f1, f2, q⟩ := r2
                obtain ⟨e3, e4, e5⟩ := q.slo
                subst e3; subst e4
                exact ⟨Hs, f1, f2, { q with slo := ⟨rfl, rfl, e5⟩ }⟩
            | ct E2 =>
              rw [e2] at k
              refine fun σ2 H2 r2 => k _ _ ?_
              rcases hgc with hgc | hgc
              · exact r2.dead hgc
              · rw [show ({ c with W := fun _ _ _ _ => False } : Ct).gc = c.gc from rfl, hgc] at r2
                rw [hgc]
                obtain ⟨Hs, f1, f2, q⟩ := r2
                obtain ⟨e3, e4, e5⟩ := q.slo
                subst e3; subst e4
                exact ⟨Hs, f1, f2, { q with slo := ⟨rfl, rfl, e5⟩ }⟩
            | bad => rw [e2] at k; exact k
        · rw [if_neg hq] at k; exact k.elim
      · subst hb
        dsimp only at k
        exact k _ _ _ _ xr (r'.weak gb hw)⟩
/-- isinstance(e, x), e the error that the suite holds -/
def dRaw (b : Bool) : D → R D
  | .raw => .ok (.bl b)
  | _ => .bad
theorem slotAt {M : Mx} {B Hb H : Hp} {E : En} {σ : Sg} {T : Tm} {i : Nat} {a : Addr} (r : Rel M B Hb Γ E σ T H) (hΓ : Γ[i]? = some (some (.at a))) : E[i]? = some (some .raw) ∧ σ[i]? = some (some (.ref a)) := by
  obtain ⟨Hs, f1, f2, q⟩ := r
  obtain ⟨d, v, f, e1, e2, rs, _⟩ := q.slo.get hΓ
  obtain ⟨rfl, rfl, _⟩ := rs
  exact ⟨e1, e2⟩
theorem se_isX {a D0 C : Addr} {oe : Obj} {pn : List (Addr × Obj)} {m : Str} {b : Bool} {p p2 p3 pos : Pos} (i : Nat) (Q0 : ExcC X.K D0) (hz : Zc (.ref D0) none oe) (hf : ∃ vs, oe.data = .fields vs) (hk : PySem.W.kitOne X.K (.ref D0) (.ref C) = some b)
    (hg : Gl X "isinstance") (hm : X.mg "isinstance" = none) (hgx : Gl X x) (hmx : X.mg x = some (.ref C))
    (hΓ : Γ[i]? = some (some (.at a)) := by rfl) (hN : X.N[i]? = some m := by rfl) (hv : Vis X.env.scope m := by first | exact Or.inl rfl | exact Or.inr (Or.inl rfl) | exact Or.inr (Or.inr rfl)) (hd : (m == ("__debug__" : Str)) = false := by decide)
    (hcd : (m == ("__classdict__" : Str)) = false := by decide) (hdx : (x == ("__debug__" : Str)) = false := by decide)
    (he : starEach [.Name m p2, .Name x p3] X.env = (false, eval (.Name m p2) X.env) :: starEach [.Name x p3] X.env := by rfl) (he2 : starEach [.Name x p3] X.env = (false, eval (.Name x p3) X.env) :: starEach [] X.env := by rfl)
    (hpl : (backTo pos (starEach [.Name x p3] X.env)).any (·.1) = false := by rfl) :
    SE (X.suite a ((a, oe) :: pn)) c Γ (.Call (.Name "isinstance" p) [.Name m p2, .Name x p3] [] pos) (e1 (dRaw b) (eV i)) Γ .sc :=
  PE.mono (pe_callB (X := X.suite a ((a, oe) :: pn)) (call_isE Q0 hz hf) hg hm (by decide +kernel) (pa_cons (pe_var hN hv hd hcd) (pa_cons (pe_glob (v := .ref C) hgx hmx rfl hdx) pa_nil he2) he) (he := he) (hpl := hpl)) fun σ H Q ⟨E, T, r, k⟩ => by
  obtain ⟨h1, h2⟩ := slotAt r hΓ
  unfold e1 at k
  rw [eV_at h1] at k
  exact ⟨_, h2, _, _, _, rfl, fun u h => h, hk, k _ H (Same.refl _) (r.psc rfl)⟩
theorem se_isXb {a D0 : Addr} {oe : Obj} {pn : List (Addr × Obj)} {m : Str} {ty : String} {b : Bool} {p p2 p3 pos : Pos} (i : Nat) (Q0 : ExcC X.K D0) (hz : Zc (.ref D0) none oe) (hf : ∃ vs, oe.data = .fields vs) (hk : PySem.W.kitOne X.K (.ref D0) (.type ty) = some b)
    (hg : Gl X "isinstance") (hm : X.mg "isinstance" = none) (hgx : Gl X x) (hmx : X.mg x = none) (hbx : bootBuiltins x = some (.type ty)) (hnx : x ≠ "__name__" := by decide)
    (hΓ : Γ[i]? = some (some (.at a)) := by rfl) (hN : X.N[i]? = some m := by rfl) (hv : Vis X.env.scope m := by first | exact Or.inl rfl | exact Or.inr (Or.inl rfl) | exact Or.inr (Or.inr rfl)) (hd : (m == ("__debug__" : Str)) = false := by decide)
    (hcd : (m == ("__classdict__" : Str)) = false := by decide) (hdx : (x == ("__debug__" : Str)) = false := by decide)
    (he : starEach [.Name m p2, .Name x p3] X.env = (false, eval (.Name m p2) X.env) :: starEach [.Name x p3] X.env := by rfl) (he2 : starEach [.Name x p3] X.env = (false, eval (.Name x p3) X.env) :: starEach [] X.env := by rfl)
    (hpl : (backTo pos (starEach [.Name x p3] X.env)).any (·.1) = false := by rfl) :
    SE (X.suite a ((a, oe) :: pn)) c Γ (.Call (.Name "isinstance" p) [.Name m p2, .Name x p3] [] pos) (e1 (dRaw b) (eV i)) Γ .sc :=
  PE.mono (pe_callB (X := X.suite a ((a, oe) :: pn)) (call_isE Q0 hz hf) hg hm (by decide +kernel) (pa_cons (pe_var hN hv hd hcd) (pa_cons (pe_bltn (v := .ty ty) hgx hmx hbx rfl hnx hdx) pa_nil he2) he) (he := he) (hpl := hpl)) fun σ H Q ⟨E, T, r, k⟩ => by
  obtain ⟨h1, h2⟩ := slotAt r hΓ
  unfold e1 at k
  rw [eV_at h1] at k
  exact ⟨_, h2, _, _, _, rfl, fun u h => h, hk, k _ H (Same.refl _) (r.psc rfl)⟩
end
theorem kit_cls {K : PySem.W.Frag} {C : Addr} {t : Value} {b : Bool} (hdct : PySem.W.hasDictIn K C = true) (ht : PySem.W.typeIn K (.ref C) = some (.type "type")) (h4 : PySem.W.subIn K t (.ref C) = some b) : PySem.W.kitCls K t (.ref C) = some b := by
  obtain ⟨cd, hc, _⟩ := PySem.W.any_some hdct
  have e2 : ((PySem.W.clsIn K C).isSome && PySem.W.typeIn K (.ref C) == some (.type "type")) = true := by rw [hc, ht] <;> rfl
  show (if ((PySem.W.clsIn K C).isSome && PySem.W.typeIn K (.ref C) == some (.type "type")) = true then PySem.W.subIn K t (.ref C) else none) = some b
  rw [if_pos e2]; exact h4
theorem kit_ref {K : PySem.W.Frag} {C : Addr} {t : Value} (hdct : PySem.W.hasDictIn K C = true) (ht : PySem.W.typeIn K (.ref C) = some (.type "type")) (h4 : PySem.W.subIn K t (.ref C) = some true) : PySem.W.kitOne K t (.ref C) = some true := by
  unfold PySem.W.kitOne
  split
  · rfl
  · exact kit_cls hdct ht h4
theorem kit_refN {K : PySem.W.Frag} {C D0 : Addr} (hne : (D0 == C) = false) (hdct : PySem.W.hasDictIn K C = true) (ht : PySem.W.typeIn K (.ref C) = some (.type "type")) (h4 : PySem.W.subIn K (.ref D0) (.ref C) = some false) : PySem.W.kitOne K (.ref D0) (.ref C) = some false := by
  unfold PySem.W.kitOne
  rw [if_neg]
  · exact kit_cls hdct ht h4
  · intro e
    have : D0 = C := Value.ref.inj (beq_iff_eq.mp e)
    subst this
    rw [beq_self_eq_true] at hne
    cases hne
theorem kit_type {K : PySem.W.Frag} {D0 : Addr} {T : String} {b : Bool} (hk : PySem.W.kitMeta T = true) (h4 : PySem.W.subIn K (.ref D0) (.type T) = some b) : PySem.W.kitOne K (.ref D0) (.type T) = some b := by
  unfold PySem.W.kitOne
  rw [if_neg]
  · show (if PySem.W.kitMeta T = true then PySem.W.subIn K (.ref D0) (.type T) else none) = some b
    rw [if_pos hk]; exact h4
  · intro e
    have := beq_iff_eq.mp e
    cases this
end Bd

set_option Elab.async false
set_option linter.all false
set_option maxRecDepth 100000
set_option maxHeartbeats 1000000
namespace Bd
open PySem PySem.Spec PyProof.Rows L2

/-! ### int(x), list + list, list * int -/
def rCatL (K : PySem.W.Frag) : R2 := fun x y H Q => ∃ l b xs zs, x = .ref l ∧ y = .ref b ∧ SqL K H l xs ∧ SqL K H b zs ∧ xs.length + zs.length ≤ sizeLine ∧ ∀ p, H p = none → Q (.ref p) (upd H p (.lst (xs ++ zs)))
theorem op_catL {X : Cx} : OpR X (binaryOp .Add) (rCatL X.K) := by
  intro pins s σ H x y v u Q I rx ry h
  obtain ⟨l, b, xs, zs, rfl, rfl, hH, hB, hz, q⟩ := h
  cases rx
  cases ry
  obtain ⟨its, r, ⟨⟨cls, dd, data, sl⟩, n, e, hc, hd, hs⟩, _⟩ := I.list hH
  obtain ⟨its2, r2, ⟨⟨cls2, dd2, data2, sl2⟩, n2, e2, hc2, hd2, hs2⟩, _⟩ := I.list hB
  simp only at hc hd hs hc2 hd2 hs2
  subst hc hd hs hc2 hd2 hs2
  have hl := r.length
  have hl2 := r2.length
  refine concat_meets ⟨_, e, rfl⟩ ⟨_, e2, rfl⟩ noFill_list_add seq_list_add PySem.F.slot_list_add PySem.F.entry_list_add (PySem.F.args_list_add_2 _ _) (list_addW l b its.toArray its2.toArray n n2 none none sl sl2 (by rw [List.size_toArray, List.size_toArray]; omega)) ⟨e, e2, ?_⟩
  have ea : its.toArray ++ its2.toArray = (its ++ its2).toArray := by simp
  rw [ea]
  exact ⟨.ref _, _, I.lnew (t' := s.toks) (r.append r2) (by rw [List.length_append]; omega), rfl, q _ I.fresh⟩
section
variable {X : Cx} {c : Ct} {Γ Γ1 Γ2 Γ3 : Gm} {a b : Expr} {ma mb : En → R D} {τ τ1 τ2 : Sh} {pos p : Pos}
def dInt : D → R D
  | .int i => .ok (.int i)
  | .bl k => .ok (.int (if k then 1 else 0))
  | _ => .bad
theorem se_intOf (hg : Gl X "int") (hm : X.mg "int" = none) (ha : SE X c Γ a ma Γ1 τ1) (he : starEach [a] X.env = (false, eval a X.env) :: starEach [] X.env := by rfl) : SE X c Γ (.Call (.Name "int" p) [a] [] pos) (e1 dInt ma) Γ1 .sc := by
  refine se_b1T call_int1 hg hm (by decide +kernel) ha (fun E T σ d v H Q r k => ?_) (fun d n ns ds e => by cases d <;> cases e) (he := he)
  cases d with
  | int i =>
    have h1 : v = .int i := r.top
    exact .inl ⟨i, by rw [h1], k _ H (Same.refl _) (r.pop.psc rfl)⟩
  | bl i =>
    have h1 : v = .bl i := r.top
    exact .inr ⟨i, by rw [h1], k _ H (Same.refl _) (r.pop.psc rfl)⟩
  | _ => exact k.elim
def dCat : D → D → R D
  | .lst xs, .lst ys => if xs.length + ys.length ≤ 16777216 then .ok (.lst (xs ++ ys)) else .bad
  | _, _ => .bad
def dCatC (d d' : D) : R D := if scL d = true ∧ scL d' = true then dCat d d' else .bad
theorem dCat_nx (d d' : D) (n : Str) (ns : List Str) (ds : List D) : dCat d d' ≠ .exn n ns ds := by
  intro e
  cases d <;> cases d' <;> first | cases e; done | (dsimp only [dCat] at e; split at e <;> cases e)
theorem se_catS (ha : SE X c Γ a ma Γ1 .s) (hb : SE X c Γ1 b mb Γ2 .s) : SE X c Γ (.BinOp a .Add b pos) (e2 dCat ma mb) Γ2 (.l .s) := by
  refine se_op2 (u := rCatL X.K) (fun t t' h h' => pe_op op_catL h h') ha hb (fun E T σ d d' x y H Q r k => ?_) dCat_nx
  have t1 := r.pop.topS
  obtain ⟨Hs, f1, f2, q⟩ := r
  cases d with
  | lst ds =>
    cases d' with
    | lst ds' =>
      dsimp only [dCat] at k
      by_cases hz : ds.length + ds'.length ≤ 16777216
      · rw [if_pos hz] at k
        obtain ⟨g1, g', e, h1, h2⟩ := q.tmp
        obtain ⟨g2, g3, e', h3, h4⟩ := h2
        obtain ⟨p, vs, e1, sq, z, rs⟩ := h3.1
        obtain ⟨p', vs', e1', sq', z', rs'⟩ := h1.1
        have hl := rs.length
        have hl' := rs'.length
        exact ⟨p, p', vs, vs', e1, e1', q.sub.seq sq, q.sub.seq sq', by rw [sizeLine_eq]; omega, fun y ny => k _ _ (same_new ny) ((q.newL (ds := ds ++ ds') rfl ny (by rw [List.length_append, sizeLine_eq]; omega) (rs.append rs').ss).under (L := [(.s, .lst ds', _), (.s, .lst ds, _)]))⟩
      · rw [if_neg hz] at k; exact k.elim
    | _ => exact k.elim
  | _ => cases d' <;> exact k.elim
theorem se_catC (ha : SE X c Γ a ma Γ1 τ1) (hb : SE X c Γ1 b mb Γ2 τ2) : SE X c Γ (.BinOp a .Add b pos) (e2 dCatC ma mb) Γ2 (.l .sc) := by
  refine se_op2 (u := rCatL X.K) (fun t t' h h' => pe_op op_catL h h') ha hb (fun E T σ d d' x y H Q r k => ?_) (fun d d' n ns ds e => by
    unfold dCatC at e
    split at e
    · exact dCat_nx _ _ _ _ _ e
    · cases e)
  unfold dCatC at k
  by_cases hs : scL d = true ∧ scL d' = true
  · rw [if_pos hs] at k
    have t1 := r.pop.top
    have t2 := r.top
    obtain ⟨Hs, f1, f2, q⟩ := r
    cases d with
    | lst ds =>
      cases d' with
      | lst ds' =>
        dsimp only [dCat] at k
        by_cases hz : ds.length + ds'.length ≤ 16777216
        · rw [if_pos hz] at k
          obtain ⟨p, vs, e1, sq, z, rs⟩ := t1.lst
          obtain ⟨p', vs', e1', sq', z', rs'⟩ := t2.lst
          have hl := rs.length
          have hl' := rs'.length
          have hs1 : ds.all isSc = true := hs.1
          have hs2 : ds'.all isSc = true := hs.2
          exact ⟨p, p', vs, vs', e1, e1', sq, sq', by rw [sizeLine_eq]; omega, fun y ny => k _ _ (same_new ny) ((q.newL (ds := ds ++ ds') rfl ny (by rw [List.length_append, sizeLine_eq]; omega) ((rs.append rs').scs (by rw [List.all_append, hs1, hs2]; rfl))).under (L := [(τ2, .lst ds', _), (τ1, .lst ds, _)]))⟩
        · rw [if_neg hz] at k; exact k.elim
      | _ => exact k.elim
    | _ => cases d' <;> exact k.elim
  · rw [if_neg hs] at k; exact k.elim
def dRepC : D → D → R D
  | .lst xs, .int k => if xs.all isSc = true ∧ (-(2 ^ 62) ≤ k ∧ k < 2 ^ 62) ∧ xs.length * k.toNat ≤ 16777216 then .ok (.lst (List.replicate k.toNat xs).flatten) else .bad
  | _, _ => .bad
theorem Reps.rep {M : Mx} {H : Hp} {ds : List D} {vs : List V} (h : Reps M H ds vs) : ∀ n : Nat, Reps M H (List.replicate n ds).flatten (List.replicate n vs).flatten
  | 0 => rfl
  | n + 1 => by
    rw [List.replicate_succ, List.replicate_succ, List.flatten_cons, List.flatten_cons]
    exact h.append (Reps.rep h n)
theorem all_rep {ds : List D} (h : ds.all isSc = true) : ∀ n : Nat, (List.replicate n ds).flatten.all isSc = true
  | 0 => rfl
  | n + 1 => by rw [List.replicate_succ, List.flatten_cons, List.all_append, h, all_rep h n]; rfl
theorem len_rep {α : Type} (ds : List α) (n : Nat) : (List.replicate n ds).flatten.length = ds.length * n := by
  rw [List.length_flatten, List.map_replicate, List.sum_replicate_nat, Nat.mul_comm]
theorem se_repC (ha : SE X c Γ a ma Γ1 (.l .sc)) (hb : SE X c Γ1 b mb Γ2 τ2) : SE X c Γ (.BinOp a .Mult b pos) (e2 dRepC ma mb) Γ2 (.l .sc) := by
  refine se_op2 (u := rRep) (fun t t' h h' => pe_op op_rep h h') ha hb (fun E T σ d d' x y H Q r k => ?_) (fun d d' n ns ds e => by cases d <;> cases d' <;> first | cases e; done | (dsimp only [dRepC] at e; split at e <;> cases e))
  have t1 := r.pop.top
  have t2 := r.top
  obtain ⟨Hs, f1, f2, q⟩ := r
  cases d with
  | lst ds =>
    cases d' with
    | int i =>
      dsimp only [dRepC] at k
      by_cases hz : ds.all isSc = true ∧ (-(2 ^ 62) ≤ i ∧ i < 2 ^ 62) ∧ ds.length * i.toNat ≤ 16777216
      · rw [if_pos hz] at k
        obtain ⟨hs, hi, hz⟩ := hz
        obtain ⟨g1, g', e, h1, h2⟩ := q.tmp
        obtain ⟨g2, g3, e', h3, h4⟩ := h2
        obtain ⟨nb, p, vs, ds', f, e1, e2, e3, z, rl, e4⟩ := h3
        cases e1; cases e2
        have rs : Reps (Cx.m X) H ds vs := rl.reps fun d v f hs x => x.1.rep
        have hl := rs.length
        have hy : y = .int i := t2
        exact ⟨p, i, vs, rfl, hy, e3, by omega, by omega, by rw [sizeLine_eq, ← hl]; exact hz, fun y ny => k _ _ (same_new ny) ((q.newL (ds := (List.replicate i.toNat ds).flatten) rfl ny (by rw [len_rep, sizeLine_eq, ← hl]; exact hz) ((rs.rep _).scs (all_rep hs _))).under (L := [(τ2, .int i, _), (.l .sc, .lst ds, _)]))⟩
      · rw [if_neg hz] at k; exact k.elim
    | _ => exact k.elim
  | _ => cases d' <;> exact k.elim
end
end Bd

set_option Elab.async false
set_option linter.all false
set_option maxRecDepth 100000
set_option maxHeartbeats 1000000
namespace Bd
open PySem PySem.Spec PyProof.Rows L2

/-! ### the plain side: what the mirrors compute -/
def iL (ns : List Int) : D := .lst (ns.map D.int)
@[simp] theorem eV_0 {d : D} {E : En} : eV 0 (some d :: E) = .ok d := rfl
@[simp] theorem eV_s {i : Nat} {x : Option D} {E : En} : eV (i + 1) (x :: E) = eV i E := by unfold eV; simp
@[simp] theorem eC_a {d : D} {E : En} : eC d E = .ok d := rfl
@[simp] theorem e1_a {f : D → R D} {m : En → R D} {E : En} : e1 f m E = (m E).bind f := rfl
@[simp] theorem e2_a {f : D → D → R D} {m m' : En → R D} {E : En} : e2 f m m' E = (m E).bind fun x => (m' E).bind fun y => f x y := rfl
@[simp] theorem aN_a {E : En} : aN E = .ok [] := rfl
@[simp] theorem aC_a {m : En → R D} {ms : En → R (List D)} {E : En} : aC m ms E = (m E).bind fun d => (ms E).bind fun ds => .ok (d :: ds) := rfl
@[simp] theorem eF_a {f : List D → R D} {ms : En → R (List D)} {E : En} : eF f ms E = (ms E).bind f := rfl
@[simp] theorem tE_a {m : En → R D} {E : En} : tE m E = (m E).bind dB := rfl
@[simp] theorem tNotM_a {m : En → R Bool} {E : En} : tNotM m E = (m E).bind fun b => .ok (!b) := rfl
@[simp] theorem tAndM_a {m m' : En → R Bool} {E : En} : tAndM m m' E = (m E).bind fun b => if b = true then m' E else .ok false := rfl
@[simp] theorem tOrM_a {m m' : En → R Bool} {E : En} : tOrM m m' E = (m E).bind fun b => if b = true then .ok true else m' E := rfl
@[simp] theorem eAnd_a {m m' : En → R D} {E : En} : eAnd m m' E = (m E).bind fun d => match d with | .bl true => m' E | .bl false => .ok (.bl false) | _ => .bad := rfl
@[simp] theorem eOr_a {m m' : En → R D} {E : En} : eOr m m' E = (m E).bind fun d => match d with | .bl true => .ok (.bl true) | .bl false => m' E | _ => .bad := rfl
@[simp] theorem dB_bl {b : Bool} : dB (.bl b) = .ok b := rfl
@[simp] theorem dNot_bl {b : Bool} : dNot (.bl b) = .ok (.bl (!b)) := rfl
@[simp] theorem dNeg_int {i : Int} : dNeg (.int i) = .ok (.int (-i)) := rfl
@[simp] theorem dAdd_int {i j : Int} : dAdd (.int i) (.int j) = .ok (.int (i + j)) := rfl
@[simp] theorem dSub_int {i j : Int} : dSub (.int i) (.int j) = .ok (.int (i - j)) := rfl
@[simp] theorem dLt_int {i j : Int} : dLt (.int i) (.int j) = .ok (.bl (decide (i < j))) := rfl
@[simp] theorem dLe_int {i j : Int} : dLe (.int i) (.int j) = .ok (.bl (decide (i ≤ j))) := rfl
@[simp] theorem dGt_int {i j : Int} : dGt (.int i) (.int j) = .ok (.bl (decide (j < i))) := rfl
@[simp] theorem dGe_int {i j : Int} : dGe (.int i) (.int j) = .ok (.bl (decide (j ≤ i))) := rfl
@[simp] theorem dMax_int {i j : Int} : dMax (.int i) (.int j) = .ok (.int (if j > i then j else i)) := rfl
@[simp] theorem dMin_int {i j : Int} : dMin (.int i) (.int j) = .ok (.int (if j < i then j else i)) := rfl
@[simp] theorem dAbs_int {i : Int} : dAbs (.int i) = .ok (.int (if i < 0 then -i else i)) := rfl
@[simp] theorem dLen_lst {ds : List D} : dLen (.lst ds) = .ok (.int ds.length) := rfl
@[simp] theorem dLen_tup {ds : List D} : dLen (.tup ds) = .ok (.int ds.length) := rfl
@[simp] theorem asSc_int {i : Int} : asSc (.int i) = .ok (.int i) := rfl
@[simp] theorem asSc_bl {i : Bool} : asSc (.bl i) = .ok (.bl i) := rfl
@[simp] theorem asSc_str {i : Str} : asSc (.str i) = .ok (.str i) := rfl
@[simp] theorem asSc_non : asSc .non = .ok .non := rfl
@[simp] theorem sSeq_a {a b : En → Out} {E : En} : sSeq a b E = (match a E with | .nx E' => b E' | o => o) := rfl
@[simp] theorem sAsg_a {i : Nat} {m : En → R D} {E : En} : sAsg i m E = (match m E with | .ok d => .nx (E.set i (some d)) | .exn c ns ds => .exn c ns ds E | .bad => .bad) := rfl
@[simp] theorem sExpr_a {m : En → R D} {E : En} : sExpr m E = (match m E with | .ok d => .nx E | .exn c ns ds => .exn c ns ds E | .bad => .bad) := rfl
@[simp] theorem sRet_a {m : En → R D} {E : En} : sRet m E = (match m E with | .ok d => .rt d | .exn c ns ds => .exn c ns ds E | .bad => .bad) := rfl
@[simp] theorem sIf_a {t : En → R Bool} {a b : En → Out} {E : En} : sIf t a b E = (match t E with | .ok true => a E | .ok false => b E | .exn c ns ds => .exn c ns ds E | .bad => .bad) := rfl
@[simp] theorem sPass_a {E : En} : sPass E = .nx E := rfl
@[simp] theorem sBrk_a {E : En} : sBrk E = .bk E := rfl
@[simp] theorem sCnt_a {E : En} : sCnt E = .ct E := rfl
@[simp] theorem sRaise0_a {c : Str} {E : En} : sRaise0 c E = .exn c [] [] E := rfl
@[simp] theorem lAt_0 {xs : List D} {E : En} : lAt 0 (some (.lst xs) :: E) = .ok xs := rfl
@[simp] theorem lAt_s {i : Nat} {x : Option D} {E : En} : lAt (i + 1) (x :: E) = lAt i E := by unfold lAt; simp
@[simp] theorem sApp_a {i : Nat} {m : En → R D} {E : En} : sApp i m E = (match m E with
  | .ok d => match lAt i E with
    | .ok xs => if xs.length < 16777216 then .nx (E.set i (some (.lst (xs ++ [d])))) else .bad
    | _ => .bad
  | .exn c ns ds => .exn c ns ds E
  | .bad => .bad) := rfl
@[simp] theorem sPut_a {i : Nat} {mi m : En → R D} {E : En} : sPut i mi m E = (match m E with
  | .ok d => match mi E with
    | .ok (.int k) => match lAt i E with
      | .ok xs => match ixN xs.length k with
        | some j => .nx (E.set i (some (.lst (xs.set j d))))
        | none => .bad
      | _ => .bad
    | .ok _ => .bad
    | .exn c ns ds => .exn c ns ds E
    | .bad => .bad
  | .exn c ns ds => .exn c ns ds E
  | .bad => .bad) := rfl
@[simp] theorem sAug_a {i : Nat} {f : D → D → R D} {m : En → R D} {E : En} : sAug i f m E = (match m E with
  | .ok d => match eV i E with
    | .ok d0 => match f d0 d with
      | .ok r => .nx (E.set i (some r))
      | _ => .bad
    | _ => .bad
  | .exn c ns ds => .exn c ns ds E
  | .bad => .bad) := rfl
@[simp] theorem sFor_a {g : D → En → R En} {src : En → R (List D)} {body : En → Out} {E : En} : sFor g src body E = (match src E with | .ok xs => forM g body xs E | .exn c ns ds => .exn c ns ds E | .bad => .bad) := rfl
@[simp] theorem gN_a {i : Nat} {d : D} {E : En} : gN i d E = .ok (E.set i (some d)) := rfl
@[simp] theorem tY_a {E : En} : tY E = .ok true := rfl
@[simp] theorem iE_a {f : D → R (List D)} {m : En → R D} {E : En} : iE f m E = (m E).bind f := rfl
@[simp] theorem iA_a {f : List D → R (List D)} {m : En → R (List D)} {E : En} : iA f m E = (m E).bind f := rfl
@[simp] theorem dItems_l {ds : List D} : dItems (.lst ds) = .ok ds := rfl
@[simp] theorem dItemsT_t {ds : List D} : dItemsT (.tup ds) = .ok ds := rfl
@[simp] theorem oN_a {E : En} : oN E = .ok none := rfl
@[simp] theorem oS_a {m : En → R D} {E : En} : oS m E = (m E).bind fun d => (dI d).bind fun i => .ok (some i) := rfl
@[simp] theorem dI_int {i : Int} : dI (.int i) = .ok i := rfl
@[simp] theorem eCut_a {g : D → Option Int → Option Int → R D} {m : En → R D} {ml mh : En → R (Option Int)} {E : En} : eCut g m ml mh E = (m E).bind fun d => (ml E).bind fun l => (mh E).bind fun h => g d l h := rfl
@[simp] theorem eL_a {ms : En → R (List D)} {E : En} : eL ms E = (ms E).bind fun ds => if ds.length ≤ 16777216 then .ok (.lst ds) else .bad := rfl
@[simp] theorem eT_a {ms : En → R (List D)} {E : En} : eT ms E = (ms E).bind fun ds => if ds.length ≤ 16777216 then .ok (.tup ds) else .bad := rfl
@[simp] theorem eComp_a {i : Nat} {src : En → R (List D)} {t : En → R Bool} {m : En → R D} {E : En} : eComp i src t m E = (src E).bind fun xs => match mapO (cTurn i t m E) xs with | .ok ys => .ok (.lst ys) | _ => .bad := rfl
@[simp] theorem dMul_ok {i j : Int} (h : mulC i j = true) : dMul (.int i) (.int j) = .ok (.int (i * j)) := by show (if mulC i j = true then _ else _) = _; rw [if_pos h]
@[simp] theorem dMod_pos {i j : Int} (h : 0 < j) : dMod (.int i) (.int j) = .ok (.int (i % j)) := by
  show (if j ≠ 0 then R.ok (D.int (i.fmod j)) else _) = _
  rw [if_pos (by omega), Int.fmod_eq_emod_of_nonneg i (by omega)]
@[simp] theorem dDiv_pos {i j : Int} (h : 0 < j) (h2 : j < 1073741824) : dDiv (.int i) (.int j) = .ok (.int (i / j)) := by
  have hd : divC j = true := by
    unfold divC
    simp only [Bool.or_eq_true, Bool.and_eq_true, decide_eq_true_eq]
    exact .inl ⟨by omega, by omega⟩
  show (if divC j = true then R.ok (D.int (i.fdiv j)) else _) = _
  rw [if_pos hd, Int.fdiv_eq_ediv_of_nonneg i (by omega)]
@[simp] theorem dPow_ok {i j : Int} (h : 0 ≤ j) (h1 : j ≤ 1000000) (h2 : i.natAbs < 2 ^ 64) : dPow (.int i) (.int j) = .ok (.int (i ^ j.toNat)) := if_pos ⟨h, h1, h2⟩
theorem eqv_int (i j : Int) : PyData.eqv (.int i) (.int j) = (i == j) := rfl
@[simp] theorem dEq_int {i j : Int} : dEq (.int i) (.int j) = .ok (.bl (decide (i = j))) := by
  unfold dEq; rw [if_pos ⟨rfl, rfl⟩]
  show R.ok (D.bl (i == j)) = _
  rw [Bool.beq_eq_decide_eq]
@[simp] theorem dNe_int {i j : Int} : dNe (.int i) (.int j) = .ok (.bl (!decide (i = j))) := by
  unfold dNe; rw [if_pos ⟨rfl, rfl⟩]
  show R.ok (D.bl (!(i == j))) = _
  rw [Bool.beq_eq_decide_eq]
@[simp] theorem dIs_nn : dIs .non .non = .ok (.bl true) := rfl
@[simp] theorem dIsN_nn : dIsN .non .non = .ok (.bl false) := rfl
@[simp] theorem dIs_int {i : Int} : dIs (.int i) .non = .ok (.bl false) := rfl
@[simp] theorem dIsN_int {i : Int} : dIsN (.int i) .non = .ok (.bl true) := rfl
@[simp] theorem dIs_lst {i : List D} : dIs (.lst i) .non = .ok (.bl false) := rfl
@[simp] theorem dIsN_lst {i : List D} : dIsN (.lst i) .non = .ok (.bl true) := rfl
@[simp] theorem isi_int {i : Int} : dIsi (.int i) (.ty "int") = .ok (.bl true) := by simp [dIsi, tyK, tyN]
@[simp] theorem isi_intB {i : Int} : dIsi (.int i) (.ty "bool") = .ok (.bl false) := by simp [dIsi, tyK, tyN]
@[simp] theorem isi_bl {i : Bool} : dIsi (.bl i) (.ty "bool") = .ok (.bl true) := by simp [dIsi, tyK, tyN]
@[simp] theorem isi_blI {i : Bool} : dIsi (.bl i) (.ty "int") = .ok (.bl true) := by simp [dIsi, tyK, tyN]
@[simp] theorem isi_lst {i : List D} : dIsi (.lst i) (.ty "list") = .ok (.bl true) := by simp [dIsi, tyK, tyN]
@[simp] theorem isi_tup {i : List D} : dIsi (.tup i) (.ty "tuple") = .ok (.bl true) := by simp [dIsi, tyK, tyN]

theorem ixN_nat {n k : Nat} (h : k < n) : ixN n (k : Int) = some k := by
  unfold ixN
  rw [if_pos (by omega), if_pos (by omega)]; rfl
theorem dIdx_nat {ds : List D} {k : Nat} {d : D} (h : ds[k]? = some d) : dIdx (.lst ds) (.int (k : Int)) = .ok d := by
  have hk := (List.getElem?_eq_some_iff.mp h).1
  show (match ixN ds.length (k : Int) with | some j => (match ds[j]? with | some d => R.ok d | none => .bad) | none => .bad) = _
  rw [ixN_nat hk]; dsimp only; rw [h]
theorem dIdxT_nat {ds : List D} {k : Nat} {d : D} (h : ds[k]? = some d) : dIdx (.tup ds) (.int (k : Int)) = .ok d := by
  have hk := (List.getElem?_eq_some_iff.mp h).1
  show (match ixN ds.length (k : Int) with | some j => (match ds[j]? with | some d => R.ok d | none => .bad) | none => .bad) = _
  rw [ixN_nat hk]; dsimp only; rw [h]
theorem dIdx_ints {ns : List Int} {k : Nat} (h : k < ns.length) : dIdx (iL ns) (.int (k : Int)) = .ok (.int (ns.getD k 0)) :=
  dIdx_nat (by rw [List.getElem?_map, List.getElem?_eq_getElem h, List.getD_eq_getElem?_getD, List.getElem?_eq_getElem h]; rfl)
@[simp] theorem dLen_iL {ns : List Int} : dLen (iL ns) = .ok (.int ns.length) := by show R.ok (D.int ((ns.map D.int).length)) = _; rw [List.length_map]
@[simp] theorem dItems_iL {ns : List Int} : dItems (iL ns) = .ok (ns.map D.int) := rfl
@[simp] theorem isi_iL {ns : List Int} : dIsi (iL ns) (.ty "list") = .ok (.bl true) := isi_lst
@[simp] theorem dList_iL {ns : List Int} : dList (iL ns) = .ok (iL ns) := rfl
@[simp] theorem lAt_iL {ns : List Int} {E : En} : lAt 0 (some (iL ns) :: E) = .ok (ns.map D.int) := rfl
@[simp] theorem lst_rng {n : Nat} {f : Nat → Int} : D.lst ((List.range n).map fun k => .int (f k)) = iL ((List.range n).map f) := by unfold iL; rw [List.map_map]; rfl
@[simp] theorem lst_app {ns : List Int} {x : Int} : D.lst (ns.map D.int ++ [.int x]) = iL (ns ++ [x]) := by unfold iL; rw [List.map_append]; rfl
@[simp] theorem lst_nil : D.lst [] = iL [] := rfl
theorem ints_all (ns : List Int) : (ns.map D.int).all isSc = true := by
  rw [List.all_map]; exact List.all_eq_true.mpr fun _ _ => rfl
@[simp] theorem dListC_ints {ns : List Int} : dListC (iL ns) = .ok (iL ns) := by
  show (if scL (iL ns) = true then _ else _) = _
  rw [if_pos (show scL (iL ns) = true from ints_all ns)]; rfl
@[simp] theorem dList_lst {ds : List D} : dList (.lst ds) = .ok (.lst ds) := rfl
@[simp] theorem dRng1_nat {n : Nat} (h : n ≤ 16777216) : dRng1 [.int (n : Int)] = .ok (rngD 0 n) := by
  show (if -(2 ^ 62) ≤ (n : Int) ∧ (n : Int) ≤ 16777216 then R.ok (rngD 0 (n : Int).toNat) else _) = _
  rw [if_pos ⟨by omega, by omega⟩]; rfl
theorem dRng1_int {j : Int} (h0 : -1000000 ≤ j) (h : j ≤ 16777216) : dRng1 [.int j] = .ok (rngD 0 j.toNat) := by
  show (if -(2 ^ 62) ≤ j ∧ j ≤ 16777216 then R.ok (rngD 0 j.toNat) else _) = _
  rw [if_pos ⟨by omega, by omega⟩]
theorem mapO_ok {f : D → R (Option D)} {g : D → D} : ∀ {xs : List D}, (∀ d ∈ xs, f d = .ok (some (g d))) → mapO f xs = .ok (xs.map g)
  | [], _ => rfl
  | x :: xs, h => by
    show (match f x with | .ok none => mapO f xs | .ok (some y) => (match mapO f xs with | .ok ys => R.ok (y :: ys) | _ => .bad) | _ => .bad) = _
    rw [h x List.mem_cons_self]
    dsimp only
    rw [mapO_ok fun d hd => h d (List.mem_cons_of_mem _ hd)]
    rfl
theorem cTurn_Y {i : Nat} {m : En → R D} {E : En} {d y : D} (h : m (E.set i (some d)) = .ok y) : cTurn i tY m E d = .ok (some y) := by
  show (match m (E.set i (some d)) with | .ok y => R.ok (some y) | _ => .bad) = _
  rw [h]
/-- a comprehension over a range -/
theorem comp_rng {i n : Nat} {m : En → R D} {E : En} {f : Nat → D} (h : ∀ k, k < n → m (E.set i (some (.int (k : Int)))) = .ok (f k)) : mapO (cTurn i tY m E) (rngD 0 n) = .ok ((List.range n).map f) := by
  have : ∀ (ks : List Nat), (∀ k ∈ ks, k < n) → mapO (cTurn i tY m E) (ks.map fun (k : Nat) => .int (0 + (k : Int))) = .ok (ks.map f) := by
    intro ks
    induction ks with
    | nil => intro _; rfl
    | cons k ks ih =>
      intro hk
      rw [List.map_cons, List.map_cons]
      show (match cTurn i tY m E (.int (0 + (k : Int))) with | .ok none => mapO (cTurn i tY m E) (ks.map fun (k : Nat) => .int (0 + (k : Int))) | .ok (some y) => (match mapO (cTurn i tY m E) (ks.map fun (k : Nat) => .int (0 + (k : Int))) with | .ok ys => R.ok (y :: ys) | _ => .bad) | _ => .bad) = _
      rw [Int.zero_add, cTurn_Y (h k (hk k List.mem_cons_self)), ih fun k hk' => hk k (List.mem_cons_of_mem _ hk')]
  exact this _ fun k hk => List.mem_range.mp hk
/-- .. over a list -/
theorem comp_lst {i : Nat} {m : En → R D} {E : En} {xs : List D} {f : D → D} (h : ∀ d ∈ xs, m (E.set i (some d)) = .ok (f d)) : mapO (cTurn i tY m E) xs = .ok (xs.map f) :=
  mapO_ok fun d hd => cTurn_Y (h d hd)
@[simp] theorem forM_nil {g : D → En → R En} {b : En → Out} {E : En} : forM g b [] E = .nx E := rfl
theorem forM_cons {g : D → En → R En} {b : En → Out} {x : D} {xs : List D} {E : En} : forM g b (x :: xs) E = (match g x E with
    | .ok E1 => match b E1 with
      | .nx E2 => forM g b xs E2
      | .ct E2 => forM g b xs E2
      | .bk E2 => .nx E2
      | o => o
    | _ => .bad) := rfl
/-- a loop that goes through -/
theorem forM_inv {g : D → En → R En} {b : En → Out} (I : Nat → En → Prop) : ∀ {xs : List D} {n : Nat} {E : En}, I n E → (∀ k d E, xs[k]? = some d → I (n + k) E → ∃ E1 E2, g d E = .ok E1 ∧ (b E1 = .nx E2 ∨ b E1 = .ct E2) ∧ I (n + k + 1) E2) → ∃ E', forM g b xs E = .nx E' ∧ I (n + xs.length) E'
  | [], n, E, h, _ => ⟨E, rfl, h⟩
  | x :: xs, n, E, h, k => by
    obtain ⟨E1, E2, h1, h2, h3⟩ := k 0 x E rfl h
    obtain ⟨E', e, r⟩ := forM_inv I (xs := xs) (n := n + 1) h3 fun j d E hd hi => by
      have := k (j + 1) d E (by simpa using hd) (by rw [show n + (j + 1) = n + 1 + j by omega]; exact hi)
      rw [show n + (j + 1) + 1 = n + 1 + j + 1 by omega] at this
      exact this
    refine ⟨E', ?_, by rw [List.length_cons, show n + (xs.length + 1) = n + 1 + xs.length by omega]; exact r⟩
    rw [forM_cons, h1]
    dsimp only
    rcases h2 with h2 | h2 <;> (rw [h2]; exact e)
theorem rngD_at {n k : Nat} {d : D} (h : (rngD 0 n)[k]? = some d) : k < n ∧ d = .int (k : Int) := by
  obtain ⟨h1, h2⟩ := rngD_get h
  exact ⟨h1, by rw [h2, Int.zero_add]⟩
end Bd
namespace Bd
open PySem PySem.Spec PyProof.Rows L2
theorem dRng3_up {j k : Int} (h0 : 0 ≤ j) (h1 : j ≤ 1000000) (h2 : 0 < k) (h3 : k ≤ 1000000) : ∃ n : Nat, dRng3 [.int 0, .int j, .int k] = .ok (rngK 0 k n) ∧ (n : Int) ≤ j ∧ ∀ t : Nat, t < n → 0 ≤ (t : Int) * k ∧ (t : Int) * k < j := by
  have hd : 0 < j → 0 ≤ (j - 0 - 1) / k ∧ (j - 0 - 1) / k ≤ j - 1 := fun hj => by
    have a1 : 0 ≤ (j - 0 - 1) / k := Int.ediv_nonneg (by omega) (by omega)
    have a2 : (j - 0 - 1) / k ≤ j - 0 - 1 := Int.ediv_le_self _ (by omega)
    omega
  have e : Builtin.Range.rangeSize 0 j k = if 0 < j then (j - 0 - 1) / k + 1 else 0 := by
    unfold Builtin.Range.rangeSize
    rw [if_pos (show k > 0 from h2)]
  have hr : 0 ≤ Builtin.Range.rangeSize 0 j k ∧ Builtin.Range.rangeSize 0 j k ≤ j := by
    rw [e]
    split
    · rename_i h; have := hd h; omega
    · omega
  have hc : rngC 0 j k = true := by
    unfold rngC Builtin.Range.small
    simp only [Builtin.Range.rangeFitsLong, Bool.and_eq_true, Bool.or_eq_true, decide_eq_true_eq, beq_iff_eq, show k > 0 from h2, if_true]
    omega
  refine ⟨(Builtin.Range.rangeSize 0 j k).toNat, ?_, by omega, fun t ht => ?_⟩
  · show (if rngC 0 j k = true then R.ok (rngK 0 k (Builtin.Range.rangeSize 0 j k).toNat) else _) = _
    rw [if_pos hc]
  · refine ⟨Int.mul_nonneg (by omega) (by omega), ?_⟩
    have hj : 0 < j := by
      by_cases hj : 0 < j
      · exact hj
      · rw [e, if_neg hj] at ht; exact absurd ht (by simp)
    rw [e, if_pos hj] at ht
    have h5 : (t : Int) ≤ (j - 0 - 1) / k := by omega
    have h6 : (t : Int) * k ≤ (j - 0 - 1) / k * k := Int.mul_le_mul_of_nonneg_right h5 (by omega)
    have h7 : (j - 0 - 1) / k * k ≤ j - 0 - 1 := Int.ediv_mul_le _ (by omega)
    omega
theorem rngK_at {i k : Int} {n m : Nat} {d : D} (h : (rngK i k n)[m]? = some d) : m < n ∧ d = .int (i + (m : Int) * k) := by
  unfold rngK at h
  rw [List.getElem?_map] at h
  obtain ⟨j, hj, e⟩ := Option.map_eq_some_iff.mp h
  have hlt : m < n := by
    have := (List.getElem?_eq_some_iff.mp hj).1
    simpa using this
  rw [List.getElem?_range hlt] at hj
  cases hj
  exact ⟨hlt, e.symm⟩
/-- a bag by its places -/
def zipL (f : Int → Int → Int) (a b : List Int) : List Int := (List.range a.length).map fun k => f (a.getD k 0) (b.getD k 0)
theorem zipL_len {f : Int → Int → Int} {a b : List Int} : (zipL f a b).length = a.length := by unfold zipL; simp
theorem zipL_get {f : Int → Int → Int} {a b : List Int} {k : Nat} (h : k < a.length) : (zipL f a b).getD k 0 = f (a.getD k 0) (b.getD k 0) := by
  unfold zipL
  rw [List.getD_eq_getElem?_getD, List.getElem?_map, List.getElem?_range h]; rfl
theorem ext_getD {a b : List Int} (hl : a.length = b.length) (h : ∀ k, k < a.length → a.getD k 0 = b.getD k 0) : a = b := by
  apply List.ext_getElem hl
  intro i h1 h2
  have := h i h1
  rw [List.getD_eq_getElem?_getD, List.getD_eq_getElem?_getD, List.getElem?_eq_getElem h1, List.getElem?_eq_getElem h2] at this
  exact this
theorem zipL_eq {f : Int → Int → Int} {a b : List Int} : ((List.range a.length).map fun k => f (a.getD k 0) (b.getD k 0)) = zipL f a b := rfl
theorem cut_tail (ns : List Int) : dCutC (iL ns) (some 1) none = .ok (iL (ns.drop 1)) := by
  show (if scL (iL ns) = true then dCut (iL ns) (some 1) none else _) = _
  rw [if_pos (show scL (iL ns) = true from ints_all ns)]
  show R.ok (D.lst _) = _
  have h : HT.sIx (ns.map D.int).length 0 (some 1) = min 1 (ns.map D.int).length := HT.sIx_nat _ 0 1
  rw [h, HT.sIx_none]
  congr 2
  rw [List.map_drop]
  cases ns with
  | nil => rfl
  | cons x r =>
    rw [List.map_cons, List.length_cons]
    have : min 1 ((r.map D.int).length + 1) = 1 := by omega
    rw [this]
    show List.take _ (r.map D.int) = r.map D.int
    exact List.take_of_length_le (by omega)
end Bd

set_option Elab.async false
set_option linter.all false
set_option maxRecDepth 100000
set_option maxHeartbeats 1000000
namespace Bd
open PySem PySem.Spec PyProof.Rows L2
/-! ### sizes and products -/
theorem log2_lt {n k : Nat} (h : n < 2 ^ k) (hk : 0 < k) : n.log2 < k := by
  by_cases h0 : n = 0
  · subst h0; simpa using hk
  · exact (Nat.log2_lt h0).mpr h
theorem mulC_big {i j : Int} (hi : i.natAbs < 2 ^ 400000) (hj : j.natAbs < 2 ^ 400000) : mulC i j = true := by
  unfold mulC
  have h1 := log2_lt hi (by decide)
  have h2 := log2_lt hj (by decide)
  simp only [Bool.or_eq_true, decide_eq_true_eq]
  exact .inr (by omega)
theorem mulC_l {i j : Int} (hi : i.natAbs < 2 ^ 64) : mulC i j = true := by
  unfold mulC
  simp only [Bool.or_eq_true, decide_eq_true_eq]
  exact .inl (.inl hi)
theorem mulC_r {i j : Int} (hj : j.natAbs < 2 ^ 64) : mulC i j = true := by
  unfold mulC
  simp only [Bool.or_eq_true, decide_eq_true_eq]
  exact .inl (.inr hj)
theorem big_of {n k m : Nat} (h : n < 2 ^ k) (hk : k ≤ m) : n < 2 ^ m := Nat.lt_of_lt_of_le h (Nat.pow_le_pow_right (by decide) hk)
theorem ten60 {n : Nat} (h : n < 10 ^ 60) : n < 2 ^ 200 := Nat.lt_trans h (by decide)
theorem getD_mem {ns : List Int} {k : Nat} (h : k < ns.length) : ns.getD k 0 ∈ ns := by
  rw [List.getD_eq_getElem?_getD, List.getElem?_eq_getElem h]; exact List.getElem_mem h
/-- the products at the same places, up to a place -/
def dotN (a b : List Int) : Nat → Int
  | 0 => 0
  | n + 1 => dotN a b n + a.getD n 0 * b.getD n 0
theorem dotN_comm (a b : List Int) : ∀ n, dotN a b n = dotN b a n
  | 0 => rfl
  | n + 1 => by unfold dotN; rw [dotN_comm a b n, Int.mul_comm]
theorem dotN_add (w a b : List Int) : ∀ n, n ≤ a.length → dotN w (zipL (· + ·) a b) n = dotN w a n + dotN w b n
  | 0, _ => rfl
  | n + 1, h => by
    unfold dotN
    rw [dotN_add w a b n (by omega), zipL_get (by omega), Int.mul_add]
    omega
theorem dotN_zero (w : List Int) (s : Nat) : ∀ n, dotN w ((List.range s).map fun _ => 0) n = 0
  | 0 => rfl
  | n + 1 => by
    unfold dotN
    rw [dotN_zero w s n]
    have : ((List.range s).map fun _ => (0 : Int)).getD n 0 = 0 := by
      rw [List.getD_eq_getElem?_getD, List.getElem?_map]
      cases (List.range s)[n]? <;> rfl
    rw [this]; omega
end Bd

set_option Elab.async false
set_option linter.all false
set_option maxRecDepth 100000
set_option maxHeartbeats 1000000
namespace Bd
open PySem PySem.Spec PyProof.Rows L2
/-- a loop that may stop with an answer -/
theorem forM_find {g : D → En → R En} {b : En → Out} {r : D} (I : Nat → En → Prop) (P : Nat → Prop) : ∀ {xs : List D} {n : Nat} {E : En}, I n E → (∀ k d E, xs[k]? = some d → I (n + k) E → ∃ E1, g d E = .ok E1 ∧ ((P (n + k) ∧ ∃ E2, (b E1 = .nx E2 ∨ b E1 = .ct E2) ∧ I (n + k + 1) E2) ∨ (¬ P (n + k) ∧ b E1 = .rt r))) → ((∃ E', forM g b xs E = .nx E' ∧ I (n + xs.length) E') ∧ ∀ k, k < xs.length → P (n + k)) ∨ (forM g b xs E = .rt r ∧ ¬ ∀ k, k < xs.length → P (n + k))
  | [], n, E, h, _ => .inl ⟨⟨E, rfl, h⟩, fun k hk => absurd hk (Nat.not_lt_zero k)⟩
  | x :: xs, n, E, h, k => by
    obtain ⟨E1, h1, h2⟩ := k 0 x E rfl h
    rcases h2 with ⟨p, E2, h2, h3⟩ | ⟨p, h2⟩
    · have ih := forM_find (g := g) (b := b) (r := r) I P (xs := xs) (n := n + 1) h3 fun j d E hd hi => by
        have := k (j + 1) d E (by simpa using hd) (by rw [show n + (j + 1) = n + 1 + j by omega]; exact hi)
        rw [show n + (j + 1) + 1 = n + 1 + j + 1 by omega, show n + (j + 1) = n + 1 + j by omega] at this
        exact this
      have ef : forM g b (x :: xs) E = forM g b xs E2 := by
        rw [forM_cons, h1]; dsimp only
        rcases h2 with h2 | h2 <;> rw [h2]
      rw [ef, List.length_cons, show n + (xs.length + 1) = n + 1 + xs.length by omega]
      rcases ih with ⟨i1, i2⟩ | ⟨i1, i2⟩
      · refine .inl ⟨i1, fun j hj => ?_⟩
        cases j with
        | zero => exact p
        | succ j => rw [show n + (j + 1) = n + 1 + j by omega]; exact i2 j (by omega)
      · refine .inr ⟨i1, fun i3 => i2 fun j hj => ?_⟩
        have := i3 (j + 1) (by omega)
        rw [show n + (j + 1) = n + 1 + j by omega] at this
        exact this
    · refine .inr ⟨?_, fun i3 => p (i3 0 (by rw [List.length_cons]; omega))⟩
      rw [forM_cons, h1]; dsimp only; rw [h2]
theorem dIdx_pos {ns : List Int} {i : Int} (h0 : 0 ≤ i) (h : i < (ns.length : Int)) : dIdx (iL ns) (.int i) = .ok (.int (ns.getD i.toNat 0)) := by
  have := dIdx_ints (ns := ns) (k := i.toNat) (by omega)
  rw [show ((i.toNat : Nat) : Int) = i by omega] at this
  exact this
@[simp] theorem dNe_bl {i j : Bool} : dNe (.bl i) (.bl j) = .ok (.bl (i != j)) := by
  unfold dNe; rw [if_pos ⟨rfl, rfl⟩]
  cases i <;> cases j <;> rfl
@[simp] theorem dEq_bl {i j : Bool} : dEq (.bl i) (.bl j) = .ok (.bl (i == j)) := by
  unfold dEq; rw [if_pos ⟨rfl, rfl⟩]
  cases i <;> cases j <;> rfl
/-- every number of the first list is no greater than that of the second -/
def under (a b : List Int) : Prop := ∀ k, k < a.length → a.getD k 0 ≤ b.getD k 0
instance (a b : List Int) : Decidable (under a b) := inferInstanceAs (Decidable (∀ k, k < a.length → _))
/-- a list of lists of numbers -/
theorem dIdx_bags {bs : List (List Int)} {k : Nat} (h : k < bs.length) : dIdx (.lst (bs.map iL)) (.int (k : Int)) = .ok (iL (bs.getD k [])) :=
  dIdx_nat (by rw [List.getElem?_map, List.getElem?_eq_getElem h, List.getD_eq_getElem?_getD, List.getElem?_eq_getElem h]; rfl)
end Bd
namespace Bd
open PySem PySem.Spec PyProof.Rows L2
/-- the cells from a place on -/
theorem cut_at (ns : List Int) (k : Nat) : dCutC (iL ns) (some (k : Int)) none = .ok (iL (ns.drop k)) := by
  show (if scL (iL ns) = true then dCut (iL ns) (some (k : Int)) none else _) = _
  rw [if_pos (show scL (iL ns) = true from ints_all ns)]
  show R.ok (D.lst _) = _
  rw [HT.sIx_nat, HT.sIx_none]
  congr 2
  rw [List.map_drop]
  have hl : (ns.map D.int).length = ns.length := List.length_map ..
  by_cases h : k ≤ (ns.map D.int).length
  · rw [Nat.min_eq_left h, List.take_of_length_le (by rw [List.length_drop]; omega)]
  · rw [Nat.min_eq_right (by omega), List.drop_of_length_le (Nat.le_refl _), List.drop_of_length_le (by omega), List.take_nil]
end Bd
namespace Bd
theorem sWh_nx {t : En → R Bool} {b : En → Out} {E E2 : En} (h1 : t E = .ok true) (h2 : b E = .nx E2 ∨ b E = .ct E2) : sWh t b E = sWh t b E2 := by
  rw [sWh_eq, h1]
  rcases h2 with h2 | h2 <;> (dsimp only; rw [h2])
theorem sWh_no {t : En → R Bool} {b : En → Out} {E : En} (h1 : t E = .ok false) : sWh t b E = .nx E := by
  rw [sWh_eq, h1]
theorem sWh_bk {t : En → R Bool} {b : En → Out} {E E2 : En} (h1 : t E = .ok true) (h2 : b E = .bk E2) : sWh t b E = .nx E2 := by
  rw [sWh_eq, h1]; dsimp only; rw [h2]
end Bd
namespace Bd
/-- a turn goes on, and what holds behind it -/
def Nx (P : En → Prop) : Out → Prop
  | .nx E => P E
  | .ct E => P E
  | _ => False
@[simp] theorem Nx_nx {P : En → Prop} {E : En} : Nx P (.nx E) = P E := rfl
@[simp] theorem Nx_ct {P : En → Prop} {E : En} : Nx P (.ct E) = P E := rfl
theorem Nx_of {P : En → Prop} {o : Out} (h : Nx P o) : ∃ E, (o = .nx E ∨ o = .ct E) ∧ P E := by
  cases o with
  | nx E => exact ⟨E, .inl rfl, h⟩
  | ct E => exact ⟨E, .inr rfl, h⟩
  | _ => exact h.elim
theorem forM_go {g : D → En → R En} {b : En → Out} (I : Nat → En → Prop) {xs : List D} {n : Nat} {E : En} (h : I n E) (k : ∀ k d E, xs[k]? = some d → I (n + k) E → ∃ E1, g d E = .ok E1 ∧ Nx (I (n + k + 1)) (b E1)) : ∃ E', forM g b xs E = .nx E' ∧ I (n + xs.length) E' :=
  forM_inv I h fun j d E hd hi => by
    obtain ⟨E1, h1, h2⟩ := k j d E hd hi
    obtain ⟨E2, h3, h4⟩ := Nx_of h2
    exact ⟨E1, E2, h1, h3, h4⟩
end Bd

set_option Elab.async false
set_option linter.all false
set_option maxRecDepth 100000
set_option maxHeartbeats 1000000
namespace Bd
open PySem PySem.Spec PyProof.Rows L2
/-! ### likeness of data -/
structure Eqd {α : Type} [DecidableEq α] (f : α → D) (k : Nat) : Prop where
  lay : ∀ x, (pD (f x)).canLay0 = true
  dep : ∀ x, (pD (f x)).depth ≤ k
  eq : ∀ x y, PyData.eqv (pD (f x)) (pD (f y)) = decide (x = y)
section
variable {α : Type} [DecidableEq α] {f : α → D} {k : Nat}
theorem eqd_int : Eqd D.int 0 := ⟨fun _ => rfl, fun _ => Nat.le_refl _, fun x y => by show (x == y) = _; rw [Bool.beq_eq_decide_eq]⟩
theorem Eqd.lays (e : Eqd f k) : ∀ xs : List α, PyData.canLayAll0 (pDs (xs.map f)) = true
  | [] => rfl
  | x :: xs => by
    show ((pD (f x)).canLay0 && PyData.canLayAll0 (pDs (xs.map f))) = true
    rw [e.lay, e.lays]; rfl
theorem Eqd.deps (e : Eqd f k) : ∀ xs : List α, PyData.depthAll (pDs (xs.map f)) ≤ k
  | [] => Nat.zero_le _
  | x :: xs => by
    show max (pD (f x)).depth (PyData.depthAll (pDs (xs.map f))) ≤ k
    have h1 := e.dep x
    have h2 := e.deps xs
    omega
theorem Eqd.eqs (e : Eqd f k) : ∀ xs ys : List α, PyData.eqvAll (pDs (xs.map f)) (pDs (ys.map f)) = decide (xs = ys)
  | [], [] => rfl
  | [], y :: ys => rfl
  | x :: xs, [] => rfl
  | x :: xs, y :: ys => by
    show (PyData.eqv (pD (f x)) (pD (f y)) && PyData.eqvAll (pDs (xs.map f)) (pDs (ys.map f))) = _
    rw [e.eq, e.eqs]
    simp [Bool.decide_and]
theorem eqd_lst (e : Eqd f k) : Eqd (fun xs : List α => D.lst (xs.map f)) (k + 1) := ⟨fun xs => e.lays xs, fun xs => Nat.succ_le_succ (e.deps xs), fun xs ys => e.eqs xs ys⟩
theorem eqd_tup (e : Eqd f k) : Eqd (fun xs : List α => D.tup (xs.map f)) (k + 1) := ⟨fun xs => e.lays xs, fun xs => Nat.succ_le_succ (e.deps xs), fun xs ys => e.eqs xs ys⟩
theorem Eqd.ok (e : Eqd f k) (hk : k ≤ 64) (x : α) : okD (f x) = true := by
  unfold okD SeqAt.shaped
  rw [e.lay, Bool.true_and, decide_eq_true_eq]
  exact Nat.le_trans (e.dep x) hk
theorem Eqd.dEq (e : Eqd f k) (hk : k ≤ 64) (x y : α) : dEq (f x) (f y) = .ok (.bl (decide (x = y))) := by
  unfold Bd.dEq
  rw [if_pos ⟨e.ok hk x, e.ok hk y⟩, e.eq]
theorem Eqd.dNe (e : Eqd f k) (hk : k ≤ 64) (x y : α) : dNe (f x) (f y) = .ok (.bl (!decide (x = y))) := by
  unfold Bd.dNe
  rw [if_pos ⟨e.ok hk x, e.ok hk y⟩, e.eq]
theorem Eqd.any (e : Eqd f k) (x : α) : ∀ ys : List α, ((pDs (ys.map f)).any fun z => PyData.eqv z (pD (f x))) = decide (x ∈ ys)
  | [] => by rfl
  | y :: ys => by
    show (PyData.eqv (pD (f y)) (pD (f x)) || (pDs (ys.map f)).any fun z => PyData.eqv z (pD (f x))) = _
    rw [e.eq, e.any x ys, ← Bool.decide_or]
    congr 1
    rw [List.mem_cons]
    exact propext ⟨fun h => h.imp Eq.symm id, fun h => h.imp Eq.symm id⟩
theorem Eqd.dIn (e : Eqd f k) (hk : k < 64) (x : α) (ys : List α) : dIn (f x) (.lst (ys.map f)) = .ok (.bl (decide (x ∈ ys))) := by
  unfold Bd.dIn
  dsimp only
  rw [if_pos ⟨e.ok (by omega) x, (eqd_lst e).ok hk ys⟩, e.any]
theorem Eqd.dNotIn (e : Eqd f k) (hk : k < 64) (x : α) (ys : List α) : dNotIn (f x) (.lst (ys.map f)) = .ok (.bl (!decide (x ∈ ys))) := by
  unfold Bd.dNotIn
  dsimp only
  rw [if_pos ⟨e.ok (by omega) x, (eqd_lst e).ok hk ys⟩, e.any]
end
theorem eqd_iL : Eqd iL 1 := eqd_lst eqd_int
theorem eqd_bags : Eqd (fun bs : List (List Int) => D.lst (bs.map iL)) 2 := eqd_lst eqd_iL
@[simp] theorem dEq_iL (a b : List Int) : dEq (iL a) (iL b) = .ok (.bl (decide (a = b))) := eqd_iL.dEq (by decide) a b
@[simp] theorem dNe_iL (a b : List Int) : dNe (iL a) (iL b) = .ok (.bl (!decide (a = b))) := eqd_iL.dNe (by decide) a b
@[simp] theorem dIn_iL (a : List Int) (bs : List (List Int)) : dIn (iL a) (.lst (bs.map iL)) = .ok (.bl (decide (a ∈ bs))) := by rw [eqd_iL.dIn (by decide) a bs]; congr
@[simp] theorem dNotIn_iL (a : List Int) (bs : List (List Int)) : dNotIn (iL a) (.lst (bs.map iL)) = .ok (.bl (!decide (a ∈ bs))) := by rw [eqd_iL.dNotIn (by decide) a bs]; congr
@[simp] theorem dEq_bags (a b : List (List Int)) : dEq (.lst (a.map iL)) (.lst (b.map iL)) = .ok (.bl (decide (a = b))) := eqd_bags.dEq (by decide) a b
@[simp] theorem dNe_bags (a b : List (List Int)) : dNe (.lst (a.map iL)) (.lst (b.map iL)) = .ok (.bl (!decide (a = b))) := eqd_bags.dNe (by decide) a b
theorem dDiv_big {i j : Int} (h : 0 < j) (h2 : j.natAbs < 2 ^ 8000) : dDiv (.int i) (.int j) = .ok (.int (i / j)) := by
  have hd : divC j = true := by
    unfold divC
    have := log2_lt h2 (by decide)
    simp only [Bool.or_eq_true, Bool.and_eq_true, decide_eq_true_eq]
    exact .inr ⟨h, by omega⟩
  show (if divC j = true then R.ok (D.int (i.fdiv j)) else _) = _
  rw [if_pos hd, Int.fdiv_eq_ediv_of_nonneg i (by omega)]
theorem dMod_ne {i j : Int} (h : j ≠ 0) : dMod (.int i) (.int j) = .ok (.int (i.fmod j)) := if_pos h
def sOk (x : Str) : Bool := PyData.canLay0 (.str x)
theorem okStr {x : Str} (h : sOk x = true) : okD (.str x) = true := by
  show (PyData.canLay0 (.str x) && decide (PyData.depth (.str x) ≤ 64)) = true
  have e1 : PyData.canLay0 (.str x) = true := h
  have e2 : PyData.depth (.str x) = 0 := by simp [PyData.depth]
  rw [e1, e2]; rfl
theorem dNe_str {x y : Str} (hx : sOk x = true) (hy : sOk y = true) : dNe (.str x) (.str y) = .ok (.bl (!(x == y))) := if_pos ⟨okStr hx, okStr hy⟩
theorem dEq_str {x y : Str} (hx : sOk x = true) (hy : sOk y = true) : dEq (.str x) (.str y) = .ok (.bl (x == y)) := if_pos ⟨okStr hx, okStr hy⟩
theorem dNe_strC {x y : Str} {b : Bool} (h : (sOk x && sOk y && ((!(x == y)) == b)) = true) : dNe (.str x) (.str y) = .ok (.bl b) := by
  simp only [Bool.and_eq_true, beq_iff_eq] at h
  rw [dNe_str h.1.1 h.1.2, h.2]
theorem dEq_strC {x y : Str} {b : Bool} (h : (sOk x && sOk y && ((x == y) == b)) = true) : dEq (.str x) (.str y) = .ok (.bl b) := by
  simp only [Bool.and_eq_true, beq_iff_eq] at h
  rw [dEq_str h.1.1 h.1.2, h.2]
end Bd

set_option Elab.async false
set_option linter.all false
set_option maxRecDepth 100000
set_option maxHeartbeats 1000000
namespace Bd
open PySem PySem.Spec PyProof.Rows L2
@[simp] theorem dInt_int {i : Int} : dInt (.int i) = .ok (.int i) := rfl
@[simp] theorem dInt_bl {k : Bool} : dInt (.bl k) = .ok (.int (if k then 1 else 0)) := rfl
/-- numbers, or nothing -/
def oD : Option Int → D
  | none => .non
  | some i => .int i
@[simp] theorem oD_none : oD none = .non := rfl
@[simp] theorem oD_some {i : Int} : oD (some i) = .int i := rfl
def mL (m : List (Option Int)) : D := .lst (m.map oD)
theorem eqd_oD : Eqd oD 0 := ⟨fun x => by cases x <;> rfl, fun x => by cases x <;> exact Nat.le_refl _, fun x y => by
  cases x with
  | none => cases y <;> rfl
  | some i =>
    cases y with
    | none => rfl
    | some j =>
      show (i == j) = _
      rw [Bool.beq_eq_decide_eq]
      simp⟩
theorem eqd_mL : Eqd mL 1 := eqd_lst eqd_oD
theorem eqd_mLs : Eqd (fun ms : List (List (Option Int)) => D.lst (ms.map mL)) 2 := eqd_lst eqd_mL
@[simp] theorem dEq_mL (a b : List (Option Int)) : dEq (mL a) (mL b) = .ok (.bl (decide (a = b))) := eqd_mL.dEq (by decide) a b
@[simp] theorem dNe_mL (a b : List (Option Int)) : dNe (mL a) (mL b) = .ok (.bl (!decide (a = b))) := eqd_mL.dNe (by decide) a b
@[simp] theorem dNe_mLs (a b : List (List (Option Int))) : dNe (.lst (a.map mL)) (.lst (b.map mL)) = .ok (.bl (!decide (a = b))) := eqd_mLs.dNe (by decide) a b
@[simp] theorem dEq_mLs (a b : List (List (Option Int))) : dEq (.lst (a.map mL)) (.lst (b.map mL)) = .ok (.bl (decide (a = b))) := eqd_mLs.dEq (by decide) a b
@[simp] theorem dIn_mL (a : List (Option Int)) (bs : List (List (Option Int))) : dIn (mL a) (.lst (bs.map mL)) = .ok (.bl (decide (a ∈ bs))) := by rw [eqd_mL.dIn (by decide) a bs]; congr
@[simp] theorem dLen_mL {m : List (Option Int)} : dLen (mL m) = .ok (.int m.length) := by show R.ok (D.int ((m.map oD).length)) = _; rw [List.length_map]
@[simp] theorem isi_mL {m : List (Option Int)} : dIsi (mL m) (.ty "list") = .ok (.bl true) := isi_lst
@[simp] theorem dList_mL {m : List (Option Int)} : dList (mL m) = .ok (mL m) := rfl
@[simp] theorem dItems_mL {m : List (Option Int)} : dItems (mL m) = .ok (m.map oD) := rfl
@[simp] theorem lAt_mL {m : List (Option Int)} {E : En} : lAt 0 (some (mL m) :: E) = .ok (m.map oD) := rfl
theorem mL_app {m : List (Option Int)} {x : Option Int} : D.lst (m.map oD ++ [oD x]) = mL (m ++ [x]) := by unfold mL; rw [List.map_append]; rfl
@[simp] theorem mL_appS {m : List (Option Int)} {i : Int} : D.lst (m.map oD ++ [.int i]) = mL (m ++ [some i]) := mL_app (x := some i)
@[simp] theorem mL_appN {m : List (Option Int)} : D.lst (m.map oD ++ [.non]) = mL (m ++ [none]) := mL_app (x := none)
theorem dIdx_mL {m : List (Option Int)} {k : Nat} (h : k < m.length) : dIdx (mL m) (.int (k : Int)) = .ok (oD (m.getD k none)) :=
  dIdx_nat (by rw [List.getElem?_map, List.getElem?_eq_getElem h, List.getD_eq_getElem?_getD, List.getElem?_eq_getElem h]; rfl)
/-- a slice of numbers -/
theorem cut_lohi (ns : List Int) (a b : Nat) : dCut (iL ns) (some (a : Int)) (some (b : Int)) = .ok (iL ((ns.drop (min a ns.length)).take (min b ns.length - min a ns.length))) := by
  show R.ok (D.lst _) = _
  rw [HT.sIx_nat, HT.sIx_nat, List.length_map]
  congr 2
  rw [List.map_take, List.map_drop]
theorem cut_lo (ns : List Int) (k : Nat) : dCut (iL ns) (some (k : Int)) none = .ok (iL (ns.drop k)) := by
  have := cut_at ns k
  unfold dCutC at this
  rwa [if_pos (show scL (iL ns) = true from ints_all ns)] at this
/-- what a comprehension tells -/
theorem comp_ex {i : Nat} {m : En → R D} {E : En} {P : D → Prop} : ∀ {xs : List D}, (∀ d ∈ xs, ∃ y, m (E.set i (some d)) = .ok y ∧ P y) → ∃ ys, mapO (cTurn i tY m E) xs = .ok ys ∧ ys.length = xs.length ∧ ∀ y ∈ ys, P y
  | [], _ => ⟨[], rfl, rfl, fun y h => nomatch h⟩
  | x :: xs, h => by
    obtain ⟨y, hy, py⟩ := h x List.mem_cons_self
    obtain ⟨ys, h1, h2, h3⟩ := comp_ex (xs := xs) fun d hd => h d (List.mem_cons_of_mem _ hd)
    refine ⟨y :: ys, ?_, by rw [List.length_cons, List.length_cons, h2], fun z hz => ?_⟩
    · show (match cTurn i tY m E x with | .ok none => mapO (cTurn i tY m E) xs | .ok (some y) => (match mapO (cTurn i tY m E) xs with | .ok ys => R.ok (y :: ys) | _ => .bad) | _ => .bad) = _
      rw [cTurn_Y hy, h1]
    · rcases List.mem_cons.mp hz with rfl | hz
      · exact py
      · exact h3 z hz
theorem mem_rngK {i k : Int} {n : Nat} {d : D} (h : d ∈ rngK i k n) : ∃ m : Nat, m < n ∧ d = .int (i + (m : Int) * k) := by
  unfold rngK at h
  obtain ⟨m, hm, e⟩ := List.mem_map.mp h
  exact ⟨m, List.mem_range.mp hm, e.symm⟩
theorem list_all {α : Type} {f : α → D} {P : α → Prop} : ∀ {ys : List D}, (∀ y ∈ ys, ∃ p, y = f p ∧ P p) → ∃ ps : List α, ys = ps.map f ∧ ∀ p ∈ ps, P p
  | [], _ => ⟨[], rfl, fun p h => nomatch h⟩
  | y :: ys, h => by
    obtain ⟨p, rfl, hp⟩ := h y List.mem_cons_self
    obtain ⟨ps, rfl, hps⟩ := list_all (ys := ys) fun z hz => h z (List.mem_cons_of_mem _ hz)
    exact ⟨p :: ps, rfl, fun z hz => by
      rcases List.mem_cons.mp hz with rfl | hz
      · exact hp
      · exact hps z hz⟩
theorem ext_getDd {α : Type} {a b : List α} (x : α) (hl : a.length = b.length) (h : ∀ k, k < a.length → a.getD k x = b.getD k x) : a = b := by
  apply List.ext_getElem hl
  intro i h1 h2
  have := h i h1
  rw [List.getD_eq_getElem?_getD, List.getD_eq_getElem?_getD, List.getElem?_eq_getElem h1, List.getElem?_eq_getElem h2] at this
  exact this
end Bd

set_option Elab.async false
set_option linter.all false
set_option maxRecDepth 100000
set_option maxHeartbeats 4000000
namespace Bd
open PySem PySem.Spec PyProof.Rows L2
noncomputable section
def topS (i : Nat) : Stmt := PySem.Challenge.pw_beadhall_k52_raised.main.body.getD i (.Pass ⟨0, 0, 0, 0⟩)
abbrev s_under : Stmt := topS 1
theorem sc_under : FnScope ["low", "high", "k"] ["low", "high"] (defScope s_under) := ⟨rfl, rfl, rfl, by decide +kernel, rfl, by decide +kernel, by decide +kernel⟩
def l_under_1 : En → Out := (sIf (tE (e2 dIsN (e2 dIdx (eV 1) (eV 2)) (eC .non))) (sIf (tOrM (tE (e2 dIs (e2 dIdx (eV 0) (eV 2)) (eC .non))) (tE (e2 dGt (e2 dIdx (eV 0) (eV 2)) (e2 dIdx (eV 1) (eV 2))))) (sRet (eC (.bl false))) sPass) sPass)
def b_under : En → Out := (sSeq (sFor (gN 2) (iA dRng1 (aC (e1 dLen (eV 0)) aN)) l_under_1)
  (sRet (eC (.bl true))))
def m_under : List D → R D := fnM 2 3 false b_under
theorem ok_under {P : Program} {w : World} {K : PySem.W.Frag} {mg : Str → Option Value} {base : Heap} {f : Addr} {fd : FuncData} (d : Dat K mg "under" s_under ["low", "high"] f fd) (n_len : mg "len" = none) (n_range : mg "range" = none) :
    Cal P w K mg base 1 "under" 2 m_under .sc := d.cal (k := 0) sc_under b_under false .sc [] (fun h => nomatch h) fun cdv A outer s H E Hb hr => by
  have tk0 := takes_of (X := cxOf (L2.CX P w) P w K mg base ["low", "high", "k"] "under" (defScope s_under) f cdv A outer s H E) rfl rfl rfl rfl
  exact (sss_cons (ss_for (Γ3 := [some .s, some .s, some .sc]) [some .s, some .s, none] (passes_of rfl) rfl (si_range1 (by rfl) n_range (sa_cons (se_len (by rfl) n_len (se_varS 0)) sa_nil)) (sg_name 2 sc_under.nd)
  (sss_one (ss_if (Γ2 := [some .s, some .s, some .sc]) (st_cmp ob_isN (se_ix (se_varS 1) (se_varC 2)) se_non) (sss_one (ss_if (Γ2 := [some .s, some .s, some .sc]) (SW.t (sw_or (st_cmp ob_is (se_ix (se_varS 0) (se_varC 2)) se_non) (sw_or1 (st_cmp ob_gt (se_ix (se_varS 0) (se_varC 2)) (se_ix (se_varS 1) (se_varC 2)))))) (sss_one (ss_ret se_bl)) sss_nil)) sss_nil)))
  (sss_one (ss_ret se_bl)))
abbrev s_raised : Stmt := topS 2
theorem sc_raised : FnScope ["low", "mark", "made", "k"] ["low", "mark"] (defScope s_raised) := ⟨rfl, rfl, rfl, by decide +kernel, rfl, by decide +kernel, by decide +kernel⟩
def l_raised_1 : En → Out := (sIf (tAndM (tE (e2 dIsN (e2 dIdx (eV 1) (eV 3)) (eC .non))) (tE (e2 dLt (e2 dIdx (eV 0) (eV 3)) (e2 dIdx (eV 1) (eV 3))))) (sApp 2 (eC .non)) (sApp 2 (e2 dIdx (eV 1) (eV 3))))
def b_raised : En → Out := (sSeq (sIf (tNotM (tE (eF m_under (aC (eV 0) (aC (eV 1) aN))))) (sRet (eC .non)) sPass)
  (sSeq (sAsg 2 (eL aN))
  (sSeq (sFor (gN 3) (iA dRng1 (aC (e1 dLen (eV 1)) aN)) l_raised_1)
  (sSeq (sIf (tE (e2 dEq (eV 2) (eV 1))) (sRet (eC .non)) sPass)
  (sRet (eV 2))))))
def m_raised : List D → R D := fnM 2 4 false b_raised
theorem ok_raised {P : Program} {w : World} {K : PySem.W.Frag} {mg : Str → Option Value} {base : Heap} {f : Addr} {fd : FuncData} (d : Dat K mg "raised" s_raised ["low", "mark"] f fd) (n_len : mg "len" = none) (n_range : mg "range" = none) (c_under : Cal P w K mg base 1 "under" 2 m_under .sc) :
    Cal P w K mg base 2 "raised" 2 m_raised .s := d.cal (k := 1) sc_raised b_raised false .s [] (fun h => nomatch h) fun cdv A outer s H E Hb hr => by
  have tk0 := takes_of (X := cxOf (L2.CX P w) P w K mg base ["low", "mark", "made", "k"] "raised" (defScope s_raised) f cdv A outer s H E) rfl rfl rfl rfl
  exact (sss_cons (ss_if (Γ2 := [some .s, some .s, none, none]) (st_not (st_val (se_cC c_under hr (by decide) (by rfl) tk0 (sa_cons (se_varS 0) (sa_cons (se_varS 1) sa_nil))))) (sss_one (ss_ret (se_non).sh)) sss_nil)
  (sss_cons (ss_asg 2 (se_lst .s sa_nil) sc_raised.nd)
  (sss_cons (ss_for (Γ3 := [some .s, some .s, some (.l .s), some .sc]) [some .s, some .s, some (.l .s), none] (passes_of rfl) rfl (si_range1 (by rfl) n_range (sa_cons (se_len (by rfl) n_len (se_varS 1)) sa_nil)) (sg_name 3 sc_raised.nd)
  (sss_one (ss_if (Γ2 := [some .s, some .s, some (.l .s), some .sc]) (SW.t (sw_and (st_cmp ob_isN (se_ix (se_varS 1) (se_varC 3)) se_non) (sw_and1 (st_cmp ob_lt (se_ix (se_varS 0) (se_varC 3)) (se_ix (se_varS 1) (se_varC 3)))))) (sss_one (ss_app 2 (se_non).sh)) (sss_one (ss_app 2 (se_ix (se_varS 1) (se_varC 3)))))))
  (sss_cons (ss_if (Γ2 := [some .s, some .s, some (.l .s), none]) (st_cmp (ob_eq hr.units) (se_var 2) (se_varS 1)) (sss_one (ss_ret (se_non).sh)) sss_nil)
  (sss_one (ss_ret ((se_varM 2)).sh))))))
abbrev s_law_cell : Stmt := topS 4
theorem sc_law_cell : FnScope ["script", "k"] ["script", "k"] (defScope s_law_cell) := ⟨rfl, rfl, rfl, by decide +kernel, rfl, by decide +kernel, by decide +kernel⟩
def b_law_cell : En → Out := (sSeq (sIf (tE (e2 dEq (e1 dLen (eV 0)) (eC (.int 0)))) (sRet (eC (.int 0))) sPass)
  (sRet (e1 asSc (e2 dIdx (eV 0) (e2 dMod (eV 1) (e1 dLen (eV 0)))))))
def m_law_cell : List D → R D := fnM 2 2 false b_law_cell
theorem ok_law_cell {P : Program} {w : World} {K : PySem.W.Frag} {mg : Str → Option Value} {base : Heap} {f : Addr} {fd : FuncData} (d : Dat K mg "_law_cell" s_law_cell ["script", "k"] f fd) (n_len : mg "len" = none) :
    Cal P w K mg base 1 "_law_cell" 2 m_law_cell .sc := d.cal (k := 0) sc_law_cell b_law_cell false .sc [] (fun h => nomatch h) fun cdv A outer s H E Hb hr => by
  have tk0 := takes_of (X := cxOf (L2.CX P w) P w K mg base ["script", "k"] "_law_cell" (defScope s_law_cell) f cdv A outer s H E) rfl rfl rfl rfl
  exact (sss_cons (ss_if (Γ2 := [some .s, some .s]) (st_cmp (ob_eq hr.units) (se_len (by rfl) n_len (se_varS 0)) se_int) (sss_one (ss_ret se_int)) sss_nil)
  (sss_one (ss_ret ((se_ix (se_varS 0) (se_bin ob_mod (se_varS 1) (se_len (by rfl) n_len (se_varS 0))))).asc)))
abbrev s_law_whole : Stmt := topS 5
theorem sc_law_whole : FnScope ["found"] ["found"] (defScope s_law_whole) := ⟨rfl, rfl, rfl, by decide +kernel, rfl, by decide +kernel, by decide +kernel⟩
def b_law_whole : En → Out := (sRet (eAnd (e2 dIsi (eV 0) (eC (.ty "int"))) (e1 dNot (e2 dIsi (eV 0) (eC (.ty "bool"))))))
def m_law_whole : List D → R D := fnM 1 1 false b_law_whole
theorem ok_law_whole {P : Program} {w : World} {K : PySem.W.Frag} {mg : Str → Option Value} {base : Heap} {f : Addr} {fd : FuncData} (d : Dat K mg "_law_whole" s_law_whole ["found"] f fd) (n_bool : mg "bool" = none) (n_int : mg "int" = none) (n_isinstance : mg "isinstance" = none) :
    Cal P w K mg base 1 "_law_whole" 1 m_law_whole .sc := d.cal (k := 0) sc_law_whole b_law_whole false .sc [] (fun h => nomatch h) fun cdv A outer s H E Hb hr => by
  have tk0 := takes_of (X := cxOf (L2.CX P w) P w K mg base ["found"] "_law_whole" (defScope s_law_whole) f cdv A outer s H E) rfl rfl rfl rfl
  exact (sss_one (ss_ret (se_and (se_isi (by rfl) n_isinstance (se_varS 0) (se_ty (by rfl) n_int (by decide +kernel))) (se_one (se_not (se_isi (by rfl) n_isinstance (se_varS 0) (se_ty (by rfl) n_bool (by decide +kernel))))))))
abbrev s_law_under : Stmt := topS 6
theorem sc_law_under : FnScope ["low", "high", "k"] ["low", "high"] (defScope s_law_under) := ⟨rfl, rfl, rfl, by decide +kernel, rfl, by decide +kernel, by decide +kernel⟩
def l_law_under_1 : En → Out := (sIf (tAndM (tE (e2 dIsN (e2 dIdx (eV 1) (eV 2)) (eC .non))) (tOrM (tE (e2 dIs (e2 dIdx (eV 0) (eV 2)) (eC .non))) (tE (e2 dGt (e2 dIdx (eV 0) (eV 2)) (e2 dIdx (eV 1) (eV 2)))))) (sRet (eC (.bl false))) sPass)
def b_law_under : En → Out := (sSeq (sFor (gN 2) (iA dRng1 (aC (e1 dLen (eV 1)) aN)) l_law_under_1)
  (sRet (eC (.bl true))))
def m_law_under : List D → R D := fnM 2 3 false b_law_under
theorem ok_law_under {P : Program} {w : World} {K : PySem.W.Frag} {mg : Str → Option Value} {base : Heap} {f : Addr} {fd : FuncData} (d : Dat K mg "_law_under" s_law_under ["low", "high"] f fd) (n_len : mg "len" = none) (n_range : mg "range" = none) :
    Cal P w K mg base 1 "_law_under" 2 m_law_under .sc := d.cal (k := 0) sc_law_under b_law_under false .sc [] (fun h => nomatch h) fun cdv A outer s H E Hb hr => by
  have tk0 := takes_of (X := cxOf (L2.CX P w) P w K mg base ["low", "high", "k"] "_law_under" (defScope s_law_under) f cdv A outer s H E) rfl rfl rfl rfl
  exact (sss_cons (ss_for (Γ3 := [some .s, some .s, some .sc]) [some .s, some .s, none] (passes_of rfl) rfl (si_range1 (by rfl) n_range (sa_cons (se_len (by rfl) n_len (se_varS 1)) sa_nil)) (sg_name 2 sc_law_under.nd)
  (sss_one (ss_if (Γ2 := [some .s, some .s, some .sc]) (SW.t (sw_and (st_cmp ob_isN (se_ix (se_varS 1) (se_varC 2)) se_non) (sw_and1 (SW.t (sw_or (st_cmp ob_is (se_ix (se_varS 0) (se_varC 2)) se_non) (sw_or1 (st_cmp ob_gt (se_ix (se_varS 0) (se_varC 2)) (se_ix (se_varS 1) (se_varC 2))))))))) (sss_one (ss_ret se_bl)) sss_nil)))
  (sss_one (ss_ret se_bl)))
abbrev s_law_mark_like : Stmt := topS 7
theorem sc_law_mark_like : FnScope ["found", "due", "k"] ["found", "due"] (defScope s_law_mark_like) := ⟨rfl, rfl, rfl, by decide +kernel, rfl, by decide +kernel, by decide +kernel⟩
def l_law_mark_like_1 : En → Out := (sIf (tE (e2 dIs (e2 dIdx (eV 1) (eV 2)) (eC .non))) (sIf (tE (e2 dIsN (e2 dIdx (eV 0) (eV 2)) (eC .non))) (sRet (eC (.bl false))) sPass) (sIf (tOrM (tNotM (tE (eF m_law_whole (aC (e2 dIdx (eV 0) (eV 2)) aN)))) (tE (e2 dNe (e2 dIdx (eV 0) (eV 2)) (e2 dIdx (eV 1) (eV 2))))) (sRet (eC (.bl false))) sPass))
def b_law_mark_like : En → Out := (sSeq (sIf (tOrM (tNotM (tE (e2 dIsi (eV 0) (eC (.ty "list"))))) (tE (e2 dNe (e1 dLen (eV 0)) (e1 dLen (eV 1))))) (sRet (eC (.bl false))) sPass)
  (sSeq (sFor (gN 2) (iA dRng1 (aC (e1 dLen (eV 1)) aN)) l_law_mark_like_1)
  (sRet (eC (.bl true)))))
def m_law_mark_like : List D → R D := fnM 2 3 false b_law_mark_like
theorem ok_law_mark_like {P : Program} {w : World} {K : PySem.W.Frag} {mg : Str → Option Value} {base : Heap} {f : Addr} {fd : FuncData} (d : Dat K mg "_law_mark_like" s_law_mark_like ["found", "due"] f fd) (n_isinstance : mg "isinstance" = none) (n_len : mg "len" = none) (n_list : mg "list" = none) (n_range : mg "range" = none) (c_law_whole : Cal P w K mg base 1 "_law_whole" 1 m_law_whole .sc) :
    Cal P w K mg base 2 "_law_mark_like" 2 m_law_mark_like .sc := d.cal (k := 1) sc_law_mark_like b_law_mark_like false .sc [] (fun h => nomatch h) fun cdv A outer s H E Hb hr => by
  have tk0 := takes_of (X := cxOf (L2.CX P w) P w K mg base ["found", "due", "k"] "_law_mark_like" (defScope s_law_mark_like) f cdv A outer s H E) rfl rfl rfl rfl
  exact (sss_cons (ss_if (Γ2 := [some .s, some .s, none]) (SW.t (sw_or (st_not (st_val (se_isi (by rfl) n_isinstance (se_varS 0) (se_ty (by rfl) n_list (by decide +kernel))))) (sw_or1 (st_cmp (ob_ne hr.units) (se_len (by rfl) n_len (se_varS 0)) (se_len (by rfl) n_len (se_varS 1)))))) (sss_one (ss_ret se_bl)) sss_nil)
  (sss_cons (ss_for (Γ3 := [some .s, some .s, some .sc]) [some .s, some .s, none] (passes_of rfl) rfl (si_range1 (by rfl) n_range (sa_cons (se_len (by rfl) n_len (se_varS 1)) sa_nil)) (sg_name 2 sc_law_mark_like.nd)
  (sss_one (ss_if (Γ2 := [some .s, some .s, some .sc]) (st_cmp ob_is (se_ix (se_varS 1) (se_varC 2)) se_non) (sss_one (ss_if (Γ2 := [some .s, some .s, some .sc]) (st_cmp ob_isN (se_ix (se_varS 0) (se_varC 2)) se_non) (sss_one (ss_ret se_bl)) sss_nil)) (sss_one (ss_if (Γ2 := [some .s, some .s, some .sc]) (SW.t (sw_or (st_not (st_val (se_cC c_law_whole hr (by decide) (by rfl) tk0 (sa_cons (se_ix (se_varS 0) (se_varC 2)) sa_nil)))) (sw_or1 (st_cmp (ob_ne hr.units) (se_ix (se_varS 0) (se_varC 2)) (se_ix (se_varS 1) (se_varC 2)))))) (sss_one (ss_ret se_bl)) sss_nil)))))
  (sss_one (ss_ret se_bl))))
abbrev s_law_pair : Stmt := topS 8
theorem sc_law_pair : FnScope ["cells", "bad", "low", "high", "k", "way", "number"] ["cells"] (defScope s_law_pair) := ⟨rfl, rfl, rfl, by decide +kernel, rfl, by decide +kernel, by decide +kernel⟩
def l_law_pair_1 : En → Out := (sSeq (sAsg 5 (e2 dMod (e2 dIdx (eV 0) (eV 4)) (eC (.int 7))))
  (sSeq (sAsg 6 (e2 dMod (e2 dDiv (e2 dIdx (eV 0) (eV 4)) (eC (.int 7))) (e2 dPow (eC (.int 10)) (eC (.int 60)))))
  (sSeq (sIf (tAndM (tE (e2 dGt (eV 5) (eC (.int 4)))) (tE (e2 dNe (eV 4) (eV 1)))) (sAsg 5 (e2 dSub (eV 5) (eC (.int 5)))) sPass)
  (sSeq (sIf (tOrM (tE (e2 dEq (eV 5) (eC (.int 3)))) (tE (e2 dEq (eV 5) (eC (.int 6))))) (sApp 2 (eC .non)) (sApp 2 (e2 dAdd (eV 6) (e1 dInt (e2 dEq (eV 5) (eC (.int 5)))))))
  (sIf (tOrM (tE (e2 dEq (eV 5) (eC (.int 2)))) (tE (e2 dEq (eV 5) (eC (.int 3))))) (sApp 3 (eC .non)) (sApp 3 (e2 dAdd (eV 6) (e2 dIdx (eL (aC (eC (.int 0)) (aC (eC (.int 1)) (aC (eC (.int 0)) (aC (eC (.int 0)) (aC (e2 dPow (eC (.int 10)) (eC (.int 9))) (aC (eC (.int 0)) (aC (eC (.int 0)) aN)))))))) (eV 5)))))))))
def b_law_pair : En → Out := (sSeq (sAsg 1 (e2 dMod (e2 dDiv (e2 dMod (e2 dIdx (eV 0) (eC (.int 0))) (eC (.int 1009))) (eC (.int 7))) (e2 dMul (eC (.int 2)) (e1 dLen (eV 0)))))
  (sSeq (sAsg 2 (eL aN))
  (sSeq (sAsg 3 (eL aN))
  (sSeq (sFor (gN 4) (iA dRng1 (aC (e1 dLen (eV 0)) aN)) l_law_pair_1)
  (sRet (eT (aC (eV 2) (aC (eV 3) aN))))))))
def m_law_pair : List D → R D := fnM 1 7 false b_law_pair
theorem ok_law_pair {P : Program} {w : World} {K : PySem.W.Frag} {mg : Str → Option Value} {base : Heap} {f : Addr} {fd : FuncData} (d : Dat K mg "_law_pair" s_law_pair ["cells"] f fd) (n_int : mg "int" = none) (n_len : mg "len" = none) (n_range : mg "range" = none) :
    Cal P w K mg base 1 "_law_pair" 1 m_law_pair .s := d.cal (k := 0) sc_law_pair b_law_pair false .s [] (fun h => nomatch h) fun cdv A outer s H E Hb hr => by
  have tk0 := takes_of (X := cxOf (L2.CX P w) P w K mg base ["cells", "bad", "low", "high", "k", "way", "number"] "_law_pair" (defScope s_law_pair) f cdv A outer s H E) rfl rfl rfl rfl
  exact (sss_cons (ss_asg 1 (se_bin ob_mod (se_bin ob_div (se_bin ob_mod (se_ix (se_varS 0) se_int) se_int) se_int) (se_bin ob_mul se_int (se_len (by rfl) n_len (se_varS 0)))) sc_law_pair.nd)
  (sss_cons (ss_asg 2 (se_lst .sc sa_nil) sc_law_pair.nd)
  (sss_cons (ss_asg 3 (se_lst .sc sa_nil) sc_law_pair.nd)
  (sss_cons (ss_for (Γ3 := [some .s, some .sc, some (.l .sc), some (.l .sc), some .sc, some .sc, some .sc]) [some .s, some .sc, some (.l .sc), some (.l .sc), none, none, none] (passes_of rfl) rfl (si_range1 (by rfl) n_range (sa_cons (se_len (by rfl) n_len (se_varS 0)) sa_nil)) (sg_name 4 sc_law_pair.nd)
  (sss_cons (ss_asg 5 (se_bin ob_mod (se_ix (se_varS 0) (se_varC 4)) se_int) sc_law_pair.nd)
  (sss_cons (ss_asg 6 (se_bin ob_mod (se_bin ob_div (se_ix (se_varS 0) (se_varC 4)) se_int) (se_bin ob_pow se_int se_int)) sc_law_pair.nd)
  (sss_cons (ss_if (Γ2 := [some .s, some .sc, some (.l .sc), some (.l .sc), some .sc, some .sc, some .sc]) (SW.t (sw_and (st_cmp ob_gt (se_varC 5) se_int) (sw_and1 (st_cmp (ob_ne hr.units) (se_varC 4) (se_varC 1))))) (sss_one (ss_asg 5 (se_bin ob_sub (se_varC 5) se_int) sc_law_pair.nd)) sss_nil)
  (sss_cons (ss_if (Γ2 := [some .s, some .sc, some (.l .sc), some (.l .sc), some .sc, some .sc, some .sc]) (SW.t (sw_or (st_cmp (ob_eq hr.units) (se_varC 5) se_int) (sw_or1 (st_cmp (ob_eq hr.units) (se_varC 5) se_int)))) (sss_one (ss_app 2 se_non)) (sss_one (ss_app 2 (se_bin ob_add (se_varC 6) (se_intOf (by rfl) n_int (se_cmp (ob_eq hr.units) (se_varC 5) se_int))))))
  (sss_one (ss_if (Γ2 := [some .s, some .sc, some (.l .sc), some (.l .sc), some .sc, some .sc, some .sc]) (SW.t (sw_or (st_cmp (ob_eq hr.units) (se_varC 5) se_int) (sw_or1 (st_cmp (ob_eq hr.units) (se_varC 5) se_int)))) (sss_one (ss_app 3 se_non)) (sss_one (ss_app 3 (se_bin ob_add (se_varC 6) (se_ix (se_lst .sc (sa_cons se_int (sa_cons se_int (sa_cons se_int (sa_cons se_int (sa_cons (se_bin ob_pow se_int se_int) (sa_cons se_int (sa_cons se_int sa_nil)))))))) (se_varC 5))))))))))))
  (sss_one (ss_ret (se_tup (sa_cons (se_varG 2) (sa_cons (se_varG 3) sa_nil)))))))))
abbrev s_law_pairs : Stmt := topS 9
theorem sc_law_pairs : FnScope ["script", "width", "cells", "k"] ["script"] (defScope s_law_pairs) := ⟨rfl, rfl, rfl, by decide +kernel, rfl, by decide +kernel, by decide +kernel⟩
def l_law_pairs_1 : En → R Bool := (tOrM (tE (e2 dGt (e2 dMod (e1 dLen (eV 2)) (eV 1)) (eC (.int 0)))) (tE (e2 dEq (e1 dLen (eV 2)) (eC (.int 0)))))
def l_law_pairs_2 : En → Out := (sApp 2 (e2 dMul (eC (.int 7)) (e1 dLen (eV 2))))
def b_law_pairs : En → Out := (sSeq (sAsg 1 (e2 dAdd (eC (.int 1)) (e2 dMod (eF m_law_cell (aC (eV 0) (aC (eC (.int 0)) aN))) (eC (.int 6)))))
  (sSeq (sAsg 2 (e1 dList (eCut dCut (eV 0) (oS (eC (.int 1))) oN)))
  (sSeq (sWh l_law_pairs_1 l_law_pairs_2)
  (sRet (eComp 3 (iA dRng3 (aC (eC (.int 0)) (aC (e1 dLen (eV 2)) (aC (eV 1) aN)))) tY (eF m_law_pair (aC (eCut dCut (eV 2) (oS (eV 3)) (oS (e2 dAdd (eV 3) (eV 1)))) aN)))))))
def m_law_pairs : List D → R D := fnM 1 4 false b_law_pairs
theorem ok_law_pairs {P : Program} {w : World} {K : PySem.W.Frag} {mg : Str → Option Value} {base : Heap} {f : Addr} {fd : FuncData} (d : Dat K mg "_law_pairs" s_law_pairs ["script"] f fd) (n_len : mg "len" = none) (n_list : mg "list" = none) (n_range : mg "range" = none) (c_law_cell : Cal P w K mg base 1 "_law_cell" 2 m_law_cell .sc) (c_law_pair : Cal P w K mg base 1 "_law_pair" 1 m_law_pair .s) :
    Cal P w K mg base 2 "_law_pairs" 1 m_law_pairs (.l .s) := d.cal (k := 1) sc_law_pairs b_law_pairs false (.l .s) [] (fun h => nomatch h) fun cdv A outer s H E Hb hr => by
  have tk0 := takes_of (X := cxOf (L2.CX P w) P w K mg base ["script", "width", "cells", "k"] "_law_pairs" (defScope s_law_pairs) f cdv A outer s H E) rfl rfl rfl rfl
  exact (sss_cons (ss_asg 1 (se_bin ob_add se_int (se_bin ob_mod (se_cC c_law_cell hr (by decide) (by rfl) tk0 (sa_cons (se_varS 0) (sa_cons se_int sa_nil))) se_int)) sc_law_pairs.nd)
  (sss_cons (ss_asg 2 (se_listS (by rfl) n_list ((se_cutS (se_varS 0) (so_s se_int) so_n)).sh) sc_law_pairs.nd)
  (sss_cons (ss_while (Γ3 := [some .s, some .sc, some (.l .s), none]) [some .s, some .sc, some (.l .s), none] (passes_of rfl) (SW.t (sw_or (st_cmp ob_gt (se_bin ob_mod (se_len (by rfl) n_len (se_var 2)) (se_varC 1)) se_int) (sw_or1 (st_cmp (ob_eq hr.units) (se_len (by rfl) n_len (se_var 2)) se_int))))
  (sss_one (ss_app 2 ((se_bin ob_mul se_int (se_len (by rfl) n_len (se_var 2)))).sh)))
  (sss_one (ss_ret (se_comp (Γ0 := [some .s, some .sc, some .s, none]) (Γ3 := [some .s, some .sc, some .s, some .sc]) (Γ4 := [some .s, some .sc, some .s, some .sc]) 3 sc_law_pairs.nd rfl (si_range3 (by rfl) n_range (sa_cons se_int (sa_cons (se_len (by rfl) n_len (se_var 2)) (sa_cons (se_varC 1) sa_nil)))) (blkOk_by (own := [("k", 3)]) (N := ["script", "width", "cells", "k"]) (sc := defScope s_law_pairs) (by decide +kernel)) (fun _ _ _ _ _ => pg_name (i := 3) sc_law_pairs.nd rfl (Or.inl rfl)) (fun _ _ _ _ _ => sts_n) (fun _ _ _ _ _ => (se_cO c_law_pair hr (by decide) (by rfl) takes0 (sa_cons ((se_cutS (se_varS 2) (so_s (se_varC 3)) (so_s (se_bin ob_add (se_varC 3) (se_varC 1))))).sh sa_nil)))))))))
abbrev s_law_due : Stmt := topS 10
theorem sc_law_due : FnScope ["low", "mark", "due", "many", "k"] ["low", "mark"] (defScope s_law_due) := ⟨rfl, rfl, rfl, by decide +kernel, rfl, by decide +kernel, by decide +kernel⟩
def l_law_due_1 : En → Out := (sSeq (sApp 2 (e2 dIdx (eV 1) (eV 4)))
  (sIf (tAndM (tE (e2 dIsN (e2 dIdx (eV 1) (eV 4)) (eC .non))) (tAndM (tE (e2 dIsN (e2 dIdx (eV 0) (eV 4)) (eC .non))) (tE (e2 dNe (e2 dIdx (eV 0) (eV 4)) (e2 dIdx (eV 1) (eV 4)))))) (sSeq (sPut 2 (eV 4) (eC .non))
  (sAsg 3 (e2 dAdd (eV 3) (eC (.int 1))))) sPass))
def b_law_due : En → Out := (sSeq (sAsg 2 (eL aN))
  (sSeq (sAsg 3 (eC (.int 0)))
  (sSeq (sFor (gN 4) (iA dRng1 (aC (e1 dLen (eV 1)) aN)) l_law_due_1)
  (sSeq (sIf (tOrM (tE (e2 dEq (eV 3) (eC (.int 0)))) (tNotM (tE (eF m_law_under (aC (eV 0) (aC (eV 1) aN)))))) (sRet (eC .non)) sPass)
  (sRet (eV 2))))))
def m_law_due : List D → R D := fnM 2 5 false b_law_due
theorem ok_law_due {P : Program} {w : World} {K : PySem.W.Frag} {mg : Str → Option Value} {base : Heap} {f : Addr} {fd : FuncData} (d : Dat K mg "_law_due" s_law_due ["low", "mark"] f fd) (n_len : mg "len" = none) (n_range : mg "range" = none) (c_law_under : Cal P w K mg base 1 "_law_under" 2 m_law_under .sc) :
    Cal P w K mg base 2 "_law_due" 2 m_law_due .s := d.cal (k := 1) sc_law_due b_law_due false .s [] (fun h => nomatch h) fun cdv A outer s H E Hb hr => by
  have tk0 := takes_of (X := cxOf (L2.CX P w) P w K mg base ["low", "mark", "due", "many", "k"] "_law_due" (defScope s_law_due) f cdv A outer s H E) rfl rfl rfl rfl
  exact (sss_cons (ss_asg 2 (se_lst .s sa_nil) sc_law_due.nd)
  (sss_cons (ss_asg 3 se_int sc_law_due.nd)
  (sss_cons (ss_for (Γ3 := [some .s, some .s, some (.l .s), some .sc, some .sc]) [some .s, some .s, some (.l .s), some .sc, none] (passes_of rfl) rfl (si_range1 (by rfl) n_range (sa_cons (se_len (by rfl) n_len (se_varS 1)) sa_nil)) (sg_name 4 sc_law_due.nd)
  (sss_cons (ss_app 2 (se_ix (se_varS 1) (se_varC 4)))
  (sss_one (ss_if (Γ2 := [some .s, some .s, some (.l .s), some .sc, some .sc]) (SW.t (sw_and (st_cmp ob_isN (se_ix (se_varS 1) (se_varC 4)) se_non) (sw_and (st_cmp ob_isN (se_ix (se_varS 0) (se_varC 4)) se_non) (sw_and1 (st_cmp (ob_ne hr.units) (se_ix (se_varS 0) (se_varC 4)) (se_ix (se_varS 1) (se_varC 4))))))) (sss_cons (ss_put 2 (se_non).sh (se_varC 4) rfl rfl rfl (pv 2))
  (sss_one (ss_asg 3 (se_bin ob_add (se_varC 3) se_int) sc_law_due.nd))) sss_nil))))
  (sss_cons (ss_if (Γ2 := [some .s, some .s, some (.l .s), some .sc, none]) (SW.t (sw_or (st_cmp (ob_eq hr.units) (se_varC 3) se_int) (sw_or1 (st_not (st_val (se_cC c_law_under hr (by decide) (by rfl) tk0 (sa_cons (se_varS 0) (sa_cons (se_varS 1) sa_nil)))))))) (sss_one (ss_ret (se_non).sh)) sss_nil)
  (sss_one (ss_ret ((se_varM 2)).sh))))))
abbrev s_law_asked : Stmt := topS 11
theorem sc_law_asked : FnScope ["low", "mark", "handed", "found", "due"] ["low", "mark"] (defScope s_law_asked) := ⟨rfl, rfl, rfl, by decide +kernel, rfl, by decide +kernel, by decide +kernel⟩
def b_law_asked : En → Out := (sSeq (sAsg 2 (eL (aC (e1 dList (eV 0)) (aC (e1 dList (eV 1)) aN))))
  (sSeq (sAsg 3 (eF m_raised (aC (e2 dIdx (eV 2) (eC (.int 0))) (aC (e2 dIdx (eV 2) (eC (.int 1))) aN))))
  (sSeq (sAsg 4 (eF m_law_due (aC (eV 0) (aC (eV 1) aN))))
  (sSeq (sIf (tE (e2 dNe (eV 2) (eL (aC (eV 0) (aC (eV 1) aN))))) (sRet (eC (.bl false))) sPass)
  (sSeq (sIf (tE (e2 dIs (eV 4) (eC .non))) (sRet (e2 dIs (eV 3) (eC .non))) sPass)
  (sRet (eF m_law_mark_like (aC (eV 3) (aC (eV 4) aN)))))))))
def m_law_asked : List D → R D := fnM 2 5 false b_law_asked
theorem ok_law_asked {P : Program} {w : World} {K : PySem.W.Frag} {mg : Str → Option Value} {base : Heap} {f : Addr} {fd : FuncData} (d : Dat K mg "_law_asked" s_law_asked ["low", "mark"] f fd) (n_list : mg "list" = none) (c_law_due : Cal P w K mg base 2 "_law_due" 2 m_law_due .s) (c_law_mark_like : Cal P w K mg base 2 "_law_mark_like" 2 m_law_mark_like .sc) (c_raised : Cal P w K mg base 2 "raised" 2 m_raised .s) :
    Cal P w K mg base 3 "_law_asked" 2 m_law_asked .sc := d.cal (k := 2) sc_law_asked b_law_asked false .sc [] (fun h => nomatch h) fun cdv A outer s H E Hb hr => by
  have tk0 := takes_of (X := cxOf (L2.CX P w) P w K mg base ["low", "mark", "handed", "found", "due"] "_law_asked" (defScope s_law_asked) f cdv A outer s H E) rfl rfl rfl rfl
  exact (sss_cons (ss_asg 2 (se_lst (.l .s) (sa_cons (se_listS (by rfl) n_list (se_varS 0)) (sa_cons (se_listS (by rfl) n_list (se_varS 1)) sa_nil))) sc_law_asked.nd)
  (sss_cons (ss_asg 3 (se_cO c_raised hr (by decide) (by rfl) tk0 (sa_cons (se_ix (se_varG 2) se_int) (sa_cons (se_ix (se_varS 2) se_int) sa_nil))) sc_law_asked.nd)
  (sss_cons (ss_asg 4 (se_cO c_law_due hr (by decide) (by rfl) tk0 (sa_cons (se_varS 0) (sa_cons (se_varS 1) sa_nil))) sc_law_asked.nd)
  (sss_cons (ss_if (Γ2 := [some .s, some .s, some .s, some .s, some .s]) (st_cmp (ob_ne hr.units) (se_varS 2) (se_lst .s (sa_cons (se_varS 0) (sa_cons (se_varS 1) sa_nil)))) (sss_one (ss_ret se_bl)) sss_nil)
  (sss_cons (ss_if (Γ2 := [some .s, some .s, some .s, some .s, some .s]) (st_cmp ob_is (se_varS 4) se_non) (sss_one (ss_ret (se_cmp ob_is (se_varS 3) se_non))) sss_nil)
  (sss_one (ss_ret (se_cC c_law_mark_like hr (by decide) (by rfl) tk0 (sa_cons (se_varS 3) (sa_cons (se_varS 4) sa_nil))))))))))
abbrev s_law : Stmt := topS 12
theorem sc_law : FnScope ["script", "pair"] ["script"] (defScope s_law) := ⟨rfl, rfl, rfl, by decide +kernel, rfl, by decide +kernel, by decide +kernel⟩
def l_law_1 : En → Out := (sSeq (sIf (tOrM (tNotM (tE (eF m_law_asked (aC (e2 dIdx (eV 1) (eC (.int 0))) (aC (e2 dIdx (eV 1) (eC (.int 1))) aN))))) (tNotM (tE (eF m_law_asked (aC (e2 dIdx (eV 1) (eC (.int 1))) (aC (e2 dIdx (eV 1) (eC (.int 0))) aN)))))) (sRet (eC (.bl false))) sPass)
  (sIf (tNotM (tE (eF m_law_asked (aC (e2 dIdx (eV 1) (eC (.int 0))) (aC (e2 dIdx (eV 1) (eC (.int 0))) aN))))) (sRet (eC (.bl false))) sPass))
def b_law : En → Out := (sSeq (sFor (gN 1) (iE dItems (eF m_law_pairs (aC (eV 0) aN))) l_law_1)
  (sRet (eC (.bl true))))
def m_law : List D → R D := fnM 1 2 false b_law
theorem fn_law {P : Program} {w : World} {K : PySem.W.Frag} {mg : Str → Option Value} {base : Heap} {f : Addr} {fd : FuncData} (d : Fun K "law" "law" s_law f fd) (c_law_asked : Cal P w K mg base 3 "_law_asked" 2 m_law_asked .sc) (c_law_pairs : Cal P w K mg base 2 "_law_pairs" 1 m_law_pairs (.l .s)) :
    FnOk P w K mg base (L2.CX P w) 4 f fd ["script"] (spF ⟨K, mg⟩ 1 m_law .sc) := fn_S (k := 3) d sc_law b_law false .sc [] (fun h => nomatch h) fun cdv A outer s H E Hb hr => by
  have tk0 := takes_of (X := cxOf (L2.CX P w) P w K mg base ["script", "pair"] "law" (defScope s_law) f cdv A outer s H E) rfl rfl rfl rfl
  exact (sss_cons (ss_for (Γ3 := [some .s, some .s]) [some .s, none] (passes_of rfl) rfl (si_list ((se_cO c_law_pairs hr (by decide) (by rfl) tk0 (sa_cons (se_varS 0) sa_nil))).sh) (sg_name 1 sc_law.nd)
  (sss_cons (ss_if (Γ2 := [some .s, some .s]) (SW.t (sw_or (st_not (st_val (se_cC c_law_asked hr (by decide) (by rfl) tk0 (sa_cons (se_ix (se_varS 1) se_int) (sa_cons (se_ix (se_varS 1) se_int) sa_nil))))) (sw_or1 (st_not (st_val (se_cC c_law_asked hr (by decide) (by rfl) tk0 (sa_cons (se_ix (se_varS 1) se_int) (sa_cons (se_ix (se_varS 1) se_int) sa_nil)))))))) (sss_one (ss_ret se_bl)) sss_nil)
  (sss_one (ss_if (Γ2 := [some .s, some .s]) (st_not (st_val (se_cC c_law_asked hr (by decide) (by rfl) tk0 (sa_cons (se_ix (se_varS 1) se_int) (sa_cons (se_ix (se_varS 1) se_int) sa_nil))))) (sss_one (ss_ret se_bl)) sss_nil))))
  (sss_one (ss_ret se_bl)))
section
end
theorem all_mk (hm : ∀ ns : List Int, ns.length ≤ 63 → m_law [.lst (ns.map D.int)] = .ok (.bl true)) {l : PySem.W.OpenLaw} {w : World} {K : PySem.W.Frag} {h : Heap} {mg : Str → Option Value} {fa : Addr} (X : K.In h) (G : h.Ns mainGlobals mg) (hfa : mg "law" = some (.ref fa))
    {f0 f1 f2 f3 f4 f5 f6 f7 f8 f9 f10  : Addr} {od0 an0 od1 an1 od2 an2 od3 an3 od4 an4 od5 an5 od6 an6 od7 an7 od8 an8 od9 an9 od10 an10 : Option Addr} {sl0 sl1 sl2 sl3 sl4 sl5 sl6 sl7 sl8 sl9 sl10 : Array (Option Value)} {oc0 kV0 dc0 pm0 cd0 ct0 oc1 kV1 dc1 pm1 cd1 ct1 oc2 kV2 dc2 pm2 cd2 ct2 oc3 kV3 dc3 pm3 cd3 ct3 oc4 kV4 dc4 pm4 cd4 ct4 oc5 kV5 dc5 pm5 cd5 ct5 oc6 kV6 dc6 pm6 cd6 ct6 oc7 kV7 dc7 pm7 cd7 ct7 oc8 kV8 dc8 pm8 cd8 ct8 oc9 kV9 dc9 pm9 cd9 ct9 oc10 kV10 dc10 pm10 cd10 ct10 : Value}
    (a0 : PySem.W.nsIn K mainGlobals "under" = some (some (.ref f0))) (l0 : K.lookup f0 = some ⟨oc0, od0, .func (PySem.W.fnOf "under" "under" (defArgs s_under) (defBody s_under) (defScope s_under) .none kV0 dc0 pm0 an0 cd0 ct0), sl0⟩) (c0 : PySem.W.codeIn K cd0 "under" = true) (k0 : PySem.W.keepIn K (.ref f0) = true) (a1 : PySem.W.nsIn K mainGlobals "raised" = some (some (.ref f1))) (l1 : K.lookup f1 = some ⟨oc1, od1, .func (PySem.W.fnOf "raised" "raised" (defArgs s_raised) (defBody s_raised) (defScope s_raised) .none kV1 dc1 pm1 an1 cd1 ct1), sl1⟩) (c1 : PySem.W.codeIn K cd1 "raised" = true) (k1 : PySem.W.keepIn K (.ref f1) = true) (a2 : PySem.W.nsIn K mainGlobals "_law_cell" = some (some (.ref f2))) (l2 : K.lookup f2 = some ⟨oc2, od2, .func (PySem.W.fnOf "_law_cell" "_law_cell" (defArgs s_law_cell) (defBody s_law_cell) (defScope s_law_cell) .none kV2 dc2 pm2 an2 cd2 ct2), sl2⟩) (c2 : PySem.W.codeIn K cd2 "_law_cell" = true) (k2 : PySem.W.keepIn K (.ref f2) = true) (a3 : PySem.W.nsIn K mainGlobals "_law_whole" = some (some (.ref f3))) (l3 : K.lookup f3 = some ⟨oc3, od3, .func (PySem.W.fnOf "_law_whole" "_law_whole" (defArgs s_law_whole) (defBody s_law_whole) (defScope s_law_whole) .none kV3 dc3 pm3 an3 cd3 ct3), sl3⟩) (c3 : PySem.W.codeIn K cd3 "_law_whole" = true) (k3 : PySem.W.keepIn K (.ref f3) = true) (a4 : PySem.W.nsIn K mainGlobals "_law_under" = some (some (.ref f4))) (l4 : K.lookup f4 = some ⟨oc4, od4, .func (PySem.W.fnOf "_law_under" "_law_under" (defArgs s_law_under) (defBody s_law_under) (defScope s_law_under) .none kV4 dc4 pm4 an4 cd4 ct4), sl4⟩) (c4 : PySem.W.codeIn K cd4 "_law_under" = true) (k4 : PySem.W.keepIn K (.ref f4) = true) (a5 : PySem.W.nsIn K mainGlobals "_law_mark_like" = some (some (.ref f5))) (l5 : K.lookup f5 = some ⟨oc5, od5, .func (PySem.W.fnOf "_law_mark_like" "_law_mark_like" (defArgs s_law_mark_like) (defBody s_law_mark_like) (defScope s_law_mark_like) .none kV5 dc5 pm5 an5 cd5 ct5), sl5⟩) (c5 : PySem.W.codeIn K cd5 "_law_mark_like" = true) (k5 : PySem.W.keepIn K (.ref f5) = true) (a6 : PySem.W.nsIn K mainGlobals "_law_pair" = some (some (.ref f6))) (l6 : K.lookup f6 = some ⟨oc6, od6, .func (PySem.W.fnOf "_law_pair" "_law_pair" (defArgs s_law_pair) (defBody s_law_pair) (defScope s_law_pair) .none kV6 dc6 pm6 an6 cd6 ct6), sl6⟩) (c6 : PySem.W.codeIn K cd6 "_law_pair" = true) (k6 : PySem.W.keepIn K (.ref f6) = true) (a7 : PySem.W.nsIn K mainGlobals "_law_pairs" = some (some (.ref f7))) (l7 : K.lookup f7 = some ⟨oc7, od7, .func (PySem.W.fnOf "_law_pairs" "_law_pairs" (defArgs s_law_pairs) (defBody s_law_pairs) (defScope s_law_pairs) .none kV7 dc7 pm7 an7 cd7 ct7), sl7⟩) (c7 : PySem.W.codeIn K cd7 "_law_pairs" = true) (k7 : PySem.W.keepIn K (.ref f7) = true) (a8 : PySem.W.nsIn K mainGlobals "_law_due" = some (some (.ref f8))) (l8 : K.lookup f8 = some ⟨oc8, od8, .func (PySem.W.fnOf "_law_due" "_law_due" (defArgs s_law_due) (defBody s_law_due) (defScope s_law_due) .none kV8 dc8 pm8 an8 cd8 ct8), sl8⟩) (c8 : PySem.W.codeIn K cd8 "_law_due" = true) (k8 : PySem.W.keepIn K (.ref f8) = true) (a9 : PySem.W.nsIn K mainGlobals "_law_asked" = some (some (.ref f9))) (l9 : K.lookup f9 = some ⟨oc9, od9, .func (PySem.W.fnOf "_law_asked" "_law_asked" (defArgs s_law_asked) (defBody s_law_asked) (defScope s_law_asked) .none kV9 dc9 pm9 an9 cd9 ct9), sl9⟩) (c9 : PySem.W.codeIn K cd9 "_law_asked" = true) (k9 : PySem.W.keepIn K (.ref f9) = true) (a10 : PySem.W.nsIn K mainGlobals "law" = some (some (.ref f10))) (l10 : K.lookup f10 = some ⟨oc10, od10, .func (PySem.W.fnOf "law" "law" (defArgs s_law) (defBody s_law) (defScope s_law) .none kV10 dc10 pm10 an10 cd10 ct10), sl10⟩) (c10 : PySem.W.codeIn K cd10 "law" = true) (k10 : PySem.W.keepIn K (.ref f10) = true) (z_bool : PySem.W.nsIn K mainGlobals "bool" = some none) (z_int : PySem.W.nsIn K mainGlobals "int" = some none) (z_isinstance : PySem.W.nsIn K mainGlobals "isinstance" = some none) (z_len : PySem.W.nsIn K mainGlobals "len" = some none) (z_list : PySem.W.nsIn K mainGlobals "list" = some none) (z_range : PySem.W.nsIn K mainGlobals "range" = some none) :
    ∃ fd : FuncData, (∀ (s : Shared) (v : Value), BindsTo s fd ⟨[v], []⟩ [("script", v)]) ∧ ∀ base : Heap, K.In base → base.Ns mainGlobals mg → FnOk l.prog w K mg base (L2.CX l.prog w) 4 fa fd ["script"] (spLaw K) := by
  have e := hfa.symm.trans (PySem.W.mg_of X G a10)
  cases e
  have F0 := fun_mk (st := s_under) l0 c0 k0
  have D0 : Dat K mg "under" s_under ["low", "high"] f0 _ := ⟨F0, PySem.W.mg_of X G a0, F0.binds (ps := ["low", "high"]) fun _ _ _ _ _ _ us hl => match us, hl with | [_, _], _ => rfl⟩
  have F1 := fun_mk (st := s_raised) l1 c1 k1
  have D1 : Dat K mg "raised" s_raised ["low", "mark"] f1 _ := ⟨F1, PySem.W.mg_of X G a1, F1.binds (ps := ["low", "mark"]) fun _ _ _ _ _ _ us hl => match us, hl with | [_, _], _ => rfl⟩
  have F2 := fun_mk (st := s_law_cell) l2 c2 k2
  have D2 : Dat K mg "_law_cell" s_law_cell ["script", "k"] f2 _ := ⟨F2, PySem.W.mg_of X G a2, F2.binds (ps := ["script", "k"]) fun _ _ _ _ _ _ us hl => match us, hl with | [_, _], _ => rfl⟩
  have F3 := fun_mk (st := s_law_whole) l3 c3 k3
  have D3 : Dat K mg "_law_whole" s_law_whole ["found"] f3 _ := ⟨F3, PySem.W.mg_of X G a3, F3.binds (ps := ["found"]) fun _ _ _ _ _ _ us hl => match us, hl with | [_], _ => rfl⟩
  have F4 := fun_mk (st := s_law_under) l4 c4 k4
  have D4 : Dat K mg "_law_under" s_law_under ["low", "high"] f4 _ := ⟨F4, PySem.W.mg_of X G a4, F4.binds (ps := ["low", "high"]) fun _ _ _ _ _ _ us hl => match us, hl with | [_, _], _ => rfl⟩
  have F5 := fun_mk (st := s_law_mark_like) l5 c5 k5
  have D5 : Dat K mg "_law_mark_like" s_law_mark_like ["found", "due"] f5 _ := ⟨F5, PySem.W.mg_of X G a5, F5.binds (ps := ["found", "due"]) fun _ _ _ _ _ _ us hl => match us, hl with | [_, _], _ => rfl⟩
  have F6 := fun_mk (st := s_law_pair) l6 c6 k6
  have D6 : Dat K mg "_law_pair" s_law_pair ["cells"] f6 _ := ⟨F6, PySem.W.mg_of X G a6, F6.binds (ps := ["cells"]) fun _ _ _ _ _ _ us hl => match us, hl with | [_], _ => rfl⟩
  have F7 := fun_mk (st := s_law_pairs) l7 c7 k7
  have D7 : Dat K mg "_law_pairs" s_law_pairs ["script"] f7 _ := ⟨F7, PySem.W.mg_of X G a7, F7.binds (ps := ["script"]) fun _ _ _ _ _ _ us hl => match us, hl with | [_], _ => rfl⟩
  have F8 := fun_mk (st := s_law_due) l8 c8 k8
  have D8 : Dat K mg "_law_due" s_law_due ["low", "mark"] f8 _ := ⟨F8, PySem.W.mg_of X G a8, F8.binds (ps := ["low", "mark"]) fun _ _ _ _ _ _ us hl => match us, hl with | [_, _], _ => rfl⟩
  have F9 := fun_mk (st := s_law_asked) l9 c9 k9
  have D9 : Dat K mg "_law_asked" s_law_asked ["low", "mark"] f9 _ := ⟨F9, PySem.W.mg_of X G a9, F9.binds (ps := ["low", "mark"]) fun _ _ _ _ _ _ us hl => match us, hl with | [_, _], _ => rfl⟩
  have F10 := fun_mk (st := s_law) l10 c10 k10
  refine ⟨PySem.W.fnOf "law" "law" (defArgs s_law) (defBody s_law) (defScope s_law) .none kV10 dc10 pm10 an10 cd10 ct10, fun s v => .of_eq rfl, fun base _ _ => ?_⟩
  have r0 := ok_under (P := l.prog) (w := w) (base := base) D0 (PySem.W.mg_none_of X G z_len) (PySem.W.mg_none_of X G z_range)
  have r1 := ok_raised (P := l.prog) (w := w) (base := base) D1 (PySem.W.mg_none_of X G z_len) (PySem.W.mg_none_of X G z_range) r0
  have r2 := ok_law_cell (P := l.prog) (w := w) (base := base) D2 (PySem.W.mg_none_of X G z_len)
  have r3 := ok_law_whole (P := l.prog) (w := w) (base := base) D3 (PySem.W.mg_none_of X G z_bool) (PySem.W.mg_none_of X G z_int) (PySem.W.mg_none_of X G z_isinstance)
  have r4 := ok_law_under (P := l.prog) (w := w) (base := base) D4 (PySem.W.mg_none_of X G z_len) (PySem.W.mg_none_of X G z_range)
  have r5 := ok_law_mark_like (P := l.prog) (w := w) (base := base) D5 (PySem.W.mg_none_of X G z_isinstance) (PySem.W.mg_none_of X G z_len) (PySem.W.mg_none_of X G z_list) (PySem.W.mg_none_of X G z_range) r3
  have r6 := ok_law_pair (P := l.prog) (w := w) (base := base) D6 (PySem.W.mg_none_of X G z_int) (PySem.W.mg_none_of X G z_len) (PySem.W.mg_none_of X G z_range)
  have r7 := ok_law_pairs (P := l.prog) (w := w) (base := base) D7 (PySem.W.mg_none_of X G z_len) (PySem.W.mg_none_of X G z_list) (PySem.W.mg_none_of X G z_range) r2 r6
  have r8 := ok_law_due (P := l.prog) (w := w) (base := base) D8 (PySem.W.mg_none_of X G z_len) (PySem.W.mg_none_of X G z_range) r4
  have r9 := ok_law_asked (P := l.prog) (w := w) (base := base) D9 (PySem.W.mg_none_of X G z_list) r8 r5 r1
  exact law_end (fn_law F10 r9 r7) hm
end


end Bd
set_option Elab.async false
set_option linter.all false
set_option maxRecDepth 100000
set_option maxHeartbeats 4000000
namespace Bd
open PySem PySem.Spec PyProof.Rows L2
def uB (lo hi : Option Int) : Bool := match hi with
  | none => true
  | some h => match lo with
    | none => false
    | some l => decide (l ≤ h)
def undM (a b : List (Option Int)) : Prop := ∀ k, k < a.length → uB (a.getD k none) (b.getD k none) = true
instance (a b : List (Option Int)) : Decidable (undM a b) := inferInstanceAs (Decidable (∀ k, k < a.length → _))
theorem under_ok (a b : List (Option Int)) (h : a.length = b.length) (hl : a.length ≤ 100000) : m_under [mL a, mL b] = .ok (.bl (decide (undM a b))) := by
  have q2 := dRng1_nat (n := a.length) (by omega)
  have q := forM_find (g := gN 2) (b := l_under_1) (r := .bl false) (fun _ E => ∃ y, E = [some (mL a), some (mL b), y]) (fun k => uB (a.getD k none) (b.getD k none) = true) (xs := rngD 0 a.length) (n := 0) (E := [some (mL a), some (mL b), none]) ⟨none, rfl⟩ (by
    rintro k d _ hd ⟨y, rfl⟩
    obtain ⟨hk, rfl⟩ := rngD_at hd
    have r1 := dIdx_mL (m := a) (k := k) hk
    have r2 := dIdx_mL (m := b) (k := k) (by omega)
    refine ⟨_, rfl, ?_⟩
    rw [Nat.zero_add]
    generalize a.getD k none = x at r1
    generalize b.getD k none = z at r2
    cases z with
    | none => exact .inl ⟨rfl, _, .inl (by simp at r2; simp [l_under_1, r2]; rfl), _, rfl⟩
    | some z =>
      cases x with
      | none => exact .inr ⟨by simp [uB], by simp at r1 r2; simp [l_under_1, r1, r2]⟩
      | some x =>
        simp at r1 r2
        by_cases c : x ≤ z
        · exact .inl ⟨by simp [uB, c], _, .inl (by simp [l_under_1, r1, r2, show ¬ z < x by omega]; rfl), _, rfl⟩
        · exact .inr ⟨by simp [uB, c], by simp [l_under_1, r1, r2, show z < x by omega]⟩)
  rw [rngD_len] at q
  simp only [Nat.zero_add] at q
  rcases q with ⟨⟨E', e, _⟩, p⟩ | ⟨e, p⟩
  · have : undM a b := p
    simp [m_under, fnM, b_under, q2, e, this]
  · have : ¬ undM a b := p
    simp [m_under, fnM, b_under, q2, e, this]
theorem law_under (a b : List (Option Int)) (h : a.length = b.length) (hl : a.length ≤ 100000) : m_law_under [mL a, mL b] = .ok (.bl (decide (undM a b))) := by
  have q2 := dRng1_nat (n := b.length) (by omega)
  have q := forM_find (g := gN 2) (b := l_law_under_1) (r := .bl false) (fun _ E => ∃ y, E = [some (mL a), some (mL b), y]) (fun k => uB (a.getD k none) (b.getD k none) = true) (xs := rngD 0 b.length) (n := 0) (E := [some (mL a), some (mL b), none]) ⟨none, rfl⟩ (by
    rintro k d _ hd ⟨y, rfl⟩
    obtain ⟨hk, rfl⟩ := rngD_at hd
    have r1 := dIdx_mL (m := a) (k := k) (by omega)
    have r2 := dIdx_mL (m := b) (k := k) (by omega)
    refine ⟨_, rfl, ?_⟩
    rw [Nat.zero_add]
    generalize a.getD k none = x at r1
    generalize b.getD k none = z at r2
    cases z with
    | none => exact .inl ⟨rfl, _, .inl (by simp at r2; simp [l_law_under_1, r2]; rfl), _, rfl⟩
    | some z =>
      cases x with
      | none => exact .inr ⟨by simp [uB], by simp at r1 r2; simp [l_law_under_1, r1, r2]⟩
      | some x =>
        simp at r1 r2
        by_cases c : x ≤ z
        · exact .inl ⟨by simp [uB, c], _, .inl (by simp [l_law_under_1, r1, r2, show ¬ z < x by omega]; rfl), _, rfl⟩
        · exact .inr ⟨by simp [uB, c], by simp [l_law_under_1, r1, r2, show z < x by omega]⟩)
  rw [rngD_len, ← h] at q
  simp only [Nat.zero_add] at q
  rcases q with ⟨⟨E', e, _⟩, p⟩ | ⟨e, p⟩
  · have : undM a b := p
    rw [← h] at q2
    simp [m_law_under, fnM, b_law_under, ← h, q2, e, this]
  · have : ¬ undM a b := p
    rw [← h] at q2
    simp [m_law_under, fnM, b_law_under, ← h, q2, e, this]

end Bd

set_option Elab.async false
set_option linter.all false
set_option maxRecDepth 100000
set_option maxHeartbeats 4000000
namespace Bd
open PySem PySem.Spec PyProof.Rows L2
theorem law_cellM (ns : List Int) (k : Nat) : ∃ x : Int, m_law_cell [iL ns, .int (k : Int)] = .ok (.int x) := by
  by_cases h : ns.length = 0
  · exact ⟨0, by simp [m_law_cell, fnM, b_law_cell, h]⟩
  · have e := dMod_pos (i := (k : Int)) (j := (ns.length : Int)) (by omega)
    have e2 : (k : Int) % (ns.length : Int) = ((k % ns.length : Nat) : Int) := by simp
    rw [e2] at e
    have e3 := dIdx_ints (ns := ns) (k := k % ns.length) (Nat.mod_lt _ (by omega))
    simp at e e3
    exact ⟨_, by simp [m_law_cell, fnM, b_law_cell, h, e, e3]; rfl⟩
theorem ix7 {a b c d e f g i : Int} (h0 : 0 ≤ i) (h : i < 7) : ∃ x : Int, dIdx (.lst [.int a, .int b, .int c, .int d, .int e, .int f, .int g]) (.int i) = .ok (.int x) :=
  ⟨_, dIdx_pos (ns := [a, b, c, d, e, f, g]) h0 h⟩
theorem law_pair (cs : List Int) (h0 : 0 < cs.length) (hl : cs.length ≤ 1000) : ∃ lo hi : List (Option Int), m_law_pair [iL cs] = .ok (.tup [mL lo, mL hi]) ∧ lo.length = cs.length ∧ hi.length = cs.length := by
  have q1 := dRng1_nat (n := cs.length) (by omega)
  have q2 := dIdx_ints (ns := cs) (k := 0) h0
  have q3 := dMul_ok (i := 2) (j := (cs.length : Int)) (mulC_l (by decide))
  have q4 := dMod_pos (i := cs.getD 0 0 % 1009 / 7) (j := 2 * (cs.length : Int)) (by omega)
  generalize cs.getD 0 0 % 1009 / 7 % (2 * (cs.length : Int)) = bad at q4
  obtain ⟨E', e, lo, hi, y4, y5, y6, e1, e2, e3⟩ := forM_go (g := gN 4) (b := l_law_pair_1)
    (fun n E => ∃ (lo hi : List (Option Int)) (x4 x5 x6 : Option D), lo.length = n ∧ hi.length = n ∧ E = [some (iL cs), some (.int bad), some (mL lo), some (mL hi), x4, x5, x6])
    (xs := rngD 0 cs.length) (n := 0) (E := [some (iL cs), some (.int bad), some (mL []), some (mL []), none, none, none])
    ⟨[], [], none, none, none, rfl, rfl, rfl⟩ (by
      rintro k d _ hd ⟨lo, hi, x4, x5, x6, h1, h2, rfl⟩
      obtain ⟨hk, rfl⟩ := rngD_at hd
      rw [Nat.zero_add] at h1 h2 ⊢
      have r1 := dIdx_ints (ns := cs) (k := k) hk
      have l1 : k < 16777216 := by omega
      generalize cs.getD k 0 = x at r1
      refine ⟨_, rfl, ?_⟩
      have key : ∀ w : Int, 0 ≤ w → w < 7 → Nx (fun E => ∃ (lo hi : List (Option Int)) (x4 x5 x6 : Option D), lo.length = k + 1 ∧ hi.length = k + 1 ∧ E = [some (iL cs), some (.int bad), some (mL lo), some (mL hi), x4, x5, x6])
          ((sSeq (sIf (tOrM (tE (e2 dEq (eV 5) (eC (.int 3)))) (tE (e2 dEq (eV 5) (eC (.int 6))))) (sApp 2 (eC .non)) (sApp 2 (e2 dAdd (eV 6) (e1 dInt (e2 dEq (eV 5) (eC (.int 5)))))))
  (sIf (tOrM (tE (e2 dEq (eV 5) (eC (.int 2)))) (tE (e2 dEq (eV 5) (eC (.int 3))))) (sApp 3 (eC .non)) (sApp 3 (e2 dAdd (eV 6) (e2 dIdx (eL (aC (eC (.int 0)) (aC (eC (.int 1)) (aC (eC (.int 0)) (aC (eC (.int 0)) (aC (e2 dPow (eC (.int 10)) (eC (.int 9))) (aC (eC (.int 0)) (aC (eC (.int 0)) aN)))))))) (eV 5))))))
            [some (iL cs), some (.int bad), some (mL lo), some (mL hi), some (.int k), some (.int w), some (.int (x / 7 % 10 ^ 60))]) := fun w hw hw' => by
        obtain ⟨z, r2⟩ := ix7 (a := 0) (b := 1) (c := 0) (d := 0) (e := 10 ^ 9) (f := 0) (g := 0) hw hw'
        simp at r2
        by_cases c1 : w = 3
        · subst c1
          simp [l1, h1, h2]
          exact ⟨_, by simp [h1], _, by simp [h2], rfl, rfl⟩
        · by_cases c2 : w = 6
          · subst c2
            simp [l1, h1, h2, r2]
            exact ⟨_, by simp [h1], _, by simp [h2], rfl, rfl⟩
          · by_cases c3 : w = 2
            · subst c3
              simp [l1, h1, h2, r2]
              exact ⟨_, by simp [h1], _, by simp [h2], rfl, rfl⟩
            · simp [l1, h1, h2, r2, c1, c2, c3]
              exact ⟨_, by simp [h1], _, by simp [h2], rfl, rfl⟩
      by_cases c1 : 4 < x % 7
      · by_cases c2 : (k : Int) = bad
        · subst c2
          have := key (x % 7) (by omega) (by omega)
          simp [l_law_pair_1, r1, c1] at this ⊢
          exact this
        · have := key (x % 7 - 5) (by omega) (by omega)
          simp [l_law_pair_1, r1, c1, c2] at this ⊢
          exact this
      · have := key (x % 7) (by omega) (by omega)
        simp [l_law_pair_1, r1, c1] at this ⊢
        exact this)
  subst e3
  rw [rngD_len, Nat.zero_add] at e1 e2
  refine ⟨lo, hi, ?_, e1, e2⟩
  simp at q2 q4
  simp only [mL, List.map_nil, lst_nil] at e
  simp [m_law_pair, fnM, b_law_pair, q1, q2, q3, q4, e]
  exact ⟨rfl, rfl⟩
theorem fill (o x3 : Option D) (w : Nat) (hw : 0 < w) (hw' : w < 7) : ∀ (m : Nat) (cs : List Int), w - cs.length % w ≤ m → cs.length + m ≤ 1000 →
    ∃ cs' : List Int, 0 < cs'.length ∧ cs'.length ≤ cs.length + m ∧ sWh l_law_pairs_1 l_law_pairs_2 [o, some (.int (w : Int)), some (iL cs), x3] = .nx [o, some (.int (w : Int)), some (iL cs'), x3] := by
  intro m
  induction m with
  | zero =>
    intro cs h1 h2
    have := Nat.mod_lt cs.length hw
    omega
  | succ m ih =>
    intro cs h1 h2
    have e1 := dMod_pos (i := (cs.length : Int)) (j := (w : Int)) (by omega)
    have hm := Nat.mod_lt cs.length hw
    have e2 : (cs.length : Int) % (w : Int) = ((cs.length % w : Nat) : Int) := by simp
    by_cases hz : cs.length % w = 0 ∧ cs.length ≠ 0
    · refine ⟨cs, by omega, by omega, sWh_no ?_⟩
      rw [e2, hz.1] at e1
      simp at e1
      simp [l_law_pairs_1, e1, hz.2]
    · have t1 : l_law_pairs_1 [o, some (.int (w : Int)), some (iL cs), x3] = .ok true := by
        by_cases h0 : cs.length = 0
        · have : cs = [] := List.eq_nil_of_length_eq_zero h0
          subst this
          simp at e1
          simp [l_law_pairs_1, e1]
        · have hp : 0 < cs.length % w := by omega
          rw [e2] at e1
          have hp' : (0 : Int) < ((cs.length % w : Nat) : Int) := by omega
          simp at e1 hp'
          simp [l_law_pairs_1, e1, hp']
      have q3 := dMul_ok (i := 7) (j := (cs.length : Int)) (mulC_l (by decide))
      have l1 : cs.length < 16777216 := by omega
      have t2 : l_law_pairs_2 [o, some (.int (w : Int)), some (iL cs), x3] = .nx [o, some (.int (w : Int)), some (iL (cs ++ [7 * (cs.length : Int)])), x3] := by
        simp [l_law_pairs_2, q3, l1]
      rw [sWh_nx t1 (.inl t2)]
      by_cases hz' : (cs.length + 1) % w = 0
      · refine ⟨_, ?_, ?_, sWh_no ?_⟩
        · simp
        · simp
        · have e3 := dMod_pos (i := ((cs.length + 1 : Nat) : Int)) (j := (w : Int)) (by omega)
          rw [show ((cs.length + 1 : Nat) : Int) % (w : Int) = (((cs.length + 1) % w : Nat) : Int) by simp, hz'] at e3
          have : ¬ ((cs.length : Int) + 1 = 0) := by omega
          simp at e3
          simp [l_law_pairs_1, e3, this]
      · have hr : (cs.length + 1) % w = cs.length % w + 1 := by
          have h3 := Nat.mod_add_mod cs.length w 1
          have h4 : cs.length % w + 1 < w := by
            rcases Nat.lt_or_ge (cs.length % w + 1) w with h | h
            · exact h
            · exfalso
              have : cs.length % w + 1 = w := by omega
              rw [this, Nat.mod_self] at h3
              exact hz' h3.symm
          rw [← h3, Nat.mod_eq_of_lt h4]
        obtain ⟨cs', g1, g2, g3⟩ := ih (cs ++ [7 * (cs.length : Int)]) (by rw [List.length_append, List.length_singleton, hr]; omega) (by rw [List.length_append, List.length_singleton]; omega)
        rw [List.length_append, List.length_singleton] at g2
        exact ⟨cs', g1, by omega, g3⟩
def pairD (p : List (Option Int) × List (Option Int)) : D := .tup [mL p.1, mL p.2]
theorem law_pairs (ns : List Int) (h : ns.length ≤ 63) : ∃ ps : List (List (Option Int) × List (Option Int)), m_law_pairs [iL ns] = .ok (.lst (ps.map pairD)) ∧ ∀ p ∈ ps, p.1.length = p.2.length ∧ p.1.length ≤ 1000 := by
  obtain ⟨x, q0⟩ := law_cellM ns 0
  obtain ⟨w, hw, hw', ew⟩ : ∃ w : Nat, 0 < w ∧ w < 7 ∧ 1 + x % 6 = (w : Int) := ⟨(1 + x % 6).toNat, by omega, by omega, by omega⟩
  obtain ⟨cs, h1, h2, q1⟩ := fill (some (iL ns)) none w hw hw' 7 (ns.drop 1) (by omega) (by rw [List.length_drop]; omega)
  rw [List.length_drop] at h2
  have q2 := cut_lo ns 1
  obtain ⟨n, q3, hn, ht⟩ := dRng3_up (j := (cs.length : Int)) (k := (w : Int)) (by omega) (by omega) (by omega) (by omega)
  obtain ⟨ys, q4, _, hy⟩ := comp_ex (i := 3) (m := eF m_law_pair (aC (eCut dCut (eV 2) (oS (eV 3)) (oS (e2 dAdd (eV 3) (eV 1)))) aN)) (E := [some (iL ns), some (.int (w : Int)), some (iL cs), none]) (P := fun d => ∃ p : List (Option Int) × List (Option Int), d = pairD p ∧ p.1.length = p.2.length ∧ p.1.length ≤ 1000) (xs := rngK 0 (w : Int) n) (fun d hd => by
    obtain ⟨m, hm, rfl⟩ := mem_rngK hd
    obtain ⟨t1, t2⟩ := ht m hm
    obtain ⟨a, ha⟩ : ∃ a : Nat, (m : Int) * (w : Int) = (a : Int) := ⟨((m : Int) * (w : Int)).toNat, by omega⟩
    rw [ha] at t1 t2 ⊢
    rw [Int.zero_add]
    have c := cut_lohi cs a (a + w)
    rw [Int.natCast_add] at c
    have hl : ((cs.drop (min a cs.length)).take (min (a + w) cs.length - min a cs.length)).length ≤ 1000 := by
      rw [List.length_take, List.length_drop]; omega
    have hp : 0 < ((cs.drop (min a cs.length)).take (min (a + w) cs.length - min a cs.length)).length := by
      rw [List.length_take, List.length_drop]; omega
    obtain ⟨lo, hi, r1, r2, r3⟩ := law_pair _ hp hl
    exact ⟨_, by simp [c, r1]; rfl, (lo, hi), rfl, by rw [r2, r3], by rw [r2]; exact hl⟩)
  have := list_all hy
  obtain ⟨ps, rfl, hps⟩ := this
  refine ⟨ps, ?_, hps⟩
  simp at q0 q2 q1
  simp [m_law_pairs, fnM, b_law_pairs, q0, ew, q2, q1, q3, q4]

end Bd

set_option Elab.async false
set_option linter.all false
set_option maxRecDepth 100000
set_option maxHeartbeats 4000000
namespace Bd
open PySem PySem.Spec PyProof.Rows L2
theorem law_whole (i : Int) : m_law_whole [.int i] = .ok (.bl true) := by
  simp [m_law_whole, fnM, b_law_whole]
theorem mark_like (m : List (Option Int)) (h : m.length ≤ 100000) : m_law_mark_like [mL m, mL m] = .ok (.bl true) := by
  obtain ⟨E', e, y, rfl⟩ := forM_go (g := gN 2) (b := l_law_mark_like_1)
    (fun _ E => ∃ y, E = [some (mL m), some (mL m), y]) (xs := rngD 0 m.length) (n := 0) (E := [some (mL m), some (mL m), none]) ⟨none, rfl⟩ (by
      rintro k d _ hd ⟨y, rfl⟩
      obtain ⟨hk, rfl⟩ := rngD_at hd
      have e := dIdx_mL hk
      refine ⟨_, rfl, ?_⟩
      generalize m.getD k none = x at e
      cases x with
      | none => simp at e; simp [l_law_mark_like_1, e]
      | some x => simp at e; simp [l_law_mark_like_1, e, law_whole])
  simp [m_law_mark_like, fnM, b_law_mark_like, dRng1_nat (n := m.length) (by omega), e]
def rz (x y : Option Int) : Option Int := match y with
  | none => none
  | some h => match x with
    | none => some h
    | some l => if l ≠ h then none else some h
def rL (a b : List (Option Int)) (n : Nat) : List (Option Int) := (List.range n).map fun k => rz (a.getD k none) (b.getD k none)
theorem rL_s (a b : List (Option Int)) (n : Nat) : rL a b (n + 1) = rL a b n ++ [rz (a.getD n none) (b.getD n none)] := by
  unfold rL; rw [List.range_succ, List.map_append]; rfl
theorem rL_len (a b : List (Option Int)) (n : Nat) : (rL a b n).length = n := by unfold rL; simp
theorem rL_get (a b : List (Option Int)) (n k : Nat) (h : k < n) : (rL a b n).getD k none = rz (a.getD k none) (b.getD k none) := by
  unfold rL
  rw [List.getD_eq_getElem?_getD, List.getElem?_map, List.getElem?_range h]; rfl
theorem rL_eq (a b : List (Option Int)) : rL a b b.length = b ↔ ∀ k, k < b.length → rz (a.getD k none) (b.getD k none) = b.getD k none := by
  constructor
  · intro h k hk
    rw [← rL_get a b b.length k hk, h]
  · intro h
    apply ext_getDd none (by rw [rL_len])
    intro i h1
    rw [rL_len] at h1
    rw [rL_get a b _ i h1, h i h1]
theorem raised_ok (a b : List (Option Int)) (h : a.length = b.length) (hl : a.length ≤ 1000) : m_raised [mL a, mL b] = .ok (if undM a b ∧ rL a b b.length ≠ b then mL (rL a b b.length) else .non) := by
  have q1 := under_ok a b h (by omega)
  by_cases hu : undM a b
  · obtain ⟨E', e, y, rfl⟩ := forM_go (g := gN 3) (b := l_raised_1)
      (fun n E => ∃ y, E = [some (mL a), some (mL b), some (mL (rL a b n)), y]) (xs := rngD 0 b.length) (n := 0) (E := [some (mL a), some (mL b), some (mL []), none]) ⟨none, rfl⟩ (by
        rintro k d _ hd ⟨y, rfl⟩
        obtain ⟨hk, rfl⟩ := rngD_at hd
        rw [Nat.zero_add]
        have r1 := dIdx_mL (m := a) (k := k) (by omega)
        have r2 := dIdx_mL (m := b) (k := k) hk
        have r3 := hu k (by omega)
        have l1 : (rL a b k).length < 16777216 := by rw [rL_len]; omega
        refine ⟨_, rfl, ?_⟩
        rw [rL_s]
        generalize a.getD k none = x at r1 r3
        generalize b.getD k none = z at r2 r3
        cases z with
        | none => simp at r2; simp [l_raised_1, r2, l1, rz]
        | some z =>
          cases x with
          | none => cases r3
          | some x =>
            have r3' : x ≤ z := of_decide_eq_true r3
            simp at r1 r2
            by_cases c : x < z
            · have c' : ¬ x = z := by omega
              simp [l_raised_1, r1, r2, l1, c, rz, c']
            · have c' : x = z := by omega
              subst c'
              simp [l_raised_1, r1, r2, l1, rz])
    rw [rngD_len, Nat.zero_add] at e
    have q2 := dRng1_nat (n := b.length) (by omega)
    have q3 := dEq_mL (rL a b b.length) b
    simp only [mL, List.map_nil, lst_nil] at e
    simp only [← mL.eq_1] at e
    by_cases hd : rL a b b.length = b
    · rw [if_neg (fun z => z.2 hd)]
      simp [m_raised, fnM, b_raised, q1, hu, q2, e, q3, hd]
    · rw [if_pos ⟨hu, hd⟩]
      simp [m_raised, fnM, b_raised, q1, hu, q2, e, q3, hd]
  · rw [if_neg (fun z => hu z.1)]
    simp [m_raised, fnM, b_raised, q1, hu]
def samePre (a b : List (Option Int)) (n : Nat) : Prop := ∀ k, k < n → rz (a.getD k none) (b.getD k none) = b.getD k none
theorem due_ok (a b : List (Option Int)) (h : a.length = b.length) (hl : a.length ≤ 1000) : m_law_due [mL a, mL b] = .ok (if undM a b ∧ rL a b b.length ≠ b then mL (rL a b b.length) else .non) := by
  have q1 := law_under a b h (by omega)
  obtain ⟨E', e, m, y, hm, rfl⟩ := forM_go (g := gN 4) (b := l_law_due_1)
      (fun n E => ∃ (m : Nat) (y : Option D), (m = 0 ↔ samePre a b n) ∧ E = [some (mL a), some (mL b), some (mL (rL a b n)), some (.int (m : Int)), y]) (xs := rngD 0 b.length) (n := 0) (E := [some (mL a), some (mL b), some (mL []), some (.int 0), none]) ⟨0, none, ⟨fun _ k hk => absurd hk (Nat.not_lt_zero k), fun _ => rfl⟩, rfl⟩ (by
        rintro k d _ hd ⟨m, y, hm, rfl⟩
        obtain ⟨hk, rfl⟩ := rngD_at hd
        rw [Nat.zero_add] at hm ⊢
        have r1 := dIdx_mL (m := a) (k := k) (by omega)
        have r2 := dIdx_mL (m := b) (k := k) hk
        have l1 : (rL a b k).length < 16777216 := by rw [rL_len]; omega
        have hs : samePre a b (k + 1) ↔ (m = 0 ∧ rz (a.getD k none) (b.getD k none) = b.getD k none) := by
          rw [hm]
          constructor
          · intro q; exact ⟨fun j hj => q j (by omega), q k (by omega)⟩
          · rintro ⟨q1, q2⟩ j hj
            by_cases hjk : j = k
            · subst hjk; exact q2
            · exact q1 j (by omega)
        have l2 := ixN_nat (n := (rL a b k).length + 1) (k := k) (by rw [rL_len]; omega)
        have l3 : ∀ x y : Option Int, (rL a b k ++ [x]).set k y = rL a b k ++ [y] := fun x y => by
          have := rL_len a b k
          rw [List.set_append_right _ _ (by omega), this, Nat.sub_self]; rfl
        refine ⟨_, rfl, ?_⟩
        rw [rL_s]
        generalize rL a b k = made at *
        generalize a.getD k none = x at *
        generalize b.getD k none = z at *
        have mk : ∀ x : Option Int, D.lst ((made.map oD ++ [oD x]).set k .non) = mL (made ++ [none]) := fun x => by
          rw [show made.map oD ++ [oD x] = (made ++ [x]).map oD by rw [List.map_append]; rfl, show D.non = oD none from rfl, ← List.map_set, l3]; rfl
        cases z with
        | none =>
          simp at r2
          simp [l_law_due_1, r2, l1, rz, hs]
          exact ⟨m, Iff.rfl, rfl⟩
        | some z =>
          simp at r2
          cases x with
          | none =>
            simp at r1
            simp [l_law_due_1, r1, r2, l1, rz, hs]
            exact ⟨m, Iff.rfl, rfl⟩
          | some x =>
            simp at r1
            by_cases c : x = z
            · subst c
              simp [l_law_due_1, r1, r2, l1, rz, hs]
              exact ⟨m, Iff.rfl, rfl⟩
            · have := mk (some z)
              simp at this
              simp [l_law_due_1, r1, r2, l1, l2, rz, hs, c, this]
              exact ⟨m, rfl⟩)
  rw [rngD_len, Nat.zero_add] at e hm
  unfold samePre at hm
  rw [← rL_eq] at hm
  have q2 := dRng1_nat (n := b.length) (by omega)
  simp only [mL, List.map_nil, lst_nil] at e
  simp only [← mL.eq_1] at e
  by_cases hd : rL a b b.length = b
  · rw [if_neg (fun z => z.2 hd)]
    have : m = 0 := hm.mpr hd
    subst this
    simp [m_law_due, fnM, b_law_due, q2, e]
  · have : ¬ m = 0 := fun z => hd (hm.mp z)
    by_cases hu : undM a b
    · rw [if_pos ⟨hu, hd⟩]
      simp [m_law_due, fnM, b_law_due, q1, hu, q2, e, this]
    · rw [if_neg (fun z => hu z.1)]
      simp [m_law_due, fnM, b_law_due, q1, hu, q2, e, this]
theorem dIs_mL {m : List (Option Int)} : dIs (mL m) .non = .ok (.bl false) := rfl
theorem asked (a b : List (Option Int)) (h : a.length = b.length) (hl : a.length ≤ 1000) : m_law_asked [mL a, mL b] = .ok (.bl true) := by
  have q1 : dIdx (.lst [mL a, mL b]) (.int 0) = .ok (mL a) := dIdx_nat (k := 0) rfl
  have q2 : dIdx (.lst [mL a, mL b]) (.int 1) = .ok (mL b) := dIdx_nat (k := 1) rfl
  have q3 := dNe_mLs [a, b] [a, b]
  have q4 := raised_ok a b h hl
  have q5 := due_ok a b h hl
  have q6 := mark_like (rL a b b.length) (by rw [rL_len]; omega)
  simp at q3
  by_cases hc : undM a b ∧ rL a b b.length ≠ b
  · rw [if_pos hc] at q4 q5
    simp [m_law_asked, fnM, b_law_asked, q1, q2, q3, q4, q5, q6, dIs_mL]
  · rw [if_neg hc] at q4 q5
    simp [m_law_asked, fnM, b_law_asked, q1, q2, q3, q4, q5]
theorem law_true (ns : List Int) (h : ns.length ≤ 63) : m_law [iL ns] = .ok (.bl true) := by
  obtain ⟨ps, q, hp⟩ := law_pairs ns h
  obtain ⟨E', e, _⟩ := forM_go (g := gN 1) (b := l_law_1) (fun n E => ∃ (x1 : Option D), E = [some (iL ns), x1]) (xs := ps.map pairD) (n := 0) (E := [some (iL ns), none])
    ⟨none, rfl⟩ (by
      rintro k d _ hd ⟨x1, rfl⟩
      rw [List.getElem?_map] at hd
      obtain ⟨p, hb1, rfl⟩ := Option.map_eq_some_iff.mp hd
      obtain ⟨h1, h2⟩ := hp p (List.mem_of_getElem? hb1)
      obtain ⟨a, b⟩ := p
      dsimp only at h1 h2
      have q1 : dIdx (pairD (a, b)) (.int 0) = .ok (mL a) := dIdxT_nat (k := 0) rfl
      have q2 : dIdx (pairD (a, b)) (.int 1) = .ok (mL b) := dIdxT_nat (k := 1) rfl
      refine ⟨_, rfl, ?_⟩
      simp [l_law_1, q1, q2, asked a b h1 h2, asked b a h1.symm (by omega), asked a a rfl h2])
  simp [m_law, fnM, b_law, q, e]

end Bd

set_option Elab.async false
set_option linter.all false
set_option maxRecDepth 100000
set_option maxHeartbeats 4000000

open PySem PySem.W PyProof.Rows
set_option maxRecDepth 100000 in
set_option maxHeartbeats 0 in
theorem PySem.Challenge.cw_beadhall_k52_raised_holds : PySem.Challenge.rw_beadhall_k52_raised.Holds := by
  w_on; o_law; k_head; (case hw => w_witness2)
  k_fill
  refine L2.walk_of (l := PySem.Challenge.rw_beadhall_k52_raised) (n := 63) (k := 4) (x := "script") (CX := fun w => L2.CX PySem.Challenge.rw_beadhall_k52_raised.prog w) (sp := fun w => Bd.spLaw _) rfl (by decide) rfl ⟨rfl, by decide, by decide⟩ (fun w h Y => PySem.W.kIn_of Y) ?F (fun _ _ a ns hl _ hS => ⟨a, ns, rfl, hS, hl, fun _ => rfl⟩) (fun _ _ _ _ _ h => Bd.noCX h)
  case F =>
    intro w mg fa h KX G hmg
    refine' Bd.all_mk Bd.law_true KX G hmg ?a0 ?l0 ?c0 ?k0 ?a1 ?l1 ?c1 ?k1 ?a2 ?l2 ?c2 ?k2 ?a3 ?l3 ?c3 ?k3 ?a4 ?l4 ?c4 ?k4 ?a5 ?l5 ?c5 ?k5 ?a6 ?l6 ?c6 ?k6 ?a7 ?l7 ?c7 ?k7 ?a8 ?l8 ?c8 ?k8 ?a9 ?l9 ?c9 ?k9 ?a10 ?l10 ?c10 ?k10 ?z_bool ?z_int ?z_isinstance ?z_len ?z_list ?z_range
    (case a0 => (k_is)); (case l0 => (k_is)); (case c0 => (k_is)); (case k0 => (k_is)); (case a1 => (k_is)); (case l1 => (k_is)); (case c1 => (k_is)); (case k1 => (k_is)); (case a2 => (k_is)); (case l2 => (k_is)); (case c2 => (k_is)); (case k2 => (k_is)); (case a3 => (k_is)); (case l3 => (k_is)); (case c3 => (k_is)); (case k3 => (k_is)); (case a4 => (k_is)); (case l4 => (k_is)); (case c4 => (k_is)); (case k4 => (k_is)); (case a5 => (k_is)); (case l5 => (k_is)); (case c5 => (k_is)); (case k5 => (k_is)); (case a6 => (k_is)); (case l6 => (k_is)); (case c6 => (k_is)); (case k6 => (k_is)); (case a7 => (k_is)); (case l7 => (k_is)); (case c7 => (k_is)); (case k7 => (k_is)); (case a8 => (k_is)); (case l8 => (k_is)); (case c8 => (k_is)); (case k8 => (k_is)); (case a9 => (k_is)); (case l9 => (k_is)); (case c9 => (k_is)); (case k9 => (k_is)); (case a10 => (k_is)); (case l10 => (k_is)); (case c10 => (k_is)); (case k10 => (k_is)); (case z_bool => (k_is)); (case z_int => (k_is)); (case z_isinstance => (k_is)); (case z_len => (k_is)); (case z_list => (k_is)); (case z_range => (k_is))


