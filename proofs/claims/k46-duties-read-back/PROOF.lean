import PyProof.Rows.All
import Wide.All
import OpenK.AllK
import Wide.FinOn
import KE.KStateDown
import HandS.ForMost
import HandS.ForExc
import HandS.IsInst
import HandS.FStr
import HandS.TupLe
import HandS.StrMore
import HandS.Defaults
import HandS.Head0
import HandS.Head1
import HandS.Head2
import HandS.HeadEnd
import HandS.HeadHook1
import HandS.HeadHook2
import HandS.HeadHook4
import HandS.TryOnly
import HandS.TryMany
import HandS.ExcIs
import PyProof.StrBlock2
import HandS.Dict
import HandS.More
import HandS.WordsDict
import HandS.Iter
import HandS.HotCalls
import PyProof.WalkInts
import KE.IntTextLaws
import HandS.NoneIn
import HandS.Strs
import PyProof.Rows.SeqMore
import HandS.SortRule
import HandS.List
import HandS.Remove
import HandS.Deep
import HandS.Walk
import KE.DataFind
import HandS.TupAny
import HandS.RaiseMore
import HandS.Text
import HandS.Codes
import HandS.Conv
import HandS.DictTup
import PyProof.DictMoreH
import PySem.Challenge.RW_lethe_k46_duties_read_back
set_option Elab.async false
set_option linter.all false
set_option maxRecDepth 100000
set_option maxHeartbeats 0
/-! LK: a program's def and its plain mirror, walked in lockstep. Judgements FE (an expression), FT (a test), FX (an expression that changes things), FS (a block): each says that the code does what the mirror (a plain function with errors) says. -/
namespace LK
open PySem L2
/-! ### the mirror's outcomes -/
inductive Er where
  | notAllowed | badForm | full | missing | twice | down
  deriving DecidableEq
def Er.name : Er → Str
  | .notAllowed => "NotAllowed"
  | .badForm => "BadForm"
  | .full => "Full"
  | .missing => "Missing"
  | .twice => "Twice"
  | .down => "Down"
/-- none: the walk has no word for it (a size, a place out of range, fuel); some (error e): e is raised, with what is known then -/
abbrev Mg (ε α : Type) : Type := Option (Except ε α)
abbrev M (α : Type) : Type := Mg Er α
def Mg.bindP {ε1 ε α β : Type} (p : ε1 → ε) (m : Mg ε1 α) (f : α → Mg ε β) : Mg ε β := match m with
  | none => none
  | some (.error e) => some (.error (p e))
  | some (.ok a) => f a
abbrev Mg.bind {ε α β : Type} (m : Mg ε α) (f : α → Mg ε β) : Mg ε β := Mg.bindP (fun e => e) m f
namespace M
abbrev ok {ε α : Type} (a : α) : Mg ε α := some (.ok a)
abbrev err {ε α : Type} (e : ε) : Mg ε α := some (.error e)
def need {ε α : Type} (c : Prop) [Decidable c] (m : Mg ε α) : Mg ε α := if c then m else none
theorem bind_ok {ε α β : Type} (a : α) (f : α → Mg ε β) : (M.ok a).bind f = f a := rfl
theorem bind_err {ε α β : Type} (e : ε) (f : α → Mg ε β) : (M.err e).bind f = M.err e := rfl
theorem bind_none {ε α β : Type} (f : α → Mg ε β) : Mg.bind none f = none := rfl
theorem bind_assoc {ε α β γ : Type} (m : Mg ε α) (f : α → Mg ε β) (g : β → Mg ε γ) : (m.bind f).bind g = m.bind fun a => (f a).bind g := by
  cases m with
  | none => rfl
  | some r => cases r <;> rfl
theorem need_pos {ε α : Type} {c : Prop} [Decidable c] {m : Mg ε α} (h : c) : need c m = m := if_pos h
theorem need_ne {ε α : Type} {c : Prop} [Decidable c] {m : Mg ε α} (h : need c m ≠ none) : c ∧ need c m = m := by
  by_cases hc : c
  · exact ⟨hc, if_pos hc⟩
  · exact absurd (if_neg hc) h
theorem ok_inj {ε α : Type} {a b : α} (h : (M.ok a : Mg ε α) = M.ok b) : a = b := by
  injection h with h
  injection h
end M
/-! ### heaps: F the frozen part, H all -/
def Ex (H H' : Hp) : Prop := ∀ a o, H a = some o → H' a = some o
theorem Ex.refl (H : Hp) : Ex H H := fun _ _ h => h
theorem Ex.trans {H H1 H2 : Hp} (a : Ex H H1) (b : Ex H1 H2) : Ex H H2 := fun x o h => b x o (a x o h)
theorem Ex.new {H : Hp} {p : Addr} {o : HO} (h : H p = none) : Ex H (upd H p o) := fun a u e => by
  rw [upd_ne (ne_of_none e h)]
  exact e
theorem Ex.mut {H H' : Hp} {p : Addr} {o : HO} (e : Ex H H') (h : H p = none) : Ex H (upd H' p o) := fun a u ha => by
  rw [upd_ne (ne_of_none ha h)]
  exact e a u ha
theorem Ex.both {H H' : Hp} {p : Addr} {o : HO} (e : Ex H H') : Ex (upd H p o) (upd H' p o) := fun a u ha => by
  by_cases h : a = p
  · subst h
    rw [upd_same] at ha ⊢
    exact ha
  · rw [upd_ne h] at ha ⊢
    exact e a u ha
theorem Ex.ne {H H' : Hp} (e : Ex H H') {a : Addr} (h : H a ≠ none) : H' a ≠ none := by
  cases q : H a with
  | none => exact absurd q h
  | some o => rw [e a o q]; exact fun z => by cases z
theorem Ex.free {H H' : Hp} (e : Ex H H') {a : Addr} (h : H' a = none) : H a = none := by
  cases q : H a with
  | none => rfl
  | some o => rw [e a o q] at h; cases h
/-- what is known stays known -/
def Kn (H H' : Hp) : Prop := ∀ a, H a ≠ none → H' a ≠ none
theorem Kn.free {H H' : Hp} (k : Kn H H') {a : Addr} (h : H' a = none) : H a = none := by
  cases q : H a with
  | none => rfl
  | some o => exact absurd h (k a (by rw [q]; exact fun z => by cases z))
theorem Kn.refl (H : Hp) : Kn H H := fun _ h => h
theorem Kn.trans {H H1 H2 : Hp} (a : Kn H H1) (b : Kn H1 H2) : Kn H H2 := fun x h => b x (a x h)
theorem Ex.kn {H H' : Hp} (e : Ex H H') : Kn H H' := fun _ h => e.ne h
/-- the same but for dicts that are locked or open -/
def Dly : HO → Prop
  | .dK _ => True
  | .dT _ => True
  | _ => False
def XS (F F' : Hp) : Prop := ∀ a o, F a = some o → F' a = some o ∨ ∃ u, Dly u ∧ (o = u ∨ ∃ q, o = .frz q u) ∧ (F' a = some u ∨ ∃ q, F' a = some (.frz q u))
theorem Ex.xs {F F' : Hp} (e : Ex F F') : XS F F' := fun a o h => .inl (e a o h)
theorem XS.refl (F : Hp) : XS F F := (Ex.refl F).xs
theorem XS.trans {F F1 F2 : Hp} (a : XS F F1) (b : XS F1 F2) : XS F F2 := fun x o h => by
  rcases a x o h with h1 | ⟨u, hu, ho, h1⟩
  · exact b x o h1
  · refine .inr ⟨u, hu, ho, ?_⟩
    have key : ∀ o', F1 x = some o' → (o' = u ∨ ∃ q, o' = .frz q u) → F2 x = some u ∨ ∃ q, F2 x = some (.frz q u) := fun o' h2 h3 => by
      rcases b x o' h2 with h4 | ⟨u', hu', ho', h4⟩
      · rcases h3 with rfl | ⟨q, rfl⟩
        · exact .inl h4
        · exact .inr ⟨q, h4⟩
      · have : u' = u := by
          rcases h3 with rfl | ⟨q, rfl⟩
          · rcases ho' with rfl | ⟨q, rfl⟩
            · rfl
            · exact hu.elim
          · rcases ho' with rfl | ⟨q', e⟩
            · exact hu'.elim
            · cases e; rfl
        subst this
        exact h4
    rcases h1 with h1 | ⟨q, h1⟩
    · exact key u h1 (.inl rfl)
    · exact key _ h1 (.inr ⟨q, rfl⟩)
theorem Rd.xs {F F' : Hp} {a : Addr} {u : HO} (e : XS F F') (h : Rd F a u) (hu : ∀ q w, u ≠ .frz q w) : Rd F' a u := by
  rcases h with h | ⟨o, h⟩
  · rcases e a _ h with q | ⟨w, hw, ho, q⟩
    · exact .inl q
    · rcases ho with rfl | ⟨z, rfl⟩
      · exact q
      · exact absurd rfl (hu z w)
  · rcases e a _ h with q | ⟨w, hw, ho, q⟩
    · exact .inr ⟨o, q⟩
    · rcases ho with rfl | ⟨z, e⟩
      · exact hw.elim
      · cases e
        exact q
theorem Rd.ex {H H' : Hp} {a : Addr} {u : HO} (e : Ex H H') (h : Rd H a u) : Rd H' a u := by
  rcases h with h | ⟨o, h⟩
  · exact Or.inl (e a _ h)
  · exact Or.inr ⟨o, e a _ h⟩
theorem sqL_xs {K : PySem.W.Frag} {H H' : Hp} {a : Addr} {xs : List V} (e : XS H H') (h : SqL K H a xs) : SqL K H' a xs := by
  rcases h with h | h
  · exact Or.inl (Rd.xs e h fun _ _ z => nomatch z)
  · exact Or.inr h
theorem sqT_xs {K : PySem.W.Frag} {H H' : Hp} {a : Addr} {xs : List V} (e : XS H H') (h : SqT K H a xs) : SqT K H' a xs := by
  rcases h with h | h
  · exact Or.inl (Rd.xs e h fun _ _ z => nomatch z)
  · exact Or.inr h
theorem sqL_ex {K : PySem.W.Frag} {H H' : Hp} {a : Addr} {xs : List V} (e : Ex H H') (h : SqL K H a xs) : SqL K H' a xs := sqL_xs e.xs h
theorem sqT_ex {K : PySem.W.Frag} {H H' : Hp} {a : Addr} {xs : List V} (e : Ex H H') (h : SqT K H a xs) : SqT K H' a xs := sqT_xs e.xs h
theorem ins_xs {F F' : Hp} {a C dx : Addr} {fs : List (Str × V)} (e : XS F F') (h : F a = some (.ins C dx fs)) : F' a = some (.ins C dx fs) := by
  rcases e a _ h with q | ⟨w, hw, ho, q⟩
  · exact q
  · rcases ho with rfl | ⟨z, e⟩
    · exact hw.elim
    · cases e
/-- known, and no tuple (a tuple never changes: it may be frozen at any time) -/
def NT (H : Hp) (a : Addr) : Prop := ∃ o, H a = some o ∧ ∀ xs, o ≠ .tup xs
theorem NT.ne {H : Hp} {a : Addr} (h : NT H a) : H a ≠ none := by
  obtain ⟨o, e, _⟩ := h
  rw [e]
  exact fun z => nomatch z
theorem NT.of {H : Hp} {a : Addr} {o : HO} (h : H a = some o) (n : ∀ xs, o ≠ .tup xs := by intro _ z; cases z) : NT H a := ⟨o, h, n⟩
theorem NT.up {H : Hp} {a : Addr} {o : HO} (n : ∀ xs, o ≠ .tup xs := by intro _ z; cases z) : NT (upd H a o) a := ⟨o, upd_same, n⟩
theorem NT.ex {H H' : Hp} {a : Addr} (h : NT H a) (e : Ex H H') : NT H' a := by
  obtain ⟨o, h1, h2⟩ := h
  exact ⟨o, e a o h1, h2⟩
theorem NT.un {H : Hp} {a b : Addr} {o : HO} (h : NT H a) (n : a ≠ b) : NT (upd H b o) a := by
  obtain ⟨u, h1, h2⟩ := h
  exact ⟨u, by rw [upd_ne n]; exact h1, h2⟩
theorem Ex.nt {H H' : Hp} (e : Ex H H') {a : Addr} (h : NT H a) : NT H' a := h.ex e
/-- pure growth: nothing that was known has changed, nothing that was mutable is frozen -/
structure Gr (F H F' H' : Hp) : Prop where
  f : Ex F F'
  h : Ex H H'
  fh : Ex F' H'
  no : ∀ a, F a = none → NT H a → F' a = none
theorem Gr.refl {F H : Hp} (e : Ex F H) : Gr F H F H := ⟨Ex.refl F, Ex.refl H, e, fun _ h _ => h⟩
theorem Gr.trans {F H F1 H1 F2 H2 : Hp} (a : Gr F H F1 H1) (b : Gr F1 H1 F2 H2) : Gr F H F2 H2 :=
  ⟨a.f.trans b.f, a.h.trans b.h, b.fh, fun x h1 h2 => b.no x (a.no x h1 h2) (a.h.nt h2)⟩
/-- a new frozen object -/
theorem Gr.newF {F H : Hp} {p : Addr} {o : HO} (e : Ex F H) (hp : H p = none) : Gr F H (upd F p o) (upd H p o) :=
  ⟨Ex.new (e.free hp), Ex.new hp, e.both, fun a h1 h2 => by
    rw [upd_ne (fun z => h2.ne (by rw [z]; exact hp))]
    exact h1⟩
/-- a new object that may change -/
theorem Gr.newM {F H : Hp} {p : Addr} {o : HO} (e : Ex F H) (hp : H p = none) : Gr F H F (upd H p o) :=
  ⟨Ex.refl F, Ex.new hp, e.mut (e.free hp), fun a h1 _ => h1⟩
/-- growth but for the objects at X -/
structure GrX (X : List Addr) (F H F' H' : Hp) : Prop where
  f : Ex F F'
  h : ∀ a o, a ∉ X → H a = some o → H' a = some o
  fh : Ex F' H'
  no : ∀ a, F a = none → NT H a → F' a = none
  st : ∀ a, H a ≠ none → H' a ≠ none
  nt : ∀ a, NT H a → NT H' a
theorem Gr.x {F H F' H' : Hp} (g : Gr F H F' H') (X : List Addr) : GrX X F H F' H' := ⟨g.f, fun a o _ e => g.h a o e, g.fh, g.no, fun a e => g.h.ne e, fun a e => g.h.nt e⟩
theorem GrX.gr {F H F' H' : Hp} (g : GrX [] F H F' H') : Gr F H F' H' := ⟨g.f, fun a o e => g.h a o (by simp) e, g.fh, g.no⟩
theorem GrX.trans {X : List Addr} {F H F1 H1 F2 H2 : Hp} (a : GrX X F H F1 H1) (b : GrX X F1 H1 F2 H2) : GrX X F H F2 H2 :=
  ⟨a.f.trans b.f, fun x o hx e => b.h x o hx (a.h x o hx e), b.fh, fun x h1 h2 => b.no x (a.no x h1 h2) (a.nt x h2), fun x e => b.st x (a.st x e), fun x e => b.nt x (a.nt x e)⟩
theorem GrX.mono {X Y : List Addr} {F H F' H' : Hp} (g : GrX X F H F' H') (h : ∀ a ∈ X, a ∈ Y) : GrX Y F H F' H' :=
  ⟨g.f, fun a o hx e => g.h a o (fun z => hx (h a z)) e, g.fh, g.no, g.st, g.nt⟩
theorem GrX.into {X Y : List Addr} {F0 H0 F H F' H' : Hp} (a : GrX X F0 H0 F H) (g : GrX Y F H F' H') (h : ∀ x ∈ Y, H0 x = none ∨ x ∈ X) : GrX X F0 H0 F' H' :=
  ⟨a.f.trans g.f, fun x o hx e => g.h x o (fun hy => by
    rcases h x hy with z | z
    · rw [z] at e; cases e
    · exact hx z) (a.h x o hx e), g.fh, fun x h1 h2 => g.no x (a.no x h1 h2) (a.nt x h2), fun x e => g.st x (a.st x e), fun x e => g.nt x (a.nt x e)⟩
theorem GrX.of_gr {Y : List Addr} {F0 H0 F H F' H' : Hp} (a : GrX Y F0 H0 F H) (g : Gr F H F' H') : GrX Y F0 H0 F' H' := a.trans (g.x Y)
/-- one address is written -/
theorem GrX.at {F H : Hp} {p : Addr} {o : HO} (x : Ex F H) (hF : F p = none) (n : ∀ xs, o ≠ .tup xs := by intro _ z; cases z) : GrX [p] F H F (upd H p o) :=
  ⟨Ex.refl F, fun a u ha e => by rw [upd_ne (fun q => ha (by rw [q]; simp))]; exact e, x.mut hF, fun a h1 _ => h1, fun a h => by
    by_cases q : a = p
    · rw [q, upd_same]; exact fun z => nomatch z
    · rw [upd_ne q]; exact h, fun a h => by
    by_cases q : a = p
    · rw [q]; exact NT.up n
    · obtain ⟨u, h1, h2⟩ := h
      exact ⟨u, by rw [upd_ne q]; exact h1, h2⟩⟩

/-! ### how data stand in the heap -/
/-- frozen data: a text, a number, a tuple, a list that nobody changes -/
structure Rf (α : Type) where
  r : α → Hp → V → Prop
  sx : ∀ {a F v F'}, r a F v → XS F F' → r a F' v
theorem Rf.st {α : Type} (R : Rf α) {a : α} {F : Hp} {v : V} {F' : Hp} (h : R.r a F v) (e : Ex F F') : R.r a F' v := R.sx h e.xs
/-- what an expression hands on: H0 the heap ahead of it, F and H behind it -/
structure Rl (α : Type) where
  r : α → Hp → Hp → Hp → V → Prop
  st : ∀ {a H0 F H v F' H'}, r a H0 F H v → Gr F H F' H' → r a H0 F' H' v
  pre : ∀ {a H0 H1 F H v}, r a H1 F H v → Kn H0 H1 → r a H0 F H v
def Rf.up {α : Type} (R : Rf α) : Rl α := ⟨fun a _ F _ v => R.r a F v, fun h g => R.st h g.f, fun h _ => h⟩
def S (l : List Nat) : Str := ⟨l.toArray⟩
theorem S_cps (l : List Nat) : (S l).cps.toList = l := by simp [S]
theorem S_len (l : List Nat) : (S l).length = l.length := by simp [S, Str.length]
theorem S_of (x : Str) : S x.cps.toList = x := by
  obtain ⟨a⟩ := x
  simp [S]
theorem S_inj {a b : List Nat} (h : S a = S b) : a = b := by
  have := congrArg (fun x : Str => x.cps.toList) h
  simpa [S] using this
def fInt : Rf Int := ⟨fun i _ v => v = .int i, fun h _ => h⟩
def fBool : Rf Bool := ⟨fun b _ v => v = .bl b, fun h _ => h⟩
/-- a text that may be: not too long, signs that are signs -/
def tOkB (l : List Nat) : Bool := decide (l.length ≤ sizeLine) && l.all fun c => decide (c < 1114112)
abbrev tOk (l : List Nat) : Prop := tOkB l = true
theorem tOk.len {l : List Nat} (h : tOk l) : l.length ≤ sizeLine := of_decide_eq_true (Bool.and_eq_true_iff.mp h).1
theorem tOk.all {l : List Nat} (h : tOk l) : ∀ c ∈ l, c < 1114112 := fun c hc => of_decide_eq_true (List.all_eq_true.mp (Bool.and_eq_true_iff.mp h).2 c hc)
theorem tOk.mk {l : List Nat} (h : l.length ≤ sizeLine) (k : ∀ c ∈ l, c < 1114112) : tOk l := Bool.and_eq_true_iff.mpr ⟨decide_eq_true h, List.all_eq_true.mpr fun c hc => decide_eq_true (k c hc)⟩
theorem tOk.sub {l m : List Nat} (h : tOk l) (hl : m.length ≤ l.length) (k : ∀ c ∈ m, c ∈ l) : tOk m := tOk.mk (Nat.le_trans hl h.len) fun c hc => h.all c (k c hc)
def fTxt : Rf (List Nat) := ⟨fun l _ v => v = .str (S l) ∧ tOk l, fun h _ => h⟩
def fUnit : Rf Unit := ⟨fun _ _ v => v = .non, fun h _ => h⟩
/-- a value itself -/
def fVal : Rf V := ⟨fun q _ v => v = q, fun h _ => h⟩
def fOpt {α : Type} (A : Rf α) : Rf (Option α) := ⟨fun o F v => match o with
  | none => v = .non
  | some a => A.r a F v ∧ v ≠ .non, fun {a} => by
    cases a with
    | none => exact fun h _ => h
    | some a => exact fun h e => ⟨A.sx h.1 e, h.2⟩⟩
/-- item by item -/
inductive Pw {α : Type} (R : α → V → Prop) : List α → List V → Prop where
  | nil : Pw R [] []
  | cons {a v as vs} : R a v → Pw R as vs → Pw R (a :: as) (v :: vs)
theorem Pw.imp {α : Type} {R R' : α → V → Prop} (f : ∀ a v, R a v → R' a v) : ∀ {as vs}, Pw R as vs → Pw R' as vs
  | _, _, .nil => .nil
  | _, _, .cons h t => .cons (f _ _ h) (t.imp f)
theorem Pw.len {α : Type} {R : α → V → Prop} : ∀ {as vs}, Pw R as vs → as.length = vs.length
  | _, _, .nil => rfl
  | _, _, .cons _ t => congrArg (· + 1) t.len
theorem Pw.app {α : Type} {R : α → V → Prop} : ∀ {as vs bs ws}, Pw R as vs → Pw R bs ws → Pw R (as ++ bs) (vs ++ ws)
  | _, _, _, _, .nil, h => h
  | _, _, _, _, .cons h t, q => .cons h (t.app q)
theorem Pw.snoc {α : Type} {R : α → V → Prop} {as vs a v} (h : Pw R as vs) (q : R a v) : Pw R (as ++ [a]) (vs ++ [v]) := h.app (.cons q .nil)
theorem Pw.get {α : Type} {R : α → V → Prop} : ∀ {as : List α} {vs : List V}, Pw R as vs → ∀ {i : Nat} {a : α}, as[i]? = some a → ∃ v, vs[i]? = some v ∧ R a v
  | _, _, .nil, i, a, h => by simp at h
  | _, _, .cons h _, 0, a, e => by
    simp at e
    subst e
    exact ⟨_, rfl, h⟩
  | _, _, .cons _ t, i + 1, a, e => by
    obtain ⟨v, h1, h2⟩ := t.get (i := i) (a := a) (by simpa using e)
    exact ⟨v, by simpa using h1, h2⟩
theorem Pw.getV {α : Type} {R : α → V → Prop} : ∀ {as : List α} {vs : List V}, Pw R as vs → ∀ {i : Nat} {v : V}, vs[i]? = some v → ∃ a, as[i]? = some a ∧ R a v
  | _, _, .nil, i, a, h => by simp at h
  | _, _, .cons h _, 0, a, e => by
    simp at e
    subst e
    exact ⟨_, rfl, h⟩
  | _, _, .cons _ t, i + 1, a, e => by
    obtain ⟨v, h1, h2⟩ := t.getV (i := i) (v := a) (by simpa using e)
    exact ⟨v, by simpa using h1, h2⟩
theorem Pw.take {α : Type} {R : α → V → Prop} : ∀ {as : List α} {vs : List V} (n : Nat), Pw R as vs → Pw R (as.take n) (vs.take n)
  | _, _, 0, _ => .nil
  | _, _, _ + 1, .nil => .nil
  | _, _, n + 1, .cons h t => .cons h (t.take n)
theorem Pw.drop {α : Type} {R : α → V → Prop} : ∀ {as : List α} {vs : List V} (n : Nat), Pw R as vs → Pw R (as.drop n) (vs.drop n)
  | _, _, 0, h => h
  | _, _, _ + 1, .nil => .nil
  | _, _, n + 1, .cons _ t => t.drop n
theorem Pw.set {α : Type} {R : α → V → Prop} {a : α} {v : V} (q : R a v) : ∀ {as : List α} {vs : List V} (i : Nat), Pw R as vs → Pw R (as.set i a) (vs.set i v)
  | _, _, _, .nil => .nil
  | _, _, 0, .cons h t => .cons q t
  | _, _, i + 1, .cons h t => .cons h (t.set q i)
/-- the items of a tuple -/
structure Tv (α : Type) where
  r : α → Hp → List V → Prop
  sx : ∀ {a F v F'}, r a F v → XS F F' → r a F' v
theorem Tv.st {α : Type} (T : Tv α) {a : α} {F : Hp} {v : List V} {F' : Hp} (h : T.r a F v) (e : Ex F F') : T.r a F' v := T.sx h e.xs
def tv0 : Tv Unit := ⟨fun _ _ vs => vs = [], fun h _ => h⟩
def tv1 {α : Type} (A : Rf α) : Tv α := ⟨fun a F vs => ∃ x, vs = [x] ∧ A.r a F x, fun ⟨x, e, h⟩ q => ⟨x, e, A.sx h q⟩⟩
def tvc {α β : Type} (A : Rf α) (T : Tv β) : Tv (α × β) := ⟨fun a F vs => ∃ x r, vs = x :: r ∧ A.r a.1 F x ∧ T.r a.2 F r, fun ⟨x, r, e, h, t⟩ q => ⟨x, r, e, A.sx h q, T.sx t q⟩⟩
section
variable (K : PySem.W.Frag)
def fTup {α : Type} (T : Tv α) : Rf α := ⟨fun a F v => ∃ p vs, v = .ref p ∧ SqT K F p vs ∧ T.r a F vs, fun ⟨p, vs, e, h, q⟩ x => ⟨p, vs, e, sqT_xs x h, T.sx q x⟩⟩
end
/-! ### things: what may be read, what may be owned -/
/-- rd: a stands at v, to be read in the heap X, what is frozen in F; ow: it is one's own, its objects at ms -/
structure Th (α : Type) where
  rd : α → Hp → Hp → V → Prop
  ow : α → Hp → Hp → V → List Addr → Prop
  rst : ∀ {a F X v F' X'}, rd a F X v → XS F F' → XS X X' → rd a F' X' v
  ost : ∀ {a F H v ms F' H'}, ow a F H v ms → XS F F' → (∀ x ∈ ms, ∀ o, H x = some o → H' x = some o) → ow a F' H' v ms
  ord : ∀ {a F H v ms X}, ow a F H v ms → (∀ x ∈ ms, ∀ o, H x = some o → X x = some o) → Ex F X → rd a F X v
/-- frozen data as a thing -/
def tF {α : Type} (A : Rf α) : Th α := ⟨fun a F _ v => A.r a F v, fun a F _ v ms => A.r a F v ∧ ms = [], fun h x _ => A.sx h x, fun h x _ => ⟨A.sx h.1 x, h.2⟩, fun h _ _ => h.1⟩
/-- a list of frozen things -/
def tL (K : PySem.W.Frag) {α : Type} (A : Rf α) : Th (List α) := ⟨fun as F X v => ∃ p vs, v = .ref p ∧ SqL K X p vs ∧ Pw (fun a x => A.r a F x) as vs,
  fun as F H v ms => ∃ p vs, v = .ref p ∧ H p = some (.lst vs) ∧ Pw (fun a x => A.r a F x) as vs ∧ ms = [p],
  fun ⟨p, vs, e, h, q⟩ x y => ⟨p, vs, e, sqL_xs y h, q.imp fun _ _ z => A.sx z x⟩,
  fun ⟨p, vs, e, h, q, m⟩ x k => ⟨p, vs, e, k p (by rw [m]; simp) _ h, q.imp fun _ _ z => A.sx z x, m⟩,
  fun ⟨p, vs, e, h, q, m⟩ k _ => ⟨p, vs, e, .inl (.inl (k p (by rw [m]; simp) _ h)), q⟩⟩
/-- a thing that is frozen -/
def fz {α : Type} (T : Th α) : Rf α := ⟨fun a F v => T.rd a F F v, fun h x => T.rst h x x⟩
abbrev fLst (K : PySem.W.Frag) {α : Type} (A : Rf α) : Rf (List α) := fz (tL K A)
/-- a thing to be read now -/
def nw {α : Type} (T : Th α) : Rl α := ⟨fun a _ F H v => T.rd a F H v, fun h g => T.rst h g.f.xs g.h.xs, fun h _ => h⟩
/-- a value that is known -/
def rV (v0 : V) : Rl Unit := ⟨fun _ _ _ _ v => v = v0, fun h _ => h, fun h _ => h⟩
abbrev bLst (K : PySem.W.Frag) {α : Type} (A : Rf α) : Rl (List α) := nw (tL K A)
/-- one's own, and new -/
def ro {α : Type} (T : Th α) : Rl α := ⟨fun a H0 F H v => ∃ ms, T.ow a F H v ms ∧ ∀ x ∈ ms, H0 x = none ∧ F x = none ∧ NT H x,
  fun ⟨ms, h, k⟩ g => ⟨ms, T.ost h g.f.xs fun x _ o e => g.h x o e, fun x hx => ⟨(k x hx).1, g.no x (k x hx).2.1 (k x hx).2.2, g.h.nt (k x hx).2.2⟩⟩,
  fun ⟨ms, h, k⟩ e => ⟨ms, h, fun x hx => ⟨e.free (k x hx).1, (k x hx).2⟩⟩⟩
/-- a slot's content: Y the heap that is only read, F, H, the value, the addresses of what may change in it -/
structure Sl where
  r : Hp → Hp → Hp → V → List Addr → Prop
  own : Bool
  no : ∀ {Y F H v ms}, own = false → r Y F H v ms → ms = []
  st : ∀ {Y F H v ms Y' F' H'}, r Y F H v ms → XS Y Y' → XS F F' → (∀ x ∈ ms, ∀ o, H x = some o → H' x = some o) → r Y' F' H' v ms
/-- frozen content -/
def sv {α : Type} (R : Rf α) (a : α) : Sl := ⟨fun _ F _ v ms => R.r a F v ∧ ms = [], false, fun _ h => h.2, fun h _ e _ => ⟨R.sx h.1 e, h.2⟩⟩
/-- a thing of one's own -/
def ob {α : Type} (T : Th α) (a : α) : Sl := ⟨fun _ F H v ms => T.ow a F H v ms, true, (fun h => nomatch h), fun h _ x k => T.ost h x k⟩
/-- a borrowed thing -/
def bw {α : Type} (T : Th α) (a : α) : Sl := ⟨fun Y F _ v ms => T.rd a F Y v ∧ ms = [], false, fun _ h => h.2, fun h y x _ => ⟨T.rst h.1 x y, h.2⟩⟩
/-- the slot's value is v0 -/
def pn (v0 : V) (s : Sl) : Sl := ⟨fun Y F H v ms => v = v0 ∧ s.r Y F H v ms, s.own, (fun o h => s.no o h.2), fun ⟨e, h⟩ y x k => ⟨e, s.st h y x k⟩⟩
/-! ### the state -/
abbrev Gm := List (Option Sl)
/-- where a block began: the heap that is only read, what it may change, the heaps, the slots -/
structure Bs where
  Hd : Hp
  X0 : List Addr
  F0 : Hp
  H0 : Hp
  s0 : St
structure SlOk (B : Bs) (G : Gm) (F H : Hp) (σ : St) (ms : Nat → List Addr) : Prop where
  has : ∀ (i : Nat) (s : Sl), G[i]? = some (some s) → ∃ v, (i < σ.length → σ[i]? = some (some v)) ∧ s.r B.Hd F H v (ms i)
  non : ∀ i : Nat, (∀ s : Sl, G[i]? ≠ some (some s)) → ms i = []
  mem : ∀ (i : Nat) (x : Addr), x ∈ ms i → F x = none ∧ NT H x
  own : ∀ (i : Nat) (s : Sl), G[i]? = some (some s) → s.own = true → ∀ x ∈ ms i, B.H0 x = none ∨ x ∈ B.X0
  sep : ∀ (i : Nat) (s : Sl), G[i]? = some (some s) → s.own = true → ∀ x ∈ ms i, ∀ j : Nat, j ≠ i → x ∉ ms j
structure Stt (B : Bs) (tl : List Nat) (G : Gm) (F H : Hp) (σ : St) : Prop where
  g : GrX B.X0 B.F0 B.H0 F H
  bh : ∀ a o, B.Hd a = some o → B.H0 a = some o ∧ a ∉ B.X0
  fr : ∀ i : Nat, i ∉ tl → σ[i]? = B.s0[i]?
  ls : σ.length = B.s0.length
  len : σ.length ≤ G.length
  sl : ∃ ms, SlOk B G F H σ ms
section
variable {B : Bs} {tl : List Nat} {G : Gm} {F H F' H' : Hp} {σ : St}
theorem Stt.fh (s : Stt B tl G F H σ) : Ex F H := s.g.fh
theorem Stt.yh (s : Stt B tl G F H σ) : Ex B.Hd H := fun a o h => s.g.h a o (s.bh a o h).2 (s.bh a o h).1
theorem Stt.kd (s : Stt B tl G F H σ) : Kn B.Hd B.H0 := fun a h => by
  cases q : B.Hd a with
  | none => exact absurd q h
  | some o => rw [(s.bh a o q).1]; exact fun z => nomatch z
theorem SlOk.val {ms : Nat → List Addr} (k : SlOk B G F H σ ms) {i : Nat} {s : Sl} (h : G[i]? = some (some s)) (hi : i < σ.length) : ∃ v, σ[i]? = some (some v) ∧ s.r B.Hd F H v (ms i) := by
  obtain ⟨v, h1, h2⟩ := k.has i s h
  exact ⟨v, h1 hi, h2⟩
/-- what is own is not in the heap that is only read -/
theorem Stt.frs {ms : Nat → List Addr} (s : Stt B tl G F H σ) (k : SlOk B G F H σ ms) {i : Nat} {t : Sl} (h : G[i]? = some (some t)) (o : t.own = true) : ∀ x ∈ ms i, B.Hd x = none := fun x hx => by
  cases q : B.Hd x with
  | none => rfl
  | some u =>
    obtain ⟨h1, h2⟩ := s.bh x u q
    rcases k.own i t h o x hx with z | z
    · rw [h1] at z; cases z
    · exact absurd z h2
theorem SlOk.grow {ms : Nat → List Addr} (k : SlOk B G F H σ ms) (g : Gr F H F' H') : SlOk B G F' H' σ ms :=
  ⟨fun i z e => by
    obtain ⟨v, h1, h2⟩ := k.has i z e
    exact ⟨v, h1, z.st h2 (XS.refl _) g.f.xs fun x _ o q => g.h x o q⟩, k.non, fun i x hx => by
    obtain ⟨h1, h2⟩ := k.mem i x hx
    exact ⟨g.no x h1 h2, g.h.nt h2⟩, k.own, k.sep⟩
theorem Stt.grow (s : Stt B tl G F H σ) (g : Gr F H F' H') : Stt B tl G F' H' σ := by
  obtain ⟨ms, k⟩ := s.sl
  exact ⟨s.g.trans (g.x _), s.bh, s.fr, s.ls, s.len, ms, k.grow g⟩
/-- a place (a slot, or one beyond them) takes what an expression hands on -/
theorem Stt.put {i : Nat} {T : Sl} {v : V} {mv : List Addr} {σ' : St} (s : Stt B tl G F H σ) (g : Gr F H F' H') (hl : i < G.length) (hσ : σ'.length = σ.length) (hv : i < σ.length → σ'[i]? = some (some v)) (hj : ∀ j : Nat, j ≠ i → σ'[j]? = σ[j]?) (hf : ∀ j : Nat, j ∉ tl → σ'[j]? = σ[j]?)
    (h : T.r B.Hd F' H' v mv) (k : ∀ x ∈ mv, H x = none ∧ F' x = none ∧ NT H' x) : Stt B tl (G.set i (some T)) F' H' σ' := by
  obtain ⟨ms, z⟩ := s.sl
  have z' := z.grow g
  refine ⟨s.g.trans (g.x _), s.bh, fun j hj' => (hf j hj').trans (s.fr j hj'), hσ.trans s.ls, ?_, fun j => if j = i then mv else ms j, ⟨fun j t e => ?_, fun j e => ?_, fun j x hx => ?_, fun j t e ho x hx => ?_, fun j t e ho x hx j' hj' hm => ?_⟩⟩
  · rw [List.length_set, hσ]
    exact s.len
  · by_cases hji : j = i
    · subst hji
      rw [List.getElem?_set_self hl] at e
      cases e
      rw [if_pos rfl]
      exact ⟨v, fun q => hv (by rw [← hσ]; exact q), h⟩
    · rw [List.getElem?_set_ne (fun q => hji q.symm)] at e
      rw [if_neg hji, hj j hji, hσ]
      exact z'.has j t e
  · by_cases hji : j = i
    · subst hji
      exact absurd (List.getElem?_set_self hl) (e T)
    · rw [if_neg hji]
      exact z.non j fun t q => e t (by rw [List.getElem?_set_ne (fun q => hji q.symm)]; exact q)
  · try dsimp only at hx
    by_cases hji : j = i
    · rw [if_pos hji] at hx
      exact (k x hx).2
    · rw [if_neg hji] at hx
      exact z'.mem j x hx
  · try dsimp only at hx
    by_cases hji : j = i
    · rw [if_pos hji] at hx
      exact .inl (Kn.free s.g.st (k x hx).1)
    · rw [if_neg hji] at hx
      rw [List.getElem?_set_ne (fun q => hji q.symm)] at e
      exact z.own j t e ho x hx
  · try dsimp only at hx
    try dsimp only at hm
    by_cases hji : j = i
    · rw [if_pos hji] at hx
      rw [if_neg (fun q => hj' (q.trans hji.symm))] at hm
      exact (z.mem j' x hm).2.ne (k x hx).1
    · rw [if_neg hji] at hx
      rw [List.getElem?_set_ne (fun q => hji q.symm)] at e
      by_cases hi' : j' = i
      · rw [if_pos hi'] at hm
        exact (z.mem j x hx).2.ne (k x hm).1
      · rw [if_neg hi'] at hm
        exact z.sep j t e ho x hx j' hj' hm
/-- a slot takes it -/
theorem Stt.set {i : Nat} {T : Sl} {v : V} {mv : List Addr} (s : Stt B tl G F H σ) (g : Gr F H F' H') (hi : i ∈ tl) (hl : i < G.length)
    (h : T.r B.Hd F' H' v mv) (k : ∀ x ∈ mv, H x = none ∧ F' x = none ∧ NT H' x) : Stt B tl (G.set i (some T)) F' H' (σ.set i (some v)) :=
  s.put g hl (List.length_set ..) (fun q => List.getElem?_set_self q) (fun j hj => List.getElem?_set_ne (fun q => hj q.symm)) (fun j hj => List.getElem?_set_ne (fun q => hj (by rw [← q]; exact hi))) h k
/-- a place beyond the slots takes it -/
theorem Stt.ghost {i : Nat} {T : Sl} {v : V} {mv : List Addr} (s : Stt B tl G F H σ) (g : Gr F H F' H') (hi : σ.length ≤ i) (hl : i < G.length)
    (h : T.r B.Hd F' H' v mv) (k : ∀ x ∈ mv, H x = none ∧ F' x = none ∧ NT H' x) : Stt B tl (G.set i (some T)) F' H' σ :=
  s.put g hl rfl (fun q => absurd q (by omega)) (fun _ _ => rfl) (fun _ _ => rfl) h k
end
/-! ### one environment for another -/
def Imp (G G' : Gm) : Prop := ∀ B tl F H σ, Stt B tl G F H σ → Stt B tl G' F H σ
theorem Imp.refl (G : Gm) : Imp G G := fun _ _ _ _ _ h => h
theorem Imp.trans {G G1 G2 : Gm} (a : Imp G G1) (b : Imp G1 G2) : Imp G G2 := fun _ _ _ _ _ h => b _ _ _ _ _ (a _ _ _ _ _ h)
theorem Imp.of {G G1 G' : Gm} (e : G = G1) (h : Imp G1 G') : Imp G G' := by rw [e]; exact h
/-- place by place: kept, forgotten, its value forgotten -/
inductive Le : Gm → Gm → Prop where
  | nil : Le [] []
  | keep {s : Option Sl} {G G' : Gm} (h : Le G G') : Le (s :: G) (s :: G')
  | drop {s : Option Sl} {G G' : Gm} (h : Le G G') : Le (s :: G) (none :: G')
  | unpin {v : V} {s : Sl} {G G' : Gm} (h : Le G G') : Le (some (pn v s) :: G) (some s :: G')
theorem Le.len {G G' : Gm} (h : Le G G') : G.length = G'.length := by
  induction h with
  | nil => rfl
  | keep _ ih => exact congrArg (· + 1) ih
  | drop _ ih => exact congrArg (· + 1) ih
  | unpin _ ih => exact congrArg (· + 1) ih
theorem Le.at_ {G G' : Gm} (h : Le G G') : ∀ {i : Nat} {s' : Sl}, G'[i]? = some (some s') → ∃ s, G[i]? = some (some s) ∧ (s'.own = true → s.own = true) ∧ ∀ Y F H v ms, s.r Y F H v ms → s'.r Y F H v ms := by
  induction h with
  | nil => intro i s' e; simp at e
  | keep _ ih =>
    intro i s' e
    cases i with
    | zero => exact ⟨s', e, id, fun _ _ _ _ _ h => h⟩
    | succ i => exact ih (by simpa using e)
  | drop _ ih =>
    intro i s' e
    cases i with
    | zero => simp at e
    | succ i => exact ih (by simpa using e)
  | unpin _ ih =>
    intro i s' e
    cases i with
    | zero =>
      simp at e
      subst e
      exact ⟨_, rfl, id, fun _ _ _ _ _ h => h.2⟩
    | succ i => exact ih (by simpa using e)
theorem Le.imp {G G' : Gm} (h : Le G G') : Imp G G' := fun B tl F H σ s => by
  obtain ⟨ms, z⟩ := s.sl
  refine ⟨s.g, s.bh, s.fr, s.ls, by rw [← h.len]; exact s.len, fun j => match G'[j]? with
    | some (some _) => ms j
    | _ => [], ⟨fun j t e => ?_, fun j e => ?_, fun j x hx => ?_, fun j t e ho x hx => ?_, fun j t e ho x hx j' hj hm => ?_⟩⟩
  · simp only [e]
    obtain ⟨u, h1, h2, h3⟩ := h.at_ e
    obtain ⟨v, q1, q2⟩ := z.has j u h1
    exact ⟨v, q1, h3 _ _ _ _ _ q2⟩
  · try dsimp only
    split
    · rename_i t q
      exact absurd q (e t)
    · rfl
  · try dsimp only at hx
    split at hx
    · exact z.mem j x hx
    · simp at hx
  · simp only [e] at hx
    obtain ⟨u, h1, h2, h3⟩ := h.at_ e
    exact z.own j u h1 (h2 ho) x hx
  · simp only [e] at hx
    try dsimp only at hm
    obtain ⟨u, h1, h2, h3⟩ := h.at_ e
    split at hm
    · exact z.sep j u h1 (h2 ho) x hx j' hj hm
    · simp at hm
theorem Le.none : ∀ {G : Gm} {n : Nat}, G.length = n → Le G (List.replicate n none)
  | [], n, e => by subst e; exact .nil
  | s :: G, n, e => by
    subst e
    exact .drop (Le.none rfl)
/-! ### the judgements -/
def ec (K : PySem.W.Frag) (e : Er) : Value := .ref (He.ga K e.name)
theorem PE.weak {X : Cx} {e : Expr} {t t' : TE} (h : PE X e t) (w : ∀ σ H Q, t' σ H Q → t σ H Q) : PE X e t' := ⟨fun pins s σ H Q I q => h.run pins s σ H Q I (w _ _ _ q)⟩
theorem PT.weak {X : Cx} {e : Expr} {t t' : TT} (h : PT X e t) (w : ∀ σ H Q, t' σ H Q → t σ H Q) : PT X e t' := ⟨fun pins s σ H Q I q => h.run pins s σ H Q I (w _ _ _ q)⟩
theorem PA.weak {X : Cx} {e : List Expr} {t t' : TA} (h : PA X e t) (w : ∀ σ H Q, t' σ H Q → t σ H Q) : PA X e t' := ⟨fun pos pins s σ H Q I q => h.run pos pins s σ H Q I (w _ _ _ q)⟩
theorem PS.weak {X : Cx} {e : Stmt} {t t' : TS} (h : PS X e t) (w : ∀ D σ H, t' D σ H → t D σ H) : PS X e t' := ⟨fun pins s σ H D I q => h.run pins s σ H D I (w _ _ _ q)⟩
theorem PSs.weak {X : Cx} {e : List Stmt} {t t' : TS} (h : PSs X e t) (w : ∀ D σ H, t' D σ H → t D σ H) : PSs X e t' := ⟨fun pins s σ H D I q => h.run pins s σ H D I (w _ _ _ q)⟩
/-- the mirror m told of something that is evaluated: P what is handed on -/
structure Told (K : PySem.W.Frag) (W : WX) (G : Gm) {α : Type} (m : M α) (P : α → Hp → Hp → Prop) (σ : St) (H : Hp) (B : Bs) (tl : List Nat) (F : Hp) : Prop where
  st : Stt B tl G F H σ
  ne : m ≠ none
  ok : ∀ a, m = M.ok a → ∀ F' H', Gr F H F' H' → P a F' H'
  er : ∀ e, m = M.err e → ∀ F' H', Gr F H F' H' → W (ec K e) none σ H'
def tE (K : PySem.W.Frag) (W : WX) (G : Gm) {α : Type} (m : M α) (R : Rl α) : TE := fun σ H Q => ∃ B tl F, Told K W G m (fun a F' H' => ∀ v, R.r a H F' H' v → Q v H') σ H B tl F
abbrev FE (X : Cx) (W : WX) (G : Gm) (e : Expr) {α : Type} (m : M α) (R : Rl α) : Prop := PE X e (tE X.K W G m R)
def tT (K : PySem.W.Frag) (W : WX) (G : Gm) (m : M Bool) : TT := fun σ H Q => ∃ B tl F, Told K W G m (fun a F' H' => Q a H') σ H B tl F
abbrev FT (X : Cx) (W : WX) (G : Gm) (e : Expr) (m : M Bool) : Prop := PT X e (tT X.K W G m)
/-- the arguments' relation -/
structure Ra (α : Type) where
  r : α → Hp → Hp → Hp → List V → Prop
  st : ∀ {a H0 F H v F' H'}, r a H0 F H v → Gr F H F' H' → r a H0 F' H' v
  pre : ∀ {a H0 H1 F H v}, r a H1 F H v → Kn H0 H1 → r a H0 F H v
def ra0 : Ra Unit := ⟨fun _ _ _ _ vs => vs = [], fun h _ => h, fun h _ => h⟩
def rac {α β : Type} (R : Rl α) (T : Ra β) : Ra (α × β) := ⟨fun a H0 F H vs => ∃ v r, vs = v :: r ∧ R.r a.1 H0 F H v ∧ T.r a.2 H0 F H r,
  fun ⟨v, r, e, h, t⟩ g => ⟨v, r, e, R.st h g, T.st t g⟩, fun ⟨v, r, e, h, t⟩ g => ⟨v, r, e, R.pre h g, T.pre t g⟩⟩
def tA (K : PySem.W.Frag) (W : WX) (G : Gm) {α : Type} (m : M α) (R : Ra α) : TA := fun σ H Q => ∃ B tl F, Told K W G m (fun a F' H' => ∀ vs, R.r a H F' H' vs → Q vs H') σ H B tl F
abbrev FA (X : Cx) (W : WX) (G : Gm) (es : List Expr) {α : Type} (m : M α) (R : Ra α) : Prop := PA X es (tA X.K W G m R)
/-- how a block ends -/
inductive Fl (ρ b s : Type) where
  | ret (r : ρ)
  | nx (x : s)
  | bk (x : b)
  | ct (x : b)
/-- errors: their class, what is known when they are raised -/
structure EH (ε : Type) where
  cls : ε → Er
  G : ε → Gm
/-- nothing is known -/
def eh0 (n : Nat) : EH Er := ⟨fun e => e, fun _ => List.replicate n none⟩
/-- an error of an expression here, told with p -/
structure Pay {ε : Type} (Eh : EH ε) (G : Gm) (p : Er → ε) : Prop where
  c : ∀ e, Eh.cls (p e) = e
  i : ∀ e, Imp G (Eh.G (p e))
theorem pay0 {G : Gm} {n : Nat} (h : G.length = n) : Pay (eh0 n) G (fun e => e) := ⟨fun _ => rfl, fun _ => (Le.none h).imp⟩
structure ToldS (K : PySem.W.Frag) (W : WX) {ε : Type} (Eh : EH ε) (tl : List Nat) (G : Gm) {ρ b s : Type} (m : Mg ε (Fl ρ b s)) (R : ρ → V → Gm) (Gb : b → Gm) (N : s → Gm) (D : Ends) (σ : St) (H : Hp) (B : Bs) (F : Hp) : Prop where
  st : Stt B tl G F H σ
  ne : m ≠ none
  ret : ∀ r, m = M.ok (.ret r) → ∀ v σ' F' H', Stt B tl (R r v) F' H' σ' → D.rt v H'
  nx : ∀ x, m = M.ok (.nx x) → ∀ σ' F' H', Stt B tl (N x) F' H' σ' → D.nx σ' H'
  bk : ∀ x, m = M.ok (.bk x) → ∀ σ' F' H', Stt B tl (Gb x) F' H' σ' → D.bk σ' H'
  ct : ∀ x, m = M.ok (.ct x) → ∀ σ' F' H', Stt B tl (Gb x) F' H' σ' → D.ct σ' H'
  er : ∀ e, m = M.err e → ∀ σ' F' H', Stt B tl (Eh.G e) F' H' σ' → W (ec K (Eh.cls e)) none σ' H'
def tFS (K : PySem.W.Frag) (W : WX) {ε : Type} (Eh : EH ε) (tl : List Nat) (G : Gm) {ρ b s : Type} (m : Mg ε (Fl ρ b s)) (R : ρ → V → Gm) (Gb : b → Gm) (N : s → Gm) : TS := fun D σ H => ∃ B F, ToldS K W Eh tl G m R Gb N D σ H B F
abbrev FS (X : Cx) (W : WX) {ε : Type} (Eh : EH ε) (tl : List Nat) (G : Gm) (sts : List Stmt) {ρ b s : Type} (m : Mg ε (Fl ρ b s)) (R : ρ → V → Gm) (Gb : b → Gm) (N : s → Gm) : Prop := PSs X sts (tFS X.K W Eh tl G m R Gb N)
/-- an expression that may change things: behind it the environment N a v -/
structure ToldX (K : PySem.W.Frag) (W : WX) {ε : Type} (Eh : EH ε) (tl : List Nat) (G : Gm) {α : Type} (m : Mg ε α) (N : α → V → Gm) (P : α → V → Hp → Hp → Prop) (σ : St) (H : Hp) (B : Bs) (F : Hp) : Prop where
  st : Stt B tl G F H σ
  ne : m ≠ none
  ok : ∀ a, m = M.ok a → ∀ v F' H', Ex F F' → Stt B tl (N a v) F' H' σ → P a v F' H'
  er : ∀ e, m = M.err e → ∀ F' H', Stt B tl (Eh.G e) F' H' σ → W (ec K (Eh.cls e)) none σ H'
def tX (K : PySem.W.Frag) (W : WX) {ε : Type} (Eh : EH ε) (tl : List Nat) (G : Gm) {α : Type} (m : Mg ε α) (R : α → Hp → V → Prop) (N : α → V → Gm) : TE := fun σ H Q => ∃ B F, ToldX K W Eh tl G m N (fun a v F' H' => R a F' v → Q v H') σ H B F
abbrev FX (X : Cx) (W : WX) {ε : Type} (Eh : EH ε) (tl : List Nat) (G : Gm) (e : Expr) {α : Type} (m : Mg ε α) (R : α → Hp → V → Prop) (N : α → V → Gm) : Prop := PE X e (tX X.K W Eh tl G m R N)
/-! ### expressions: names, constants -/
section
variable {X : Cx} {W : WX} {G : Gm}
/-- what evaluates at once to a value -/
theorem fe_now {e : Expr} {t : TE} {α : Type} {a : α} {R : Rl α} (h : PE X e t)
    (w : ∀ B tl σ F H (Q : VK), Stt B tl G F H σ → (∀ v F' H', Gr F H F' H' → R.r a H F' H' v → Q v H') → t σ H Q) : FE X W G e (M.ok a) R :=
  PE.weak h fun σ H Q ⟨B, tl, F, T⟩ => w B tl σ F H Q T.st fun v F' H' g r => T.ok a rfl F' H' g v r
/-- a slot gives what R says -/
def Gives {α : Type} (s : Sl) (a : α) (R : Rl α) : Prop := ∀ Y F H v ms, s.r Y F H v ms → Ex F H → Ex Y H → (∀ x ∈ ms, F x = none ∧ NT H x) → ∀ H0, R.r a H0 F H v
theorem gives_v {α : Type} {R : Rf α} {a : α} : Gives (sv R a) a R.up := fun Y F H v ms h _ _ _ _ => h.1
theorem gives_o {α : Type} {T : Th α} {a : α} : Gives (ob T a) a (nw T) := fun Y F H v ms h x _ _ _ => T.ord h (fun x _ o e => e) x
theorem gives_b {α : Type} {T : Th α} {a : α} : Gives (bw T a) a (nw T) := fun Y F H v ms h x y _ _ => T.rst h.1 (XS.refl _) y.xs
theorem gives_pn {v0 : V} {T : Sl} {α : Type} {a : α} {R : Rl α} (h : Gives T a R) : Gives (pn v0 T) a R := fun Y F H v ms ⟨_, h1⟩ x y k H0 => h Y F H v ms h1 x y k H0
theorem gives_V {v0 : V} {T : Sl} : Gives (pn v0 T) () (rV v0) := fun Y F H v ms h _ _ _ _ => h.1
theorem fe_var (i : Nat) {x : Str} {pos : Pos} {s : Sl} {α : Type} {a : α} {R : Rl α} (hG : G[i]? = some (some s) := by rfl) (hs : Gives s a R) (hN : X.N[i]? = some x := by rfl) (hv : Vis X.env.scope x := by first | exact Or.inl rfl | exact Or.inr (Or.inl rfl) | exact Or.inr (Or.inr rfl))
    (hd : (x == ("__debug__" : Str)) = false := by decide) (hcd : (x == ("__classdict__" : Str)) = false := by decide) : FE X W G (.Name x pos) (M.ok a) R := by
  refine ⟨fun pins s' σ H Q I ⟨B, tl, F, T⟩ => ?_⟩
  refine (pe_var hN hv hd hcd).run pins s' σ H Q I ?_
  have hi : i < σ.length := by
    rw [I.len]
    exact (List.getElem?_eq_some_iff.mp hN).1
  obtain ⟨ms, z⟩ := T.st.sl
  obtain ⟨v, h1, h2⟩ := z.val hG hi
  exact ⟨v, h1, T.ok a rfl F H (Gr.refl T.st.fh) v (hs _ F H v _ h2 T.st.fh T.st.yh (fun x hx => z.mem i x hx) H)⟩
theorem fe_int {i : Int} {j : Nat} {pos : Pos} : FE X W G (.Constant (.int i) j pos) (M.ok i) fInt.up := fe_now pe_int fun B tl σ F H Q st k => k _ F H (Gr.refl st.fh) rfl
theorem fe_bool {i : Bool} {j : Nat} {pos : Pos} : FE X W G (.Constant (.bool i) j pos) (M.ok i) fBool.up := fe_now pe_bl fun B tl σ F H Q st k => k _ F H (Gr.refl st.fh) rfl
theorem fe_none {j : Nat} {pos : Pos} : FE X W G (.Constant .none j pos) (M.ok ()) fUnit.up := fe_now pe_non fun B tl σ F H Q st k => k _ F H (Gr.refl st.fh) rfl
theorem fe_str {x : Str} {j : Nat} {pos : Pos} (hl : tOk x.cps.toList := by decide +kernel) : FE X W G (.Constant (.str x) j pos) (M.ok x.cps.toList) fTxt.up := fe_now pe_str fun B tl σ F H Q st k => k _ F H (Gr.refl st.fh) ⟨by rw [S_of], hl⟩
theorem fe_glob {x : Str} {pos : Pos} {v : V} {u : Value} {α : Type} {a : α} {R : Rf α} (hg : Gl X x) (hm : X.mg x = some u) (r : RelV v u) (hr : ∀ F, R.r a F v) (hd : (x == ("__debug__" : Str)) = false := by decide) : FE X W G (.Name x pos) (M.ok a) R.up :=
  fe_now (pe_glob hg hm r hd) fun B tl σ F H Q st k => k v F H (Gr.refl st.fh) (hr F)
theorem fe_globI {x : Str} {pos : Pos} {i : Int} (hg : Gl X x) (hm : ∃ t, X.mg x = some (.int i t)) (hd : (x == ("__debug__" : Str)) = false := by decide) : FE X W G (.Name x pos) (M.ok i) fInt.up := by
  obtain ⟨t, hm⟩ := hm
  exact fe_glob (v := .int i) hg hm ⟨t, rfl⟩ (fun _ => rfl) hd
/-! ### one thing behind another -/
theorem Told.seq {K : PySem.W.Frag} {α β : Type} {ma : M α} {f : α → M β} {P : β → Hp → Hp → Prop} {P1 : α → Hp → Hp → Prop} {σ : St} {H : Hp} {B : Bs} {tl : List Nat} {F : Hp} (T : Told K W G (ma.bind f) P σ H B tl F)
    (k : ∀ a F1 H1, ma = M.ok a → Gr F H F1 H1 → Told K W G (f a) P σ H1 B tl F1 → P1 a F1 H1) : Told K W G ma P1 σ H B tl F := by
  refine ⟨T.st, ?_, ?_, ?_⟩
  · intro e
    exact T.ne (by rw [e]; rfl)
  · rintro a rfl F1 H1 g1
    exact k a F1 H1 rfl g1 ⟨T.st.grow g1, T.ne, fun b e F' H' g => T.ok b e F' H' (g1.trans g), fun e q F' H' g => T.er e q F' H' (g1.trans g)⟩
  · rintro e rfl F1 H1 g1
    exact T.er e rfl F1 H1 g1
theorem Told.out {K : PySem.W.Frag} {α : Type} {m : M α} {P : α → Hp → Hp → Prop} {σ : St} {H : Hp} {B : Bs} {tl : List Nat} {F : Hp} (T : Told K W G m P σ H B tl F) (hn : ∀ e, m ≠ M.err e) : ∃ a, m = M.ok a ∧ P a F H := by
  cases q : m with
  | none => exact absurd q T.ne
  | some r =>
    cases r with
    | error e => exact absurd q (hn e)
    | ok a => exact ⟨a, rfl, T.ok a q F H (Gr.refl T.st.fh)⟩
theorem Told.fh {K : PySem.W.Frag} {α : Type} {m : M α} {P : α → Hp → Hp → Prop} {σ : St} {H : Hp} {B : Bs} {tl : List Nat} {F : Hp} (T : Told K W G m P σ H B tl F) : Ex F H := T.st.fh
/-! ### operators on two values -/
/-- an operator's rule told of the mirror's values: it raises nothing -/
structure OpP {α β γ : Type} (r : R2) (A : Rl α) (B : Rl β) (a : α) (b : β) (m : M γ) (R : Rl γ) : Prop where
  ne : ∀ e, m ≠ M.err e
  run : ∀ F H v w H0 (Q : VK), Ex F H → A.r a H0 F H v → B.r b H0 F H w → ∀ c, m = M.ok c → (∀ z F' H', Gr F H F' H' → R.r c H F' H' z → Q z H') → r v w H Q
theorem op_run {K : PySem.W.Frag} {α β γ : Type} {r : R2} {ta tb : TE} {ma : M α} {mb : M β} {g : α → β → M γ} {A : Rl α} {B : Rl β} {R : Rl γ} (hl : ∀ a b, OpP r A B a b (g a b) R) {σ : St} {H : Hp} {Q : VK}
    (ha : ∀ σ H Q, tE K W G ma A σ H Q → ta σ H Q) (hb : ∀ σ H Q, tE K W G mb B σ H Q → tb σ H Q)
    (h : tE K W G (ma.bind fun x => mb.bind fun y => g x y) R σ H Q) : tOp r ta tb σ H Q := by
  obtain ⟨Bs, tl, F, T⟩ := h
  refine ha _ _ _ ⟨Bs, tl, F, T.seq fun x F1 H1 _ g1 T1 v rv => hb _ _ _ ⟨Bs, tl, F1, T1.seq fun y F2 H2 _ g2 T2 w rw => ?_⟩⟩
  obtain ⟨c, e, q⟩ := T2.out (hl x y).ne
  exact (hl x y).run F2 H2 v w H Q T2.fh (A.st rv g2) (B.pre rw g1.h.kn) c e fun z F' H' g3 rz => T2.ok c e F' H' g3 z (R.pre rz (g1.h.trans g2.h).kn)
theorem fe_bin {α β γ : Type} {op : Operator} {r : R2} {a b : Expr} {pos : Pos} {ma : M α} {mb : M β} {g : α → β → M γ} {A : Rl α} {B : Rl β} {R : Rl γ} (ho : OpR X (binaryOp op) r) (hl : ∀ a b, OpP r A B a b (g a b) R) (ha : FE X W G a ma A) (hb : FE X W G b mb B) :
    FE X W G (.BinOp a op b pos) (ma.bind fun x => mb.bind fun y => g x y) R := PE.weak (pe_op ho ha hb) fun _ _ _ h => op_run hl (fun _ _ _ z => z) (fun _ _ _ z => z) h
theorem op_runV {K : PySem.W.Frag} {α β γ : Type} {r : R2} {ta tb : TE} {x : α} {y : β} {m : M γ} {A : Rl α} {B : Rl β} {R : Rl γ} (hl : OpP r A B x y m R) {σ : St} {H : Hp} {Q : VK}
    (ha : ∀ σ H Q, tE K W G (M.ok x) A σ H Q → ta σ H Q) (hb : ∀ σ H Q, tE K W G (M.ok y) B σ H Q → tb σ H Q) (h : tE K W G m R σ H Q) : tOp r ta tb σ H Q := by
  obtain ⟨Bs, tl, F, T⟩ := h
  have T : Told K W G ((M.ok x).bind fun _ => (M.ok y).bind fun _ => m) _ σ H Bs tl F := T
  refine ha _ _ _ ⟨Bs, tl, F, T.seq fun x' F1 H1 ex g1 T1 v rv => hb _ _ _ ⟨Bs, tl, F1, T1.seq fun y' F2 H2 ey g2 T2 w rw => ?_⟩⟩
  cases M.ok_inj ex
  cases M.ok_inj ey
  obtain ⟨c, e, q⟩ := T2.out hl.ne
  exact hl.run F2 H2 v w H Q T2.fh (A.st rv g2) (B.pre rw g1.h.kn) c e fun z F' H' g3 rz => T2.ok c e F' H' g3 z (R.pre rz (g1.h.trans g2.h).kn)
theorem fv_bin {α β γ : Type} {op : Operator} {r : R2} {a b : Expr} {pos : Pos} {x : α} {y : β} {m : M γ} {A : Rl α} {B : Rl β} {R : Rl γ} (ho : OpR X (binaryOp op) r) (hl : OpP r A B x y m R) (ha : FE X W G a (M.ok x) A) (hb : FE X W G b (M.ok y) B) :
    FE X W G (.BinOp a op b pos) m R := PE.weak (pe_op ho ha hb) fun _ _ _ h => op_runV hl (fun _ _ _ z => z) (fun _ _ _ z => z) h
theorem fe_cmp {α β γ : Type} {op : CmpOp} {r : R2} {a b : Expr} {pos : Pos} {ma : M α} {mb : M β} {g : α → β → M γ} {A : Rl α} {B : Rl β} {R : Rl γ} (ho : OpR X (compareOp op) r) (hl : ∀ a b, OpP r A B a b (g a b) R) (ha : FE X W G a ma A) (hb : FE X W G b mb B) (hm : behindInMarks op b = false := by first | exact nomark _ | rfl) :
    FE X W G (.Compare a [op] [b] pos) (ma.bind fun x => mb.bind fun y => g x y) R := PE.weak (pe_cmpR ho ha hb hm) fun _ _ _ h => op_run hl (fun _ _ _ z => z) (fun _ _ _ z => z) h
theorem fv_cmp {α β γ : Type} {op : CmpOp} {r : R2} {a b : Expr} {pos : Pos} {x : α} {y : β} {m : M γ} {A : Rl α} {B : Rl β} {R : Rl γ} (ho : OpR X (compareOp op) r) (hl : OpP r A B x y m R) (ha : FE X W G a (M.ok x) A) (hb : FE X W G b (M.ok y) B) (hm : behindInMarks op b = false := by first | exact nomark _ | rfl) :
    FE X W G (.Compare a [op] [b] pos) m R := PE.weak (pe_cmpR ho ha hb hm) fun _ _ _ h => op_runV hl (fun _ _ _ z => z) (fun _ _ _ z => z) h
/-! tests -/
theorem te_tt {K : PySem.W.Frag} {m : M Bool} {σ : St} {H : Hp} {Q : Bool → Hp → Prop} (h : tT K W G m σ H Q) : tE K W G m fBool.up σ H (fun x H' => ∃ k, x = .bl k ∧ Q k H') := by
  obtain ⟨Bs, tl, F, T⟩ := h
  exact ⟨Bs, tl, F, T.st, T.ne, fun b e F' H' g v r => ⟨b, r, T.ok b e F' H' g⟩, T.er⟩
theorem ft_cmp {α β : Type} {op : CmpOp} {r : R2} {a b : Expr} {pos : Pos} {ma : M α} {mb : M β} {g : α → β → M Bool} {A : Rl α} {B : Rl β} (ho : OpR X (compareOp op) r) (hl : ∀ a b, OpP r A B a b (g a b) fBool.up) (ha : FE X W G a ma A) (hb : FE X W G b mb B) (hm : behindInMarks op b = false := by first | exact nomark _ | rfl) :
    FT X W G (.Compare a [op] [b] pos) (ma.bind fun x => mb.bind fun y => g x y) := PT.weak (pt_cmpR ho ha hb hm) fun _ _ _ h => op_run hl (fun _ _ _ z => z) (fun _ _ _ z => z) (te_tt h)
theorem tv_cmp {α β : Type} {op : CmpOp} {r : R2} {a b : Expr} {pos : Pos} {x : α} {y : β} {m : M Bool} {A : Rl α} {B : Rl β} (ho : OpR X (compareOp op) r) (hl : OpP r A B x y m fBool.up) (ha : FE X W G a (M.ok x) A) (hb : FE X W G b (M.ok y) B) (hm : behindInMarks op b = false := by first | exact nomark _ | rfl) :
    FT X W G (.Compare a [op] [b] pos) m := PT.weak (pt_cmpR ho ha hb hm) fun _ _ _ h => op_runV hl (fun _ _ _ z => z) (fun _ _ _ z => z) (te_tt h)
/-- an expression that gives True or False, as a test -/
theorem ft_val {e : Expr} {m : M Bool} (h : FE X W G e m fBool.up) (he : ∀ whole, isTrue e X.env whole = (do let v ← whole; standAt e.pos; holding [v] (truthy v)) := by intro _; rfl) : FT X W G e m :=
  PT.weak (pt_val h he) fun _ _ _ z => te_tt z
theorem ft_not {a : Expr} {pos : Pos} {m : M Bool} (h : FT X W G a m) : FT X W G (.UnaryOp .Not a pos) (m.bind fun b => M.ok (!b)) := PT.weak (pt_not h) fun σ H Q ⟨B, tl, F, T⟩ =>
  ⟨B, tl, F, T.seq fun b F1 H1 _ g1 T1 => T1.ok _ rfl F1 H1 (Gr.refl g1.fh)⟩
theorem tv_not {a : Expr} {pos : Pos} {b : Bool} (h : FT X W G a (M.ok b)) : FT X W G (.UnaryOp .Not a pos) (M.ok (!b)) := ft_not h
/-- and, or: PW chains -/
abbrev FW (X : Cx) (W : WX) (G : Gm) (e : Expr) (m : M Bool) : Prop := PW X e (tT X.K W G m)
theorem PW.weak {e : Expr} {t t' : TT} (h : PW X e t) (w : ∀ σ H Q, t' σ H Q → t σ H Q) : PW X e t' := ⟨fun whole pins s σ H Q I q => h.run whole pins s σ H Q I (w _ _ _ q)⟩
theorem fw_and1 {a : Expr} {pos : Pos} {m : M Bool} (h : FT X W G a m) : FW X W G (.BoolOp .And [a] pos) m := pw_and1 h
theorem fw_or1 {a : Expr} {pos : Pos} {m : M Bool} (h : FT X W G a m) : FW X W G (.BoolOp .Or [a] pos) m := pw_or1 h
theorem fw_and {a b : Expr} {rest : List Expr} {pos : Pos} {ma mb : M Bool} (ha : FT X W G a ma) (hb : FW X W G (.BoolOp .And (b :: rest) pos) mb) : FW X W G (.BoolOp .And (a :: b :: rest) pos) (ma.bind fun x => if x = true then mb else M.ok false) :=
  PW.weak (pw_and ha hb) fun σ H Q ⟨B, tl, F, T⟩ => ⟨B, tl, F, T.seq fun x F1 H1 _ g1 T1 => by
    cases x with
    | true => exact ⟨B, tl, F1, T1⟩
    | false => exact T1.ok false rfl F1 H1 (Gr.refl g1.fh)⟩
theorem fw_or {a b : Expr} {rest : List Expr} {pos : Pos} {ma mb : M Bool} (ha : FT X W G a ma) (hb : FW X W G (.BoolOp .Or (b :: rest) pos) mb) : FW X W G (.BoolOp .Or (a :: b :: rest) pos) (ma.bind fun x => if x = true then M.ok true else mb) :=
  PW.weak (pw_or ha hb) fun σ H Q ⟨B, tl, F, T⟩ => ⟨B, tl, F, T.seq fun x F1 H1 _ g1 T1 => by
    cases x with
    | true => exact T1.ok true rfl F1 H1 (Gr.refl g1.fh)
    | false => exact ⟨B, tl, F1, T1⟩⟩
theorem fw_t {e : Expr} {m : M Bool} (h : FW X W G e m) : FT X W G e m := PW.pt h
theorem vw_and {a b : Expr} {rest : List Expr} {pos : Pos} {x y : Bool} (ha : FT X W G a (M.ok x)) (hb : FW X W G (.BoolOp .And (b :: rest) pos) (M.ok y)) : FW X W G (.BoolOp .And (a :: b :: rest) pos) (M.ok (x && y)) := by
  have h := fw_and ha hb
  cases x <;> exact h
theorem vw_or {a b : Expr} {rest : List Expr} {pos : Pos} {x y : Bool} (ha : FT X W G a (M.ok x)) (hb : FW X W G (.BoolOp .Or (b :: rest) pos) (M.ok y)) : FW X W G (.BoolOp .Or (a :: b :: rest) pos) (M.ok (x || y)) := by
  have h := fw_or ha hb
  cases x <;> exact h
/-! and, or, not as values -/
theorem fe_one {op : BoolOp} {a : Expr} {pos : Pos} {m : M Bool} (h : FE X W G a m fBool.up) : FE X W G (.BoolOp op [a] pos) m fBool.up := pe_one h
theorem fe_and {a b : Expr} {rest : List Expr} {pos : Pos} {ma mb : M Bool} (ha : FE X W G a ma fBool.up) (hb : FE X W G (.BoolOp .And (b :: rest) pos) mb fBool.up) : FE X W G (.BoolOp .And (a :: b :: rest) pos) (ma.bind fun x => if x = true then mb else M.ok false) fBool.up :=
  PE.weak (pe_and ha hb) fun σ H Q ⟨B, tl, F, T⟩ => ⟨B, tl, F, T.seq fun x F1 H1 _ g1 T1 v r => ⟨x, r, by
    cases x with
    | true => exact ⟨B, tl, F1, T1.st, T1.ne, fun a e F' H' g v r => T1.ok a e F' H' g v r, T1.er⟩
    | false => exact T1.ok false rfl F1 H1 (Gr.refl g1.fh) _ rfl⟩⟩
theorem fe_or {a b : Expr} {rest : List Expr} {pos : Pos} {ma mb : M Bool} (ha : FE X W G a ma fBool.up) (hb : FE X W G (.BoolOp .Or (b :: rest) pos) mb fBool.up) : FE X W G (.BoolOp .Or (a :: b :: rest) pos) (ma.bind fun x => if x = true then M.ok true else mb) fBool.up :=
  PE.weak (pe_or ha hb) fun σ H Q ⟨B, tl, F, T⟩ => ⟨B, tl, F, T.seq fun x F1 H1 _ g1 T1 v r => ⟨x, r, by
    cases x with
    | true => exact T1.ok true rfl F1 H1 (Gr.refl g1.fh) _ rfl
    | false => exact ⟨B, tl, F1, T1.st, T1.ne, fun a e F' H' g v r => T1.ok a e F' H' g v r, T1.er⟩⟩⟩
theorem fe_not {a : Expr} {pos : Pos} {ma : M Bool} (ha : FE X W G a ma fBool.up) : FE X W G (.UnaryOp .Not a pos) (ma.bind fun b => M.ok (!b)) fBool.up :=
  PE.weak (pe_not ha) fun σ H Q ⟨B, tl, F, T⟩ => ⟨B, tl, F, T.seq fun x F1 H1 _ g1 T1 v r => ⟨x, r, T1.ok _ rfl F1 H1 (Gr.refl g1.fh) _ rfl⟩⟩
theorem fv_and {a b : Expr} {rest : List Expr} {pos : Pos} {x y : Bool} (ha : FE X W G a (M.ok x) fBool.up) (hb : FE X W G (.BoolOp .And (b :: rest) pos) (M.ok y) fBool.up) : FE X W G (.BoolOp .And (a :: b :: rest) pos) (M.ok (x && y)) fBool.up := by
  have h := fe_and ha hb
  cases x <;> exact h
theorem fv_or {a b : Expr} {rest : List Expr} {pos : Pos} {x y : Bool} (ha : FE X W G a (M.ok x) fBool.up) (hb : FE X W G (.BoolOp .Or (b :: rest) pos) (M.ok y) fBool.up) : FE X W G (.BoolOp .Or (a :: b :: rest) pos) (M.ok (x || y)) fBool.up := by
  have h := fe_or ha hb
  cases x <;> exact h
theorem fv_not {a : Expr} {pos : Pos} {b : Bool} (ha : FE X W G a (M.ok b) fBool.up) : FE X W G (.UnaryOp .Not a pos) (M.ok (!b)) fBool.up := fe_not ha
/-- a if t else b -/
theorem fe_ifE {α : Type} {c a b : Expr} {pos : Pos} {mc : M Bool} {ma mb : M α} {R : Rl α} (hc : FT X W G c mc) (ha : FE X W G a ma R) (hb : FE X W G b mb R) : FE X W G (.IfExp c a b pos) (mc.bind fun x => if x = true then ma else mb) R :=
  PE.weak (pe_ifExp hc ha hb) fun σ H Q ⟨B, tl, F, T⟩ => ⟨B, tl, F, T.seq fun x F1 H1 _ g1 T1 => by
    cases x with
    | true => exact ⟨B, tl, F1, T1.st, T1.ne, fun a e F' H' g v r => T1.ok a e F' H' g v (R.pre r g1.h.kn), T1.er⟩
    | false => exact ⟨B, tl, F1, T1.st, T1.ne, fun a e F' H' g v r => T1.ok a e F' H' g v (R.pre r g1.h.kn), T1.er⟩⟩
theorem fv_ifE {α : Type} {c a b : Expr} {pos : Pos} {x : Bool} {ma mb : M α} {R : Rl α} (hc : FT X W G c (M.ok x)) (ha : FE X W G a ma R) (hb : FE X W G b mb R) : FE X W G (.IfExp c a b pos) (if x = true then ma else mb) R := fe_ifE hc ha hb
/-! weaker relations -/
theorem fe_imp {α : Type} {e : Expr} {m : M α} {R R' : Rl α} (h : FE X W G e m R) (w : ∀ a H0 F H v, Ex F H → R.r a H0 F H v → R'.r a H0 F H v) : FE X W G e m R' :=
  PE.weak h fun σ H Q ⟨B, tl, F, T⟩ => ⟨B, tl, F, T.st, T.ne, fun a e F' H' g v r => T.ok a e F' H' g v (w _ _ _ _ _ g.fh r), T.er⟩
/-- a thing of one's own is frozen -/
theorem fe_freeze {α : Type} {e : Expr} {m : M α} {T : Th α} (h : FE X W G e m (ro T)) : FE X W G e m (fz T).up :=
  PE.weak h fun σ H Q ⟨B, tl, F, D⟩ => ⟨B, tl, F, D.st, D.ne, fun a e F' H' g v ⟨ms, ho, k⟩ => by
    let F2 : Hp := fun x => if x ∈ ms then H' x else F' x
    have x1 : Ex F' F2 := fun x o hx => by
      show (if x ∈ ms then H' x else F' x) = some o
      by_cases z : x ∈ ms
      · rw [(k x z).2.1] at hx; cases hx
      · rw [if_neg z]; exact hx
    have x2 : Ex F2 H' := fun x o hx => by
      have hx : (if x ∈ ms then H' x else F' x) = some o := hx
      by_cases z : x ∈ ms
      · rw [if_pos z] at hx; exact hx
      · rw [if_neg z] at hx; exact g.fh x o hx
    have g2 : Gr F H F2 H' := ⟨g.f.trans x1, g.h, x2, fun x h1 h2 => by
      show (if x ∈ ms then H' x else F' x) = none
      rw [if_neg (fun z => h2.ne (k x z).1)]
      exact g.no x h1 h2⟩
    have hr : T.rd a F' F2 v := T.ord ho (fun x hx o ho => by show (if x ∈ ms then H' x else F' x) = some o; rw [if_pos hx]; exact ho) x1
    exact D.ok a e F2 H' g2 v (T.rst hr x1.xs (XS.refl _)), D.er⟩
theorem fe_borrow {α : Type} {e : Expr} {m : M α} {T : Th α} (h : FE X W G e m (ro T)) : FE X W G e m (nw T) :=
  fe_imp h fun a H0 F H v x ⟨ms, ho, k⟩ => T.ord ho (fun _ _ _ e => e) x
theorem fe_read {α : Type} {e : Expr} {m : M α} {T : Th α} (h : FE X W G e m (fz T).up) : FE X W G e m (nw T) :=
  fe_imp h fun a H0 F H v x hr => T.rst hr (XS.refl _) x.xs
end
end LK
namespace LK
open PySem L2
/-! ### operators' facts -/
section
variable {K : PySem.W.Frag}
theorem opp {α β γ : Type} {r : R2} {A : Rf α} {B : Rf β} {a : α} {b : β} {c : γ} {R : Rf γ} (h : ∀ F H v w (Q : VK), Ex F H → A.r a F v → B.r b F w → (∀ z, R.r c F z → Q z H) → r v w H Q) : OpP r A.up B.up a b (M.ok c) R.up :=
  ⟨fun e q => (nomatch q), fun F H v w H0 Q x ha hb c' e k => by
    cases M.ok_inj e
    exact h F H v w Q x ha hb fun z hz => k z F H (Gr.refl x) hz⟩
theorem need_ok {ε α : Type} {c : Prop} [Decidable c] {a b : α} (h : (M.need c (M.ok a) : Mg ε α) = M.ok b) : c ∧ a = b := by
  unfold M.need at h
  split at h
  · rename_i q
    exact ⟨q, M.ok_inj h⟩
  · cases h
theorem need_err {ε α : Type} {c : Prop} [Decidable c] {a : α} (e : ε) : M.need c (M.ok a) ≠ M.err e := by
  unfold M.need
  split <;> exact fun h => nomatch h
theorem oppN {α β γ : Type} {r : R2} {A : Rf α} {B : Rf β} {a : α} {b : β} {c : γ} {R : Rf γ} {C : Prop} [Decidable C] (h : C → ∀ F H v w (Q : VK), Ex F H → A.r a F v → B.r b F w → (∀ z, R.r c F z → Q z H) → r v w H Q) : OpP r A.up B.up a b (M.need C (M.ok c)) R.up :=
  ⟨need_err, fun F H v w H0 Q x ha hb c' e k => by
    obtain ⟨hc, rfl⟩ := need_ok e
    exact h hc F H v w Q x ha hb fun z hz => k z F H (Gr.refl x) hz⟩
theorem ol_I0 {g : Int → Int → Int} {a b : Int} : OpP (rI0 fun i j => .int (g i j)) fInt.up fInt.up a b (M.ok (g a b)) fInt.up := opp fun F H v w Q x ha hb k => ⟨a, b, ha, hb, k _ rfl⟩
theorem ol_B0 {g : Int → Int → Bool} {a b : Int} : OpP (rI0 fun i j => .bl (g i j)) fInt.up fInt.up a b (M.ok (g a b)) fBool.up := opp fun F H v w Q x ha hb k => ⟨a, b, ha, hb, k _ rfl⟩
theorem ol_I {C : Int → Int → Prop} {g : Int → Int → Int} {a b : Int} [Decidable (C a b)] : OpP (rI C fun i j => .int (g i j)) fInt.up fInt.up a b (M.need (C a b) (M.ok (g a b))) fInt.up := oppN fun hc F H v w Q x ha hb k => ⟨a, b, ha, hb, hc, k _ rfl⟩
theorem ol_Ic {C : Int → Int → Prop} {g : Int → Int → Int} {a b : Int} (hc : C a b) : OpP (rI C fun i j => .int (g i j)) fInt.up fInt.up a b (M.ok (g a b)) fInt.up := opp fun F H v w Q x ha hb k => ⟨a, b, ha, hb, hc, k _ rfl⟩
theorem cmul_r {a b : Int} (h : -(2 ^ 64) < b ∧ b < 2 ^ 64) : CMul a b := .inr h
theorem cmul_l {a b : Int} (h : -(2 ^ 64) < a ∧ a < 2 ^ 64) : CMul a b := .inl h
theorem ol_cat {a b : List Nat} : OpP (fun x y H Q => ∃ i j, x = .str i ∧ y = .str j ∧ i.length + j.length ≤ sizeLine ∧ Q (.str (i ++ j)) H) fTxt.up fTxt.up a b (M.need (a.length + b.length ≤ sizeLine) (M.ok (a ++ b))) fTxt.up :=
  oppN fun hc F H v w Q x ha hb k => ⟨S a, S b, ha.1, hb.1, by rw [S_len, S_len]; exact hc, k _ ⟨by
    show V.str (S a ++ S b) = V.str (S (a ++ b))
    have e : S a ++ S b = S (a ++ b) := by
      show (⟨a.toArray ++ b.toArray⟩ : Str) = ⟨(a ++ b).toArray⟩
      simp
    rw [e], tOk.mk (by rw [List.length_append]; exact hc) fun c hm => by
    rcases List.mem_append.mp hm with q | q
    · exact ha.2.all c q
    · exact hb.2.all c q⟩⟩
theorem scal_str (a b : List Nat) : scal (.str (S a)) (.str (S b)) = true := rfl
theorem dec_S {a b : List Nat} : decide (V.str (S a) = V.str (S b)) = decide (a = b) := by
  by_cases h : a = b
  · subst h; simp
  · rw [decide_eq_false h, decide_eq_false]
    intro e
    injection e with e
    exact h (S_inj e)
theorem ol_eqS {a b : List Nat} : OpP rEq fTxt.up fTxt.up a b (M.ok (decide (a = b))) fBool.up := opp fun F H v w Q x ha hb k => by
  obtain ⟨rfl, _⟩ := ha
  obtain ⟨rfl, _⟩ := hb
  exact ⟨rfl, k _ (congrArg V.bl dec_S)⟩
theorem ol_neS {a b : List Nat} : OpP rNe fTxt.up fTxt.up a b (M.ok (!decide (a = b))) fBool.up := opp fun F H v w Q x ha hb k => by
  obtain ⟨rfl, _⟩ := ha
  obtain ⟨rfl, _⟩ := hb
  exact ⟨rfl, k _ (congrArg (fun z => V.bl (!z)) dec_S)⟩
theorem ol_eqI {a b : Int} : OpP rEq fInt.up fInt.up a b (M.ok (decide (a = b))) fBool.up := opp fun F H v w Q x ha hb k => by
  cases ha
  cases hb
  exact ⟨rfl, k _ (congrArg V.bl (by rw [dec_int, Bool.beq_eq_decide_eq]))⟩
theorem ol_neI {a b : Int} : OpP rNe fInt.up fInt.up a b (M.ok (!decide (a = b))) fBool.up := opp fun F H v w Q x ha hb k => by
  cases ha
  cases hb
  exact ⟨rfl, k _ (congrArg (fun z => V.bl (!z)) (by rw [dec_int, Bool.beq_eq_decide_eq]))⟩
theorem ol_eqB {a b : Bool} : OpP rEq fBool.up fBool.up a b (M.ok (decide (a = b))) fBool.up := opp fun F H v w Q x ha hb k => by
  cases ha
  cases hb
  exact ⟨rfl, k _ (congrArg V.bl (by rw [dec_bl, Bool.beq_eq_decide_eq]))⟩
theorem ol_neB {a b : Bool} : OpP rNe fBool.up fBool.up a b (M.ok (!decide (a = b))) fBool.up := opp fun F H v w Q x ha hb k => by
  cases ha
  cases hb
  exact ⟨rfl, k _ (congrArg (fun z => V.bl (!z)) (by rw [dec_bl, Bool.beq_eq_decide_eq]))⟩
theorem ol_isB {a b : Bool} : OpP (fun x y H Q => ∃ a b, x = .bl a ∧ y = .bl b ∧ Q (.bl (decide (a = b))) H) fBool.up fBool.up a b (M.ok (decide (a = b))) fBool.up := opp fun F H v w Q x ha hb k => by
  cases ha
  cases hb
  exact ⟨a, b, rfl, rfl, k _ rfl⟩
theorem ol_isnB {a b : Bool} : OpP (fun x y H Q => ∃ a b, x = .bl a ∧ y = .bl b ∧ Q (.bl (!decide (a = b))) H) fBool.up fBool.up a b (M.ok (!decide (a = b))) fBool.up := opp fun F H v w Q x ha hb k => by
  cases ha
  cases hb
  exact ⟨a, b, rfl, rfl, k _ rfl⟩
theorem ol_strcmp {a b : List Nat} {f : List Nat → List Nat → Bool} : OpP (fun x y H Q => ∃ i j, x = .str i ∧ y = .str j ∧ Q (.bl (f i.cps.toList j.cps.toList)) H) fTxt.up fTxt.up a b (M.ok (f a b)) fBool.up := opp fun F H v w Q x ha hb k => by
  obtain ⟨rfl, _⟩ := ha
  obtain ⟨rfl, _⟩ := hb
  exact ⟨S a, S b, rfl, rfl, by rw [S_cps, S_cps]; exact k _ rfl⟩
/-- one sign in a text -/
theorem ol_inSign {c : Nat} {b : List Nat} : OpP (fun x y H Q => ∃ (c : Nat) (z : Str), x = .str ⟨#[c]⟩ ∧ y = .str z ∧ Q (.bl (decide (c ∈ z.cps.toList))) H) fTxt.up fTxt.up [c] b (M.ok (decide (c ∈ b))) fBool.up := opp fun F H v w Q x ha hb k => by
  obtain ⟨rfl, _⟩ := ha
  obtain ⟨rfl, _⟩ := hb
  exact ⟨c, S b, rfl, rfl, by rw [S_cps]; exact k _ rfl⟩
def occIn (a b : List Nat) : Bool := !(Builtin.Str.occurrences (S b) (S a) 0 (S b).length 1).isEmpty
theorem ol_inStr {a b : List Nat} : OpP (fun x y H Q => ∃ i j, x = .str i ∧ y = .str j ∧ Q (.bl (!(Builtin.Str.occurrences j i 0 j.length 1).isEmpty)) H) fTxt.up fTxt.up a b (M.ok (occIn a b)) fBool.up := opp fun F H v w Q x ha hb k => by
  obtain ⟨rfl, _⟩ := ha
  obtain ⟨rfl, _⟩ := hb
  exact ⟨S a, S b, rfl, rfl, k _ rfl⟩
theorem ol_isN {α : Type} {A : Rf α} {a : Option α} {u : Unit} : OpP (fun x y H Q => y = .non ∧ Q (.bl (decide (x = .non))) H) (fOpt A).up fUnit.up a u (M.ok a.isNone) fBool.up := opp fun F H v w Q x ha hb k => by
  refine ⟨hb, ?_⟩
  cases a with
  | none =>
    cases ha
    exact k _ rfl
  | some a =>
    obtain ⟨_, h⟩ := ha
    rw [decide_eq_false h]
    exact k _ rfl
theorem ol_notN {α : Type} {A : Rf α} {a : Option α} {u : Unit} : OpP (fun x y H Q => y = .non ∧ Q (.bl (!decide (x = .non))) H) (fOpt A).up fUnit.up a u (M.ok a.isSome) fBool.up := opp fun F H v w Q x ha hb k => by
  refine ⟨hb, ?_⟩
  cases a with
  | none =>
    cases ha
    exact k _ rfl
  | some a =>
    obtain ⟨_, h⟩ := ha
    rw [decide_eq_false h]
    exact k _ rfl
end
/-! ### places -/
section
variable {K : PySem.W.Frag}
/-- xs[i] -/
def at_ {α : Type} (xs : List α) (i : Int) : M α := match atI xs i with
  | some a => M.ok a
  | none => none
theorem Pw.atI {α : Type} {R : α → V → Prop} {as : List α} {vs : List V} (h : Pw R as vs) {i : Int} {a : α} (e : L2.atI as i = some a) : ∃ v, L2.atI vs i = some v ∧ R a v := by
  unfold L2.atI at e ⊢
  rw [← h.len]
  cases q : ixN as.length i with
  | none => rw [q] at e; cases e
  | some j =>
    rw [q] at e
    exact h.get e
theorem at_err {α : Type} {xs : List α} {i : Int} (e : Er) : at_ xs i ≠ M.err e := by
  unfold at_
  split <;> exact fun h => nomatch h
theorem at_ok {α : Type} {xs : List α} {i : Int} {a : α} (e : at_ xs i = M.ok a) : atI xs i = some a := by
  unfold at_ at e
  split at e
  · rename_i b q
    rw [q, M.ok_inj e]
  · cases e
theorem ol_ixL {α : Type} {A : Rf α} {as : List α} {i : Int} : OpP (rIxL K) (bLst K A) fInt.up as i (at_ as i) A.up :=
  ⟨at_err, fun F H v w H0 Q x ⟨p, vs, ev, h, q⟩ hb c e k => by
    cases hb
    subst ev
    obtain ⟨z, h1, h2⟩ := q.atI (at_ok e)
    exact ⟨p, vs, i, z, rfl, rfl, h, h1, k z F H (Gr.refl x) h2⟩⟩
theorem ol_ixS {as : List Nat} {i : Int} : OpP rIxS fTxt.up fInt.up as i ((at_ as i).bind fun c => M.ok [c]) fTxt.up := by
  refine ⟨fun e h => ?_, fun F H v w H0 Q x ⟨ev, hl⟩ hb c e k => ?_⟩
  · cases q : at_ as i with
    | none => rw [q] at h; cases h
    | some r =>
      cases r with
      | error e => exact absurd q (at_err e)
      | ok a => rw [q] at h; cases h
  · cases hb
    subst ev
    cases q : at_ as i with
    | none => rw [q] at e; cases e
    | some r =>
      cases r with
      | error e => exact absurd q (at_err e)
      | ok a =>
        rw [q] at e
        cases M.ok_inj e
        exact ⟨S as, i, a, rfl, rfl, by rw [S_len]; exact hl.len, by rw [S_cps]; exact at_ok q, k _ F H (Gr.refl x) ⟨rfl, hl.sub (by have := atI_get (at_ok q); obtain ⟨j, _, _, h, _⟩ := this; simp; omega) fun c hc => by
          obtain ⟨j, _, h, _⟩ := atI_get (at_ok q)
          cases List.mem_singleton.mp hc
          exact List.mem_of_getElem? h⟩⟩
/-- t[i] of a tuple, i written: the i-th part -/
inductive Part {α β : Type} (T : Tv α) (A : Rf β) : Nat → α → β → Prop where
  | mk {i : Nat} {a : α} {b : β} (h : ∀ F vs, T.r a F vs → ∃ v, vs[i]? = some v ∧ A.r b F v) : Part T A i a b
theorem part1 {α : Type} {A : Rf α} {a : α} : Part (tv1 A) A 0 a a := ⟨fun F vs ⟨x, e, h⟩ => ⟨x, by rw [e]; rfl, h⟩⟩
theorem part0 {α β : Type} {A : Rf α} {T : Tv β} {a : α × β} : Part (tvc A T) A 0 a a.1 := ⟨fun F vs ⟨x, r, e, h, t⟩ => ⟨x, by rw [e]; rfl, h⟩⟩
theorem partS {α β γ : Type} {A : Rf α} {T : Tv β} {C : Rf γ} {a : α × β} {i : Nat} {c : γ} (p : Part T C i a.2 c) : Part (tvc A T) C (i + 1) a c := ⟨fun F vs ⟨x, r, e, h, t⟩ => by
  obtain ⟨p⟩ := p
  obtain ⟨v, h1, h2⟩ := p F r t
  exact ⟨v, by rw [e]; exact h1, h2⟩⟩
theorem ol_ixT {α β : Type} {T : Tv α} {A : Rf β} {i : Nat} {a : α} {b : β} (p : Part T A i a b) : OpP (rIxT K) (fTup K T).up fInt.up a (i : Int) (M.ok b) A.up := opp fun F H v w Q x ⟨q, vs, ev, h, t⟩ hb k => by
  cases hb
  obtain ⟨p⟩ := p
  obtain ⟨z, h1, h2⟩ := p F vs t
  exact ⟨q, vs, i, z, ev, rfl, sqT_ex x h, atI_nat h1, k z h2⟩
end
/-! ### operators by their short names: what the tool writes -/
section
variable {X : Cx} {W : WX} {G : Gm}
theorem fv_ix {α β γ : Type} {r : R2} {a b : Expr} {pos : Pos} {x : α} {y : β} {m : M γ} {A : Rl α} {B : Rl β} {R : Rl γ} (ho : IxR X r) (hl : OpP r A B x y m R) (ha : FE X W G a (M.ok x) A) (hb : FE X W G b (M.ok y) B) (hs : PlainIx b := by exact fun _ _ => rfl) :
    FE X W G (.Subscript a b pos) m R := PE.weak (pe_ix ho ha hb hs) fun _ _ _ h => op_runV hl (fun _ _ _ z => z) (fun _ _ _ z => z) h
theorem fe_ix {α β γ : Type} {r : R2} {a b : Expr} {pos : Pos} {ma : M α} {mb : M β} {g : α → β → M γ} {A : Rl α} {B : Rl β} {R : Rl γ} (ho : IxR X r) (hl : ∀ a b, OpP r A B a b (g a b) R) (ha : FE X W G a ma A) (hb : FE X W G b mb B) (hs : PlainIx b := by exact fun _ _ => rfl) :
    FE X W G (.Subscript a b pos) (ma.bind fun x => mb.bind fun y => g x y) R := PE.weak (pe_ix ho ha hb hs) fun _ _ _ h => op_run hl (fun _ _ _ z => z) (fun _ _ _ z => z) h
/-! ### arguments, displays -/
theorem fa_nil : FA X W G [] (M.ok ()) ra0 := PA.weak pa_nil fun σ H Q ⟨B, tl, F, T⟩ => T.ok () rfl F H (Gr.refl T.fh) [] rfl
theorem fa_cons {α β : Type} {e : Expr} {es : List Expr} {m : M α} {ms : M β} {R : Rl α} {T : Ra β} (he : FE X W G e m R) (hr : FA X W G es ms T) (hs : starEach (e :: es) X.env = (false, eval e X.env) :: starEach es X.env := by rfl) :
    FA X W G (e :: es) (m.bind fun x => ms.bind fun y => M.ok (x, y)) (rac R T) := PA.weak (pa_cons he hr hs) fun σ H Q ⟨B, tl, F, D⟩ =>
  ⟨B, tl, F, D.seq fun x F1 H1 _ g1 D1 v rv => ⟨B, tl, F1, D1.seq fun y F2 H2 _ g2 D2 vs rvs => D2.ok (x, y) rfl F2 H2 (Gr.refl g2.fh) (v :: vs) ⟨v, vs, rfl, R.st rv g2, T.pre rvs g1.h.kn⟩⟩⟩
theorem va_cons {α β : Type} {e : Expr} {es : List Expr} {x : α} {y : β} {R : Rl α} {T : Ra β} (he : FE X W G e (M.ok x) R) (hr : FA X W G es (M.ok y) T) (hs : starEach (e :: es) X.env = (false, eval e X.env) :: starEach es X.env := by rfl) :
    FA X W G (e :: es) (M.ok (x, y)) (rac R T) := fa_cons he hr hs
/-- values to the items of a tuple -/
def TvOf {α : Type} (R : Ra α) (T : Tv α) : Prop := ∀ a H0 F H vs, R.r a H0 F H vs → T.r a F vs
/-- the parts of a display as one list of frozen things -/
structure Lo {β : Type} (A : Rf β) {α : Type} (R : Ra α) (l : α → List β) : Prop where
  run : ∀ a H0 F H vs, R.r a H0 F H vs → Pw (fun x v => A.r x F v) (l a) vs
theorem lo_nil {β : Type} {A : Rf β} : Lo A ra0 (fun _ => []) := ⟨fun a H0 F H vs h => by cases h; exact .nil⟩
theorem lo_cons {β α : Type} {A : Rf β} {R : Ra α} {l : α → List β} (h : Lo A R l) : Lo A (rac A.up R) (fun a => a.1 :: l a.2) := ⟨fun a H0 F H vs ⟨v, r, e, h1, h2⟩ => by
  subst e
  exact .cons h1 (h.run _ _ _ _ _ h2)⟩
/-- a tuple's parts: β from the arguments' α -/
structure To {β : Type} (T : Tv β) {α : Type} (R : Ra α) (l : α → β) : Prop where
  run : ∀ a H0 F H vs, R.r a H0 F H vs → T.r (l a) F vs
theorem to_1 {β : Type} {A : Rf β} : To (tv1 A) (rac A.up ra0) (fun a => a.1) := ⟨fun a H0 F H vs ⟨v, r, e, h1, h2⟩ => by
  cases h2
  exact ⟨v, e, h1⟩⟩
theorem to_c {β γ α : Type} {A : Rf β} {T : Tv γ} {R : Ra α} {l : α → γ} (h : To T R l) : To (tvc A T) (rac A.up R) (fun a => (a.1, l a.2)) := ⟨fun a H0 F H vs ⟨v, r, e, h1, h2⟩ => ⟨v, r, e, h1, h.run _ _ _ _ _ h2⟩⟩
theorem to_len {β α : Type} {R : Ra α} {A : Rf β} {l : α → List β} (h : Lo A R l) {a : α} {H0 F H : Hp} {vs : List V} (r : R.r a H0 F H vs) : (l a).length = vs.length := (h.run _ _ _ _ _ r).len
theorem fe_list {α β : Type} {es : List Expr} {pos : Pos} {m : M α} {R : Ra α} {A : Rf β} {l : α → List β} (h : FA X W G es m R) (hl : Lo A R l) (hz : ∀ a, (l a).length ≤ sizeLine := by intro a; exact Nat.le_of_ble_eq_true rfl) : FE X W G (.List es pos) (m.bind fun a => M.ok (l a)) (ro (tL X.K A)) :=
  PE.weak (pe_lst h) fun σ H Q ⟨B, tl, F, D⟩ => ⟨B, tl, F, D.seq fun a F1 H1 _ g1 D1 vs r => by
    have q := hl.run _ _ _ _ _ r
    refine ⟨by rw [← q.len]; exact hz a, fun p hp => D1.ok (l a) rfl F1 _ (Gr.newM g1.fh hp) (.ref p) ⟨[p], ⟨p, vs, rfl, upd_same, q, rfl⟩, fun x hx => ?_⟩⟩
    cases List.mem_singleton.mp hx
    exact ⟨g1.h.free hp, g1.fh.free hp, NT.up⟩⟩
theorem fv_list {α β : Type} {es : List Expr} {pos : Pos} {a : α} {R : Ra α} {A : Rf β} {l : α → List β} {ls : List β} (h : FA X W G es (M.ok a) R) (hl : Lo A R l) (hme : l a = ls := by rfl) (hz : ∀ a, (l a).length ≤ sizeLine := by intro a; exact Nat.le_of_ble_eq_true rfl) : FE X W G (.List es pos) (M.ok ls) (ro (tL X.K A)) := by
  rw [← hme]
  exact fe_list h hl hz
theorem fe_nil {β : Type} {A : Rf β} {pos : Pos} : FE X W G (.List [] pos) (M.ok []) (ro (tL X.K A)) := fv_list fa_nil lo_nil rfl (fun _ => Nat.zero_le _)
theorem fe_tup {α β : Type} {es : List Expr} {k : Nat} {pos : Pos} {m : M α} {R : Ra α} {T : Tv β} {l : α → β} (h : FA X W G es m R) (hl : To T R l) (hz : ∀ a H0 F H vs, R.r a H0 F H vs → vs.length ≤ sizeLine) : FE X W G (.Tuple es k pos) (m.bind fun a => M.ok (l a)) (fTup X.K T).up :=
  PE.weak (pe_tup h) fun σ H Q ⟨B, tl, F, D⟩ => ⟨B, tl, F, D.seq fun a F1 H1 _ g1 D1 vs r => by
    have q := hl.run _ _ _ _ _ r
    exact ⟨hz _ _ _ _ _ r, fun p hp => D1.ok (l a) rfl _ _ (Gr.newF g1.fh hp) (.ref p) ⟨p, vs, rfl, .inl (.inl upd_same), T.st q (Ex.new (g1.fh.free hp))⟩⟩⟩
theorem fv_tup {α β : Type} {es : List Expr} {k : Nat} {pos : Pos} {a : α} {R : Ra α} {T : Tv β} {l : α → β} {ls : β} (h : FA X W G es (M.ok a) R) (hl : To T R l) (hz : ∀ a H0 F H vs, R.r a H0 F H vs → vs.length ≤ sizeLine) (hme : l a = ls := by rfl) : FE X W G (.Tuple es k pos) (M.ok ls) (fTup X.K T).up := by
  rw [← hme]
  exact fe_tup h hl hz
theorem sz0 : ∀ (a : Unit) (H0 F H : Hp) (vs : List V), ra0.r a H0 F H vs → vs.length ≤ 0 := fun _ _ _ _ vs h => by cases h; exact Nat.le_refl 0
theorem szc {α β : Type} {R : Rl α} {T : Ra β} {n : Nat} (h : ∀ a H0 F H vs, T.r a H0 F H vs → vs.length ≤ n) : ∀ a H0 F H vs, (rac R T).r a H0 F H vs → vs.length ≤ n + 1 := fun a H0 F H vs ⟨v, r, e, _, t⟩ => by
  subst e
  exact Nat.succ_le_succ (h _ _ _ _ _ t)
theorem szl {α : Type} {R : Ra α} {n : Nat} (h : ∀ a H0 F H vs, R.r a H0 F H vs → vs.length ≤ n) (hn : n ≤ sizeLine := by decide) : ∀ a H0 F H vs, R.r a H0 F H vs → vs.length ≤ sizeLine := fun a H0 F H vs r => Nat.le_trans (h _ _ _ _ _ r) hn
/-! ### calls of built-ins, methods of texts and lists -/
structure CallP {α γ : Type} (r : List V → Hp → VK → Prop) (A : Ra α) (a : α) (m : M γ) (R : Rl γ) : Prop where
  ne : ∀ e, m ≠ M.err e
  run : ∀ F H vs H0 (Q : VK), Ex F H → A.r a H0 F H vs → ∀ c, m = M.ok c → (∀ z F' H', Gr F H F' H' → R.r c H F' H' z → Q z H') → r vs H Q
theorem fe_callB {α γ : Type} {id : String} {x : Str} {p pos : Pos} {e : Expr} {es : List Expr} {m : M α} {A : Ra α} {g : α → M γ} {R : Rl γ} {r : List V → Hp → VK → Prop} (hc : CallR X (.builtin id) r) (hl : ∀ a, CallP r A a (g a) R) (hm : X.mg x = none) (ha : FA X W G (e :: es) m A)
    (hg : Gl X x := by rfl) (hv : bootBuiltins x = some (.builtin id) := by decide +kernel) (hn : x ≠ "__name__" := by decide) (hdb : (x == ("__debug__" : Str)) = false := by decide) (he : starEach (e :: es) X.env = (false, eval e X.env) :: starEach es X.env := by rfl) (hpl : (backTo pos (starEach es X.env)).any (·.1) = false := by rfl) :
    FE X W G (.Call (.Name x p) (e :: es) [] pos) (m.bind g) R := PE.weak (pe_callB hc hg hm hv ha hn hdb he hpl) fun σ H Q ⟨B, tl, F, T⟩ => ⟨B, tl, F, T.seq fun a F1 H1 _ g1 T1 vs rv => by
    obtain ⟨c, ec, q⟩ := T1.out (hl a).ne
    exact (hl a).run F1 H1 vs H Q g1.fh rv c ec fun z F' H' g2 rz => T1.ok c ec F' H' g2 z (R.pre rz g1.h.kn)⟩
theorem fv_callB {α γ : Type} {id : String} {x : Str} {p pos : Pos} {e : Expr} {es : List Expr} {a : α} {A : Ra α} {m : M γ} {R : Rl γ} {r : List V → Hp → VK → Prop} (hc : CallR X (.builtin id) r) (hl : CallP r A a m R) (hm : X.mg x = none) (ha : FA X W G (e :: es) (M.ok a) A)
    (hg : Gl X x := by rfl) (hv : bootBuiltins x = some (.builtin id) := by decide +kernel) (hn : x ≠ "__name__" := by decide) (hdb : (x == ("__debug__" : Str)) = false := by decide) (he : starEach (e :: es) X.env = (false, eval e X.env) :: starEach es X.env := by rfl) (hpl : (backTo pos (starEach es X.env)).any (·.1) = false := by rfl) :
    FE X W G (.Call (.Name x p) (e :: es) [] pos) m R := PE.weak (pe_callB hc hg hm hv ha hn hdb he hpl) fun σ H Q ⟨B, tl, F, T⟩ => by
    have T : Told X.K W G ((M.ok a).bind fun _ => m) _ σ H B tl F := T
    refine ⟨B, tl, F, T.seq fun a' F1 H1 ea g1 T1 vs rv => ?_⟩
    cases M.ok_inj ea
    obtain ⟨c, ec, q⟩ := T1.out hl.ne
    exact hl.run F1 H1 vs H Q g1.fh rv c ec fun z F' H' g2 rz => T1.ok c ec F' H' g2 z (R.pre rz g1.h.kn)
theorem fe_callTy {α γ : Type} {id : String} {x : Str} {p pos : Pos} {e : Expr} {es : List Expr} {m : M α} {A : Ra α} {g : α → M γ} {R : Rl γ} {r : List V → Hp → VK → Prop} (hc : CallR X (.type id) r) (hl : ∀ a, CallP r A a (g a) R) (hm : X.mg x = none) (ha : FA X W G (e :: es) m A)
    (hg : Gl X x := by rfl) (hv : bootBuiltins x = some (.type id) := by decide +kernel) (hn : x ≠ "__name__" := by decide) (hdb : (x == ("__debug__" : Str)) = false := by decide) (he : starEach (e :: es) X.env = (false, eval e X.env) :: starEach es X.env := by rfl) (hpl : (backTo pos (starEach es X.env)).any (·.1) = false := by rfl) :
    FE X W G (.Call (.Name x p) (e :: es) [] pos) (m.bind g) R := PE.weak (pe_callTy hc hg hm hv ha hn hdb he hpl) fun σ H Q ⟨B, tl, F, T⟩ => ⟨B, tl, F, T.seq fun a F1 H1 _ g1 T1 vs rv => by
    obtain ⟨c, ec, q⟩ := T1.out (hl a).ne
    exact (hl a).run F1 H1 vs H Q g1.fh rv c ec fun z F' H' g2 rz => T1.ok c ec F' H' g2 z (R.pre rz g1.h.kn)⟩
theorem fv_callTy {α γ : Type} {id : String} {x : Str} {p pos : Pos} {e : Expr} {es : List Expr} {a : α} {A : Ra α} {m : M γ} {R : Rl γ} {r : List V → Hp → VK → Prop} (hc : CallR X (.type id) r) (hl : CallP r A a m R) (hm : X.mg x = none) (ha : FA X W G (e :: es) (M.ok a) A)
    (hg : Gl X x := by rfl) (hv : bootBuiltins x = some (.type id) := by decide +kernel) (hn : x ≠ "__name__" := by decide) (hdb : (x == ("__debug__" : Str)) = false := by decide) (he : starEach (e :: es) X.env = (false, eval e X.env) :: starEach es X.env := by rfl) (hpl : (backTo pos (starEach es X.env)).any (·.1) = false := by rfl) :
    FE X W G (.Call (.Name x p) (e :: es) [] pos) m R := PE.weak (pe_callTy hc hg hm hv ha hn hdb he hpl) fun σ H Q ⟨B, tl, F, T⟩ => by
    have T : Told X.K W G ((M.ok a).bind fun _ => m) _ σ H B tl F := T
    refine ⟨B, tl, F, T.seq fun a' F1 H1 ea g1 T1 vs rv => ?_⟩
    cases M.ok_inj ea
    obtain ⟨c, ec, q⟩ := T1.out hl.ne
    exact hl.run F1 H1 vs H Q g1.fh rv c ec fun z F' H' g2 rz => T1.ok c ec F' H' g2 z (R.pre rz g1.h.kn)
abbrev a1 {α : Type} (R : Rl α) : Ra (α × Unit) := rac R ra0
abbrev a2 {α β : Type} (R : Rl α) (T : Rl β) : Ra (α × β × Unit) := rac R (rac T ra0)
theorem cp1 {α γ : Type} {r : List V → Hp → VK → Prop} {A : Rl α} {a : α} {c : γ} {R : Rf γ} (h : ∀ F H v H0 (Q : VK), Ex F H → A.r a H0 F H v → (∀ z, R.r c F z → Q z H) → r [v] H Q) : CallP r (a1 A) (a, ()) (M.ok c) R.up :=
  ⟨fun e q => (nomatch q), fun F H vs H0 Q x ⟨v, r, e, h1, h2⟩ c' ec k => by
    cases M.ok_inj ec
    cases h2
    subst e
    exact h F H v H0 Q x h1 fun z hz => k z F H (Gr.refl x) hz⟩
theorem cp1N {α γ : Type} {r : List V → Hp → VK → Prop} {A : Rl α} {a : α} {c : γ} {R : Rf γ} {C : Prop} [Decidable C] (h : C → ∀ F H v H0 (Q : VK), Ex F H → A.r a H0 F H v → (∀ z, R.r c F z → Q z H) → r [v] H Q) : CallP r (a1 A) (a, ()) (M.need C (M.ok c)) R.up :=
  ⟨need_err, fun F H vs H0 Q x ⟨v, r, e, h1, h2⟩ c' ec k => by
    obtain ⟨hc, rfl⟩ := need_ok ec
    cases h2
    subst e
    exact h hc F H v H0 Q x h1 fun z hz => k z F H (Gr.refl x) hz⟩
theorem cl_lenS {a : List Nat} : CallP (fun xs H Q => ∃ x n, xs = [x] ∧ LenV X.K x H n ∧ Q (.int n) H) (a1 fTxt.up) (a, ()) (M.ok (a.length : Int)) fInt.up := cp1 fun F H v H0 Q x ⟨e, hl⟩ k => by
  subst e
  exact ⟨_, a.length, rfl, ⟨by rw [S_len]; exact hl.len, (S_len a).symm⟩, k _ rfl⟩
theorem cl_lenL {α : Type} {A : Rf α} {a : List α} : CallP (fun xs H Q => ∃ x n, xs = [x] ∧ LenV X.K x H n ∧ Q (.int n) H) (a1 (bLst X.K A)) (a, ()) (M.ok (a.length : Int)) fInt.up := cp1 fun F H v H0 Q x ⟨p, vs, e, h, q⟩ k => by
  subst e
  exact ⟨_, a.length, rfl, .inl ⟨vs, h, q.len⟩, k _ rfl⟩
theorem cl_int {a : Int} : CallP (fun xs H Q => (∃ i, xs = [.int i] ∧ Q (.int i) H) ∨ ∃ k, xs = [.bl k] ∧ Q (.int (if k then 1 else 0)) H) (a1 fInt.up) (a, ()) (M.ok a) fInt.up := cp1 fun F H v H0 Q x e k => .inl ⟨a, by rw [e], k _ rfl⟩
theorem cl_intB {a : Bool} : CallP (fun xs H Q => (∃ i, xs = [.int i] ∧ Q (.int i) H) ∨ ∃ k, xs = [.bl k] ∧ Q (.int (if k then 1 else 0)) H) (a1 fBool.up) (a, ()) (M.ok (if a = true then (1 : Int) else 0)) fInt.up := cp1 fun F H v H0 Q x e k => .inr ⟨a, by rw [e], k _ rfl⟩
theorem cl_abs {a : Int} : CallP (fun xs H Q => ∃ i, xs = [.int i] ∧ Q (.int (if i < 0 then -i else i)) H) (a1 fInt.up) (a, ()) (M.ok (if a < 0 then -a else a)) fInt.up := cp1 fun F H v H0 Q x e k => ⟨a, by rw [e], k _ rfl⟩
/-- the figures of a number -/
def strI (i : Int) : List Nat := (toString i : Str).cps.toList
theorem cl_str {a : Int} : CallP (fun xs H Q => ∃ i, xs = [.int i] ∧ i.natAbs.log2 < 1920 ∧ Q (.str (toString i)) H) (a1 fInt.up) (a, ()) (M.need (a.natAbs.log2 < 1920 ∧ tOk (strI a)) (M.ok (strI a))) fTxt.up := cp1N fun hc F H v H0 Q x e k => ⟨a, by rw [e], hc.1, k _ ⟨by rw [strI, S_of], hc.2⟩⟩
theorem cl_ord {a : List Nat} : CallP (fun xs H Q => ∃ x, xs = [.str x] ∧ x.length = 1 ∧ Q (.int (x.cps.getD 0 0 : Nat)) H) (a1 fTxt.up) (a, ()) (M.need (a.length = 1) (M.ok ((a.getD 0 0 : Nat) : Int))) fInt.up := cp1N fun hc F H v H0 Q x ⟨e, _⟩ k => ⟨S a, by rw [e], by rw [S_len]; exact hc, k _ (by simp [S]; rfl)⟩
theorem cl_min2 {a b : Int} : CallP (fun xs H Q => ∃ i j, xs = [.int i, .int j] ∧ Q (.int (if j < i then j else i)) H) (a2 fInt.up fInt.up) (a, b, ()) (M.ok (if b < a then b else a)) fInt.up :=
  ⟨fun e q => (nomatch q), fun F H vs H0 Q x ⟨v, r, e, h1, ⟨v2, r2, e2, h2, h3⟩⟩ c' ec k => by
    cases M.ok_inj ec
    cases h3; cases h1; cases h2; subst e2; subst e
    exact ⟨a, b, rfl, k _ F H (Gr.refl x) rfl⟩⟩
theorem cl_max2 {a b : Int} : CallP (fun xs H Q => ∃ i j, xs = [.int i, .int j] ∧ Q (.int (if j > i then j else i)) H) (a2 fInt.up fInt.up) (a, b, ()) (M.ok (if b > a then b else a)) fInt.up :=
  ⟨fun e q => (nomatch q), fun F H vs H0 Q x ⟨v, r, e, h1, ⟨v2, r2, e2, h2, h3⟩⟩ c' ec k => by
    cases M.ok_inj ec
    cases h3; cases h1; cases h2; subst e2; subst e
    exact ⟨a, b, rfl, k _ F H (Gr.refl x) rfl⟩⟩
/-! ### methods -/
def TyL {α : Type} (K : PySem.W.Frag) (T : String) (O : Rl α) : Prop := ∀ x H0 F H v, O.r x H0 F H v → tyV K T v H
theorem ty_str {K : PySem.W.Frag} : TyL K "str" fTxt.up := fun x H0 F H v ⟨e, _⟩ => by subst e; rfl
theorem ty_list {K : PySem.W.Frag} {α : Type} {A : Rf α} : TyL K "list" (bLst K A) := fun x H0 F H v ⟨p, vs, e, h, _⟩ => by subst e; exact .inl ⟨rfl, vs, h⟩
structure MetP {α β γ : Type} (r : V → List V → Hp → VK → Prop) (O : Rl α) (A : Ra β) (o : α) (a : β) (m : M γ) (R : Rl γ) : Prop where
  ne : ∀ e, m ≠ M.err e
  run : ∀ F H v vs H0 (Q : VK), Ex F H → O.r o H0 F H v → A.r a H0 F H vs → ∀ c, m = M.ok c → (∀ z F' H', Gr F H F' H' → R.r c H F' H' z → Q z H') → r v vs H Q
theorem fe_bm0 {α γ : Type} {T id : String} {name : Str} {o : Expr} {apos cpos : Pos} {mo : M α} {O : Rl α} {g : α → M γ} {R : Rl γ} {r : V → List V → Hp → VK → Prop} (pa : PlainAttrs T) (slot : Slot T name id) (hty : typeOf (.builtin id) = pure (.type "method_descriptor")) (hm : MtR X id r) (ht : TyL X.K T O)
    (hl : ∀ x, MetP r O ra0 x () (g x) R) (ho : FE X W G o mo O) (hbase : attributeBase o name X.env (eval o X.env) = eval o X.env := by rfl) (hline : (apos.endLine == cpos.line) = true := by rfl) :
    FE X W G (.Call (.Attribute o name apos) [] [] cpos) (mo.bind g) R := PE.weak (pe_bm0 pa slot hty hm ho hbase hline) fun σ H Q ⟨B, tl, F, D⟩ => ⟨B, tl, F, D.seq fun x F1 H1 _ g1 D1 v rv => by
    obtain ⟨c, ec, q⟩ := D1.out (hl x).ne
    exact ⟨ht x H F1 H1 v rv, (hl x).run F1 H1 v [] H Q g1.fh rv rfl c ec fun z F' H' g2 rz => D1.ok c ec F' H' g2 z (R.pre rz g1.h.kn)⟩⟩
theorem fv_bm0 {α γ : Type} {T id : String} {name : Str} {o : Expr} {apos cpos : Pos} {x : α} {O : Rl α} {m : M γ} {R : Rl γ} {r : V → List V → Hp → VK → Prop} (pa : PlainAttrs T) (slot : Slot T name id) (hty : typeOf (.builtin id) = pure (.type "method_descriptor")) (hm : MtR X id r) (ht : TyL X.K T O)
    (hl : MetP r O ra0 x () m R) (ho : FE X W G o (M.ok x) O) (hbase : attributeBase o name X.env (eval o X.env) = eval o X.env := by rfl) (hline : (apos.endLine == cpos.line) = true := by rfl) :
    FE X W G (.Call (.Attribute o name apos) [] [] cpos) m R := PE.weak (pe_bm0 pa slot hty hm ho hbase hline) fun σ H Q ⟨B, tl, F, D⟩ => by
    have D : Told X.K W G ((M.ok x).bind fun _ => m) _ σ H B tl F := D
    refine ⟨B, tl, F, D.seq fun x' F1 H1 ex g1 D1 v rv => ?_⟩
    cases M.ok_inj ex
    obtain ⟨c, ec, q⟩ := D1.out hl.ne
    exact ⟨ht x H F1 H1 v rv, hl.run F1 H1 v [] H Q g1.fh rv rfl c ec fun z F' H' g2 rz => D1.ok c ec F' H' g2 z (R.pre rz g1.h.kn)⟩
theorem fe_bm {α β γ : Type} {T id : String} {name : Str} {o e : Expr} {es : List Expr} {apos cpos : Pos} {mo : M α} {ma : M β} {O : Rl α} {A : Ra β} {g : α → β → M γ} {R : Rl γ} {r : V → List V → Hp → VK → Prop} (pa : PlainAttrs T) (slot : Slot T name id) (hty : typeOf (.builtin id) = pure (.type "method_descriptor")) (hm : MtR X id r) (ht : TyL X.K T O)
    (hl : ∀ x a, MetP r O A x a (g x a) R) (ho : FE X W G o mo O) (ha : FA X W G (e :: es) ma A) (hbase : attributeBase o name X.env (eval o X.env) = eval o X.env := by rfl)
    (hfew : ((backTo cpos (starEach (e :: es) X.env)).all (fun x => !x.1) && (backToKw cpos (keywordEach [] X.env)).all (fun x => x.1.isSome)
      && decide ((e :: es).length + ([] : List Keyword).length + (if ([] : List Keyword).isEmpty then 0 else 1) < 30)) = true := by rfl)
    (hline : (apos.endLine == cpos.line) = true := by rfl) (hs : starEach (e :: es) X.env = (false, eval e X.env) :: starEach es X.env := by rfl) (hplain : (backTo cpos (starEach es X.env)).any (·.1) = false := by rfl) :
    FE X W G (.Call (.Attribute o name apos) (e :: es) [] cpos) (mo.bind fun x => ma.bind fun a => g x a) R := PE.weak (pe_bm pa slot hty hm ho ha hbase hfew hline hs hplain) fun σ H Q ⟨B, tl, F, D⟩ => ⟨B, tl, F, D.seq fun x F1 H1 _ g1 D1 v rv => ⟨ht x H F1 H1 v rv, ⟨B, tl, F1, D1.seq fun a F2 H2 _ g2 D2 vs rvs => by
    obtain ⟨c, ec, q⟩ := D2.out (hl x a).ne
    exact (hl x a).run F2 H2 v vs H Q g2.fh (O.st rv g2) (A.pre rvs g1.h.kn) c ec fun z F' H' g3 rz => D2.ok c ec F' H' g3 z (R.pre rz (g1.h.trans g2.h).kn)⟩⟩⟩
theorem fv_bm {α β γ : Type} {T id : String} {name : Str} {o e : Expr} {es : List Expr} {apos cpos : Pos} {x : α} {a : β} {O : Rl α} {A : Ra β} {m : M γ} {R : Rl γ} {r : V → List V → Hp → VK → Prop} (pa : PlainAttrs T) (slot : Slot T name id) (hty : typeOf (.builtin id) = pure (.type "method_descriptor")) (hm : MtR X id r) (ht : TyL X.K T O)
    (hl : MetP r O A x a m R) (ho : FE X W G o (M.ok x) O) (ha : FA X W G (e :: es) (M.ok a) A) (hbase : attributeBase o name X.env (eval o X.env) = eval o X.env := by rfl)
    (hfew : ((backTo cpos (starEach (e :: es) X.env)).all (fun x => !x.1) && (backToKw cpos (keywordEach [] X.env)).all (fun x => x.1.isSome)
      && decide ((e :: es).length + ([] : List Keyword).length + (if ([] : List Keyword).isEmpty then 0 else 1) < 30)) = true := by rfl)
    (hline : (apos.endLine == cpos.line) = true := by rfl) (hs : starEach (e :: es) X.env = (false, eval e X.env) :: starEach es X.env := by rfl) (hplain : (backTo cpos (starEach es X.env)).any (·.1) = false := by rfl) :
    FE X W G (.Call (.Attribute o name apos) (e :: es) [] cpos) m R := PE.weak (pe_bm pa slot hty hm ho ha hbase hfew hline hs hplain) fun σ H Q ⟨B, tl, F, D⟩ => by
    have D : Told X.K W G ((M.ok x).bind fun _ => (M.ok a).bind fun _ => m) _ σ H B tl F := D
    refine ⟨B, tl, F, D.seq fun x' F1 H1 ex g1 D1 v rv => ⟨ht x' H F1 H1 v rv, ⟨B, tl, F1, D1.seq fun a' F2 H2 ea g2 D2 vs rvs => ?_⟩⟩⟩
    cases M.ok_inj ex
    cases M.ok_inj ea
    obtain ⟨c, ec, q⟩ := D2.out hl.ne
    exact hl.run F2 H2 v vs H Q g2.fh (O.st rv g2) (A.pre rvs g1.h.kn) c ec fun z F' H' g3 rz => D2.ok c ec F' H' g3 z (R.pre rz (g1.h.trans g2.h).kn)
theorem mp0 {α γ : Type} {r : V → List V → Hp → VK → Prop} {O : Rl α} {o : α} {c : γ} {R : Rf γ} (h : ∀ F H v H0 (Q : VK), Ex F H → O.r o H0 F H v → (∀ z, R.r c F z → Q z H) → r v [] H Q) : MetP r O ra0 o () (M.ok c) R.up :=
  ⟨fun e q => (nomatch q), fun F H v vs H0 Q x ho ha c' ec k => by
    cases M.ok_inj ec
    cases ha
    exact h F H v H0 Q x ho fun z hz => k z F H (Gr.refl x) hz⟩
theorem mp0N {α γ : Type} {r : V → List V → Hp → VK → Prop} {O : Rl α} {o : α} {c : γ} {R : Rf γ} {C : Prop} [Decidable C] (h : C → ∀ F H v H0 (Q : VK), Ex F H → O.r o H0 F H v → (∀ z, R.r c F z → Q z H) → r v [] H Q) : MetP r O ra0 o () (M.need C (M.ok c)) R.up :=
  ⟨need_err, fun F H v vs H0 Q x ho ha c' ec k => by
    obtain ⟨hc, rfl⟩ := need_ok ec
    cases ha
    exact h hc F H v H0 Q x ho fun z hz => k z F H (Gr.refl x) hz⟩
theorem mp1 {α β γ : Type} {r : V → List V → Hp → VK → Prop} {O : Rl α} {A : Rl β} {o : α} {a : β} {c : γ} {R : Rf γ} (h : ∀ F H v w H0 (Q : VK), Ex F H → O.r o H0 F H v → A.r a H0 F H w → (∀ z, R.r c F z → Q z H) → r v [w] H Q) : MetP r O (a1 A) o (a, ()) (M.ok c) R.up :=
  ⟨fun e q => (nomatch q), fun F H v vs H0 Q x ho ⟨w, r, e, h1, h2⟩ c' ec k => by
    cases M.ok_inj ec
    cases h2
    subst e
    exact h F H v w H0 Q x ho h1 fun z hz => k z F H (Gr.refl x) hz⟩
theorem mp1N {α β γ : Type} {r : V → List V → Hp → VK → Prop} {O : Rl α} {A : Rl β} {o : α} {a : β} {c : γ} {R : Rf γ} {C : Prop} [Decidable C] (h : C → ∀ F H v w H0 (Q : VK), Ex F H → O.r o H0 F H v → A.r a H0 F H w → (∀ z, R.r c F z → Q z H) → r v [w] H Q) : MetP r O (a1 A) o (a, ()) (M.need C (M.ok c)) R.up :=
  ⟨need_err, fun F H v vs H0 Q x ho ⟨w, r, e, h1, h2⟩ c' ec k => by
    obtain ⟨hc, rfl⟩ := need_ok ec
    cases h2
    subst e
    exact h hc F H v w H0 Q x ho h1 fun z hz => k z F H (Gr.refl x) hz⟩
/-- a text's signs -/
abbrev uS (x : Str) : List Nat := x.cps.toList
theorem uS_txt {x : Str} {F : Hp} (h : tOk (uS x)) : fTxt.r (uS x) F (.str x) := ⟨by rw [S_of], h⟩
theorem ml_test {f : Str → Bool} {o : List Nat} : MetP (fun x xs H Q => ∃ a, x = .str a ∧ xs = [] ∧ True ∧ Q (.bl (f a)) H) fTxt.up ra0 o () (M.ok (f (S o))) fBool.up := mp0 fun F H v H0 Q x ⟨e, _⟩ k => ⟨S o, e, rfl, trivial, k _ rfl⟩
theorem ml_map {f : Str → Str} {n : Nat} {o : List Nat} : MetP (fun x xs H Q => ∃ a, x = .str a ∧ xs = [] ∧ a.length ≤ n ∧ Q (.str (f a)) H) fTxt.up ra0 o () (M.need (o.length ≤ n ∧ tOk (uS (f (S o)))) (M.ok (uS (f (S o))))) fTxt.up := mp0N fun hc F H v H0 Q x ⟨e, _⟩ k => ⟨S o, e, rfl, by rw [S_len]; exact hc.1, k _ (uS_txt hc.2)⟩
theorem ml_test1 {f : Str → Str → Bool} {o a : List Nat} : MetP (fun x xs H Q => ∃ a b, x = .str a ∧ xs = [.str b] ∧ Q (.bl (f a b)) H) fTxt.up (a1 fTxt.up) o (a, ()) (M.ok (f (S o) (S a))) fBool.up := mp1 fun F H v w H0 Q x ⟨e, _⟩ ⟨e2, _⟩ k => ⟨S o, S a, e, by rw [e2], k _ rfl⟩
theorem ml_int1 {f : Str → Str → Int} {o a : List Nat} : MetP (fun x xs H Q => ∃ a b, x = .str a ∧ xs = [.str b] ∧ Q (.int (f a b)) H) fTxt.up (a1 fTxt.up) o (a, ()) (M.ok (f (S o) (S a))) fInt.up := mp1 fun F H v w H0 Q x ⟨e, _⟩ ⟨e2, _⟩ k => ⟨S o, S a, e, by rw [e2], k _ rfl⟩
theorem ml_int3 {f : Str → Str → Int → Int} {o a : List Nat} {i : Int} : MetP (fun x xs H Q => ∃ (a b : Str) (i : Int), x = .str a ∧ xs = [.str b, .int i] ∧ Q (.int (f a b i)) H) fTxt.up (a2 fTxt.up fInt.up) o (a, i, ()) (M.ok (f (S o) (S a) i)) fInt.up :=
  ⟨fun e q => (nomatch q), fun F H v vs H0 Q x ⟨e, _⟩ ⟨w, r, e1, ⟨e2, _⟩, ⟨w2, r2, e3, h3, h4⟩⟩ c' ec k => by
    cases M.ok_inj ec
    cases h4; cases h3; subst e2; subst e3; subst e1
    exact ⟨S o, S a, i, e, rfl, k _ F H (Gr.refl x) rfl⟩⟩
theorem ml_pad {f : Str → Int → Str} {o : List Nat} {i : Int} : MetP (fun x xs H Q => ∃ (a : Str) (i : Int), x = .str a ∧ xs = [.int i] ∧ PadOk i = true ∧ Q (.str (f a i)) H) fTxt.up (a1 fInt.up) o (i, ()) (M.need (PadOk i = true ∧ tOk (uS (f (S o) i))) (M.ok (uS (f (S o) i)))) fTxt.up := mp1N fun hc F H v w H0 Q x ⟨e, _⟩ e2 k => ⟨S o, i, e, by rw [e2], hc.1, k _ (uS_txt hc.2)⟩
/-- a list of texts as the library's texts -/
theorem pw_strs : ∀ {as : List (List Nat)} {vs : List V} {F : Hp}, Pw (fun a x => fTxt.r a F x) as vs → vs = (as.map S).map V.str
  | _, _, _, .nil => rfl
  | _, _, _, .cons ⟨e, _⟩ t => by
    rw [e, pw_strs t]
    rfl
def joinL (a : List Nat) (xs : List (List Nat)) : List Nat := uS (Txt.join (S a) (xs.map S))
theorem ml_join {K : PySem.W.Frag} {o : List Nat} {a : List (List Nat)} : MetP (fun x xs H Q => ∃ a p, ∃ ys : List Str, x = .str a ∧ xs = [.ref p] ∧ (SqL K H p (ys.map V.str) ∨ SqT K H p (ys.map V.str)) ∧
    (ys.map (·.length)).sum + ys.length * a.length ≤ 16777216 ∧ Q (.str (Txt.join a ys)) H) fTxt.up (a1 (bLst K fTxt)) o (a, ()) (M.need ((a.map List.length).sum + a.length * o.length ≤ 16777216 ∧ tOk (joinL o a)) (M.ok (joinL o a))) fTxt.up :=
  mp1N fun hc F H v w H0 Q x ⟨e, _⟩ ⟨p, vs, e2, h, q⟩ k => ⟨S o, p, a.map S, e, by rw [e2], .inl (by rw [← pw_strs q]; exact h), by
    have e3 : ((a.map S).map (·.length)) = a.map List.length := by
      rw [List.map_map]
      exact List.map_congr_left fun x _ => S_len x
    rw [e3, S_len, List.length_map]
    exact hc.1, k _ (uS_txt hc.2)⟩
/-! ### slices -/
def tO (K : PySem.W.Frag) (W : WX) (G : Gm) (m : M (Option Int)) : TO := fun σ H Q => ∃ B tl F, Told K W G m (fun a F' H' => Q a H') σ H B tl F
abbrev FO (X : Cx) (W : WX) (G : Gm) (eo : Option Expr) (m : M (Option Int)) : Prop := PO X eo (tO X.K W G m)
theorem PO.weak {X : Cx} {e : Option Expr} {t t' : TO} (h : PO X e t) (w : ∀ σ H Q, t' σ H Q → t σ H Q) : PO X e t' := ⟨fun pins s σ H Q I q => h.run pins s σ H Q I (w _ _ _ q)⟩
theorem fo_none : FO X W G none (M.ok none) := PO.weak po_none fun σ H Q ⟨B, tl, F, D⟩ => D.ok none rfl F H (Gr.refl D.fh)
theorem fo_some {e : Expr} {m : M Int} (h : FE X W G e m fInt.up) : FO X W G (some e) (m.bind fun i => M.ok (some i)) := PO.weak (po_some h) fun σ H Q ⟨B, tl, F, D⟩ =>
  ⟨B, tl, F, D.seq fun i F1 H1 _ g1 D1 v r => ⟨i, r, D1.ok (some i) rfl F1 H1 (Gr.refl g1.fh)⟩⟩
theorem vo_some {e : Expr} {i : Int} (h : FE X W G e (M.ok i) fInt.up) : FO X W G (some e) (M.ok (some i)) := fo_some h
/-- l[lo:hi] -/
def cut {α : Type} (l : List α) (lo hi : Option Int) : List α := (l.drop (HT.sIx l.length 0 lo)).take (HT.sIx l.length l.length hi - HT.sIx l.length 0 lo)
theorem cut_len {α : Type} (l : List α) (lo hi : Option Int) : (cut l lo hi).length ≤ l.length := by
  unfold cut
  rw [List.length_take, List.length_drop]
  omega
theorem cutS_S (l : List Nat) (lo hi : Option Int) : cutS (S l) lo hi = S (cut l lo hi) := by
  unfold cutS cut
  rw [S_cps, S_len]
  rfl
structure SlP {α γ : Type} (r : V → Option Int → Option Int → Hp → VK → Prop) (O : Rl α) (o : α) (lo hi : Option Int) (m : M γ) (R : Rl γ) : Prop where
  ne : ∀ e, m ≠ M.err e
  run : ∀ F H v H0 (Q : VK), Ex F H → O.r o H0 F H v → ∀ c, m = M.ok c → (∀ z F' H', Gr F H F' H' → R.r c H F' H' z → Q z H') → r v lo hi H Q
theorem fe_slice {α γ : Type} {r : V → Option Int → Option Int → Hp → VK → Prop} {e : Expr} {lo hi : Option Expr} {p2 pos : Pos} {me : M α} {ml mh : M (Option Int)} {O : Rl α} {g : α → Option Int → Option Int → M γ} {R : Rl γ} (hr : SlR X r) (hl : ∀ x a b, SlP r O x a b (g x a b) R)
    (he : FE X W G e me O) (h1 : FO X W G lo ml) (h2 : FO X W G hi mh) : FE X W G (.Subscript e (.Slice lo hi none p2) pos) (me.bind fun x => ml.bind fun a => mh.bind fun b => g x a b) R :=
  PE.weak (pe_slice hr he h1 h2) fun σ H Q ⟨B, tl, F, D⟩ => ⟨B, tl, F, D.seq fun x F1 H1 _ g1 D1 v rv => ⟨B, tl, F1, D1.seq fun a F2 H2 _ g2 D2 => ⟨B, tl, F2, D2.seq fun b F3 H3 _ g3 D3 => by
    obtain ⟨c, ec, q⟩ := D3.out (hl x a b).ne
    exact (hl x a b).run F3 H3 v H Q g3.fh (O.st rv (g2.trans g3)) c ec fun z F' H' g4 rz => D3.ok c ec F' H' g4 z (R.pre rz ((g1.h.trans g2.h).trans g3.h).kn)⟩⟩⟩
theorem fv_slice {α γ : Type} {r : V → Option Int → Option Int → Hp → VK → Prop} {e : Expr} {lo hi : Option Expr} {p2 pos : Pos} {x : α} {a b : Option Int} {O : Rl α} {m : M γ} {R : Rl γ} (hr : SlR X r) (hl : SlP r O x a b m R)
    (he : FE X W G e (M.ok x) O) (h1 : FO X W G lo (M.ok a)) (h2 : FO X W G hi (M.ok b)) : FE X W G (.Subscript e (.Slice lo hi none p2) pos) m R :=
  PE.weak (pe_slice hr he h1 h2) fun σ H Q ⟨B, tl, F, D⟩ => by
    have D : Told X.K W G ((M.ok x).bind fun _ => (M.ok a).bind fun _ => (M.ok b).bind fun _ => m) _ σ H B tl F := D
    refine ⟨B, tl, F, D.seq fun x' F1 H1 ex g1 D1 v rv => ⟨B, tl, F1, D1.seq fun a' F2 H2 ea g2 D2 => ⟨B, tl, F2, D2.seq fun b' F3 H3 eb g3 D3 => ?_⟩⟩⟩
    cases M.ok_inj ex
    cases M.ok_inj ea
    cases M.ok_inj eb
    obtain ⟨c, ec, q⟩ := D3.out hl.ne
    exact hl.run F3 H3 v H Q g3.fh (O.st rv (g2.trans g3)) c ec fun z F' H' g4 rz => D3.ok c ec F' H' g4 z (R.pre rz ((g1.h.trans g2.h).trans g3.h).kn)
theorem sp_str {o : List Nat} {lo hi : Option Int} : SlP rSlS fTxt.up o lo hi (M.ok (cut o lo hi)) fTxt.up :=
  ⟨fun e q => (nomatch q), fun F H v H0 Q x ⟨e, hl⟩ c ec k => by
    cases M.ok_inj ec
    exact ⟨S o, e, by rw [S_len]; exact hl.len, by rw [cutS_S]; exact k _ F H (Gr.refl x) ⟨rfl, hl.sub (cut_len _ _ _) fun c hc => List.mem_of_mem_drop (List.mem_of_mem_take hc)⟩⟩⟩
theorem sp_list {α : Type} {A : Rf α} {o : List α} {lo hi : Option Int} : SlP (rSlL X.K) (bLst X.K A) o lo hi (M.ok (cut o lo hi)) (ro (tL X.K A)) :=
  ⟨fun e q => (nomatch q), fun F H v H0 Q x ⟨p, vs, e, h, q⟩ c ec k => by
    cases M.ok_inj ec
    refine ⟨p, vs, e, h, fun l hl => k (.ref l) F _ (Gr.newM x hl) ⟨[l], ⟨l, cutV vs lo hi, rfl, upd_same, ?_, rfl⟩, fun y hy => ?_⟩⟩
    · unfold cutV cut
      rw [q.len]
      exact (q.drop _).take _
    · cases List.mem_singleton.mp hy
      exact ⟨hl, x.free hl, NT.up⟩⟩
end
end LK
namespace LK
open PySem L2
/-! ### where a body stands -/
structure Cok (X : Cx) (W : WX) (k : Nat) : Prop where
  calm : X.calm = true
  tk : Takes X W
  hp : PassesOwn (model X.prog X.w) X.A X.env X.xe
  hr : Room k X.A
  nd : X.N.Nodup
/-! ### a def's contract -/
/-- the heap without the addresses at ms -/
def hid (ms : List Addr) (H : Hp) : Hp := fun a => if a ∈ ms then none else H a
theorem hid_mem {ms : List Addr} {H : Hp} {x : Addr} (h : x ∈ ms) : hid ms H x = none := if_pos h
theorem hid_not {ms : List Addr} {H : Hp} {x : Addr} (h : x ∉ ms) : hid ms H x = H x := if_neg h
theorem hid_none {ms : List Addr} {H : Hp} {x : Addr} (h : hid ms H x = none) : x ∈ ms ∨ H x = none := by
  unfold hid at h
  split at h
  · exact .inl (by assumption)
  · exact .inr h
theorem hid_some {ms : List Addr} {H : Hp} {x : Addr} {o : HO} (h : hid ms H x = some o) : H x = some o ∧ x ∉ ms := by
  unfold hid at h
  split at h
  · cases h
  · exact ⟨h, by assumption⟩
theorem hid_nil {H : Hp} : hid [] H = H := by
  funext a
  exact if_neg (by simp)
/-- some things, each at its value, no two of them with a common object, all of them new or from what was hidden -/
structure CellsOk (Y F H : Hp) (cs : List (V × Sl)) (ms : Nat → List Addr) : Prop where
  has : ∀ (i : Nat) (v : V) (s : Sl), cs[i]? = some (v, s) → ∀ Y', s.r Y' F H v (ms i)
  non : ∀ i : Nat, cs.length ≤ i → ms i = []
  mem : ∀ (i : Nat) (x : Addr), x ∈ ms i → Y x = none ∧ F x = none ∧ NT H x
  sep : ∀ (i : Nat) (x : Addr), x ∈ ms i → ∀ j : Nat, j ≠ i → x ∉ ms j
/-- the arguments as the parameters' slots want them -/
structure PmG (Y F H : Hp) (X : List Addr) (par : List Sl) (vs : List V) (ms : Nat → List Addr) : Prop where
  len : par.length = vs.length
  has : ∀ (i : Nat) (s : Sl), par[i]? = some s → ∃ v, vs[i]? = some v ∧ s.r Y F H v (ms i)
  non : ∀ i : Nat, par.length ≤ i → ms i = []
  mem : ∀ (i : Nat) (x : Addr), x ∈ ms i → F x = none ∧ NT H x
  own : ∀ (i : Nat) (s : Sl), par[i]? = some s → s.own = true → ∀ x ∈ ms i, x ∈ X
  sep : ∀ (i : Nat) (s : Sl), par[i]? = some s → s.own = true → ∀ x ∈ ms i, ∀ j : Nat, j ≠ i → x ∉ ms j
/-- from arguments par a w to an answer res r and to the changed things outs r w (with an error: outsE) -/
def spG (K : PySem.W.Frag) {ε α ρ : Type} (par : α → (Nat → V) → List Sl) (mir : α → Mg ε ρ) (res : ρ → Sl) (outs : ρ → (Nat → V) → List (V × Sl)) (cls : ε → Er) (outsE : ε → (Nat → V) → List (V × Sl)) : Sp := fun vs H Q E => ∃ (a : α) (F : Hp) (w : Nat → V) (X : List Addr) (ms : Nat → List Addr), Ex F H ∧ PmG (hid X H) F H X (par a w) vs ms ∧ mir a ≠ none ∧
  (∀ r, mir a = M.ok r → ∀ v F' H' ms', GrX X F H F' H' → CellsOk (hid X H) F' H' ((v, res r) :: outs r w) ms' → Q v H') ∧
  (∀ e, mir a = M.err e → ∀ F' H' ms', GrX X F H F' H' → CellsOk (hid X H) F' H' (outsE e w) ms' → E (ec K (cls e)) none H')
/-- of a def that changes nothing of its callers' -/
abbrev spP (K : PySem.W.Frag) {α ρ : Type} (par : α → List Sl) (mir : α → M ρ) (res : ρ → Sl) : Sp := spG K (fun a _ => par a) mir res (fun _ _ => []) (fun e => e) (fun _ _ => [])
structure ArgOk {α : Type} (A : Ra α) (par : α → List Sl) : Prop where
  run : ∀ a H0 F H vs, Ex F H → A.r a H0 F H vs → PmG H F H [] (par a) vs (fun _ => [])
theorem ak_nil : ArgOk ra0 (fun _ => []) := ⟨fun a H0 F H vs _ h => by
  cases h
  exact ⟨rfl, fun i s e => by simp at e, fun _ _ => rfl, fun _ _ h => (nomatch h), fun i s e => by simp at e, fun i s e => by simp at e⟩⟩
theorem pm_cons {Y F H : Hp} {s : Sl} {v : V} {ss : List Sl} {vs : List V} (h : s.r Y F H v []) (o : s.own = false) (t : PmG Y F H [] ss vs (fun _ => [])) : PmG Y F H [] (s :: ss) (v :: vs) (fun _ => []) :=
  ⟨congrArg (· + 1) t.len, fun i s' e => by
    cases i with
    | zero =>
      simp at e
      subst e
      exact ⟨v, rfl, h⟩
    | succ i => exact t.has i s' (by simpa using e), fun _ _ => rfl, fun _ _ h => (nomatch h), fun i s' e o' x hx => (nomatch hx), fun i s' e o' x hx => (nomatch hx)⟩
theorem ak_v {α β : Type} {R : Rf α} {T : Ra β} {par : β → List Sl} (h : ArgOk T par) : ArgOk (rac R.up T) (fun a => sv R a.1 :: par a.2) := ⟨fun a H0 F H vs x ⟨v, r, e, h1, h2⟩ => by
  subst e
  exact pm_cons ⟨h1, rfl⟩ rfl (h.run _ _ _ _ _ x h2)⟩
theorem ak_b {α β : Type} {A : Th α} {T : Ra β} {par : β → List Sl} (h : ArgOk T par) : ArgOk (rac (nw A) T) (fun a => bw A a.1 :: par a.2) := ⟨fun a H0 F H vs x ⟨v, r, e, h1, h2⟩ => by
  subst e
  exact pm_cons ⟨h1, rfl⟩ rfl (h.run _ _ _ _ _ x h2)⟩
/-- what an answer is to its taker -/
structure ResOf {ρ : Type} (res : ρ → Sl) (R : Rl ρ) : Prop where
  run : ∀ r Y H0 F H v ms, (res r).r Y F H v ms → (∀ x ∈ ms, H0 x = none ∧ F x = none ∧ NT H x) → R.r r H0 F H v
theorem rs_v {ρ : Type} {A : Rf ρ} : ResOf (sv A) A.up := ⟨fun r Y H0 F H v ms h _ => h.1⟩
theorem rs_o {ρ : Type} {T : Th ρ} : ResOf (ob T) (ro T) := ⟨fun r Y H0 F H v ms h k => ⟨ms, h, k⟩⟩
section
variable {X : Cx} {W : WX} {G : Gm} {k : Nat}
theorem ask_pure {K : PySem.W.Frag} {α ρ : Type} {par : α → List Sl} {mir : α → M ρ} {res : ρ → Sl} {R : Rl ρ} {A : Ra α} {B : Bs} {tl : List Nat} {F1 H0 H1 : Hp} {σ : St} {Q : VK} {a : α} {vs : List V} (hp : ArgOk A par) (hr : ResOf res R) (kn : Kn H0 H1) (D1 : Told K W G (mir a) (fun a F' H' => ∀ v, R.r a H0 F' H' v → Q v H') σ H1 B tl F1) (rv : A.r a H0 F1 H1 vs) : spP K par mir res vs H1 Q (WE W σ) :=
  ⟨a, F1, fun _ => .non, [], fun _ => [], D1.st.fh, by rw [hid_nil]; exact hp.run _ _ _ _ _ D1.st.fh rv, D1.ne, fun r e v F' H' ms' g c => by
    refine D1.ok r e F' H' g.gr v (R.pre (hr.run r _ H1 F' H' v (ms' 0) (c.has 0 _ _ rfl H1) fun x hx => ?_) kn)
    have := c.mem 0 x hx
    rw [hid_nil] at this
    exact this, fun e q F' H' ms' g c => D1.er e q F' H' g.gr⟩
/-- a call of a def -/
theorem fe_call {α ρ : Type} {j : Nat} {f : Addr} {fd : FuncData} {ps : List Str} {x : Str} {p pos : Pos} {e : Expr} {es : List Expr} {par : α → List Sl} {mir : α → M ρ} {res : ρ → Sl} {R : Rl ρ} {m : M α} {A : Ra α} (C : Cok X W k)
    (Fk : FnOk X.prog X.w X.K X.mg X.base (L2.CX X.prog X.w) j f fd ps (spP X.K par mir res)) (hj : j ≤ k) (hm : X.mg x = some (.ref f)) (hk : PySem.W.keepIn X.K (.ref f) = true) (hb : Binds X.K fd ps []) (hp : ArgOk A par) (hr : ResOf res R) (ha : FA X W G (e :: es) m A)
    (hg : Gl X x := by rfl) (hdb : (x == ("__debug__" : Str)) = false := by decide) (he : starEach (e :: es) X.env = (false, eval e X.env) :: starEach es X.env := by rfl) (hpl : (backTo pos (starEach es X.env)).any (·.1) = false := by rfl) :
    FE X W G (.Call (.Name x p) (e :: es) [] pos) (m.bind mir) R :=
  PE.weak (pe_callS (E := WE W) Fk (C.hr.mono hj) hg hm hk hb (fun σ => passAt C.tk σ) ha hdb he hpl) fun σ H Q ⟨B, tl, F, D⟩ => ⟨B, tl, F, D.seq fun a F1 H1 _ g1 D1 vs rv =>
    ask_pure hp hr g1.h.kn D1 rv⟩
theorem fe_call0 {ρ : Type} {j : Nat} {f : Addr} {fd : FuncData} {ps : List Str} {x : Str} {p pos : Pos} {par : Unit → List Sl} {mir : Unit → M ρ} {res : ρ → Sl} {R : Rl ρ} (C : Cok X W k)
    (Fk : FnOk X.prog X.w X.K X.mg X.base (L2.CX X.prog X.w) j f fd ps (spP X.K par mir res)) (hj : j ≤ k) (hm : X.mg x = some (.ref f)) (hk : PySem.W.keepIn X.K (.ref f) = true) (hb : Binds X.K fd ps []) (hp : ArgOk ra0 par) (hr : ResOf res R)
    (hg : Gl X x := by rfl) (hdb : (x == ("__debug__" : Str)) = false := by decide) : FE X W G (.Call (.Name x p) [] [] pos) (mir ()) R := by
  refine ⟨fun pins s σ H Q I ⟨B, tl, F, D⟩ => ?_⟩
  refine wpAny_Call_Name_kw (ld_glob I hg hm ?_ hdb)
  exact PySem.W.callWith_K0 I.kIn hk (run_fnS (E := WE W) (us := []) Fk (C.hr.mono hj) hb (passAt C.tk σ) I .nil
    (ask_pure (vs := []) hp hr (Kn.refl _) D rfl))
end
/-! ### blocks -/
section
variable {ε : Type} {Eh : EH ε} {X : Cx} {W : WX} {G : Gm} {tl : List Nat} {ρ b s : Type} {R : ρ → V → Gm} {Gb : b → Gm} {N : s → Gm}
theorem fs_nil {x : s} (h : Imp G (N x)) : FS X W Eh tl G [] (M.ok (.nx x)) R Gb N := PSs.weak pss_nil fun D σ H ⟨B, F, T⟩ => T.nx x rfl σ F H (h _ _ _ _ _ T.st)
/-- another environment -/
theorem fs_imp {G1 : Gm} {sts : List Stmt} {m : Mg ε (Fl ρ b s)} (i : Imp G G1) (h : FS X W Eh tl G1 sts m R Gb N) : FS X W Eh tl G sts m R Gb N :=
  PSs.weak h fun D σ H ⟨B, F, T⟩ => ⟨B, F, i _ _ _ _ _ T.st, T.ne, T.ret, T.nx, T.bk, T.ct, T.er⟩
theorem ToldS.tellE {K : PySem.W.Frag} {α : Type} {p : Er → ε} {ma : M α} {f : α → Mg ε (Fl ρ b s)} {D : Ends} {σ : St} {H : Hp} {B : Bs} {F : Hp} {P : α → Hp → Hp → Prop} (T : ToldS K W Eh tl G (ma.bindP p f) R Gb N D σ H B F) (hp : Pay Eh G p)
    (k : ∀ a F1 H1, ma = M.ok a → Gr F H F1 H1 → P a F1 H1) : Told K W G ma P σ H B tl F := by
  refine ⟨T.st, ?_, fun a e F1 H1 g => k a F1 H1 e g, ?_⟩
  · intro e
    exact T.ne (by rw [e]; rfl)
  · rintro e rfl F1 H1 g1
    have := T.er (p e) rfl σ F1 H1 (hp.i e _ _ _ _ _ (T.st.grow g1))
    rw [hp.c e] at this
    exact this
theorem ToldS.rest {K : PySem.W.Frag} {ε1 α : Type} {p : ε1 → ε} {ma : Mg ε1 α} {f : α → Mg ε (Fl ρ b s)} {D : Ends} {σ σ1 : St} {H H1 F1 : Hp} {B : Bs} {F : Hp} {G1 : Gm} (T : ToldS K W Eh tl G (ma.bindP p f) R Gb N D σ H B F) {a : α} (e : ma = M.ok a) (st : Stt B tl G1 F1 H1 σ1) : ToldS K W Eh tl G1 (f a) R Gb N D σ1 H1 B F1 := by
  subst e
  exact ⟨st, T.ne, T.ret, T.nx, T.bk, T.ct, T.er⟩
theorem fs_pass {pos : Pos} {rest : List Stmt} {m : Mg ε (Fl ρ b s)} (h : FS X W Eh tl G rest m R Gb N) : FS X W Eh tl G (.Pass pos :: rest) m R Gb N := PSs.weak (pss_cons ps_pass h) fun D σ H z => z
theorem fs_doc {x : Str} {j : Nat} {pos pos' : Pos} {rest : List Stmt} {m : Mg ε (Fl ρ b s)} (h : FS X W Eh tl G rest m R Gb N) : FS X W Eh tl G (.Expr (.Constant (.str x) j pos) pos' :: rest) m R Gb N := PSs.weak (pss_cons ps_doc h) fun D σ H z => z
theorem fs_brk {pos : Pos} {x : b} (h : Imp G (Gb x)) : FS X W Eh tl G [.Break pos] (M.ok (Fl.bk (ρ := ρ) (s := s) x)) R Gb N := PSs.weak (pss_one ps_break) fun D σ H ⟨B, F, T⟩ => T.bk x rfl σ F H (h _ _ _ _ _ T.st)
theorem fs_cnt {pos : Pos} {x : b} (h : Imp G (Gb x)) : FS X W Eh tl G [.Continue pos] (M.ok (Fl.ct (ρ := ρ) (s := s) x)) R Gb N := PSs.weak (pss_one ps_continue) fun D σ H ⟨B, F, T⟩ => T.ct x rfl σ F H (h _ _ _ _ _ T.st)
/-- where what follows is told for each value -/
theorem pss_ex {α : Type} {sts : List Stmt} {t : α → TS} (h : ∀ a, PSs X sts (t a)) : PSs X sts (fun D σ H => ∃ a, t a D σ H) := ⟨fun pins s σ H D I ⟨a, q⟩ => (h a).run pins s σ H D I q⟩
theorem ps_ex {ι : Type} {st : Stmt} {t : ι → TS} (h : ∀ a, PS X st (t a)) : PS X st (fun D σ H => ∃ a, t a D σ H) := ⟨fun pins s σ H D I ⟨a, q⟩ => (h a).run pins s σ H D I q⟩
/-- a value that a place takes -/
structure Takes1 {α : Type} (R : Rl α) (T : α → Sl) : Prop where
  run : ∀ a Y H0 F H v, R.r a H0 F H v → ∃ ms, (T a).r Y F H v ms ∧ ∀ x ∈ ms, H0 x = none ∧ F x = none ∧ NT H x
theorem tk_v {α : Type} {R : Rf α} : Takes1 R.up (sv R) := ⟨fun a Y H0 F H v h => ⟨[], ⟨h, rfl⟩, fun x hx => nomatch hx⟩⟩
theorem tk_o {α : Type} {T : Th α} : Takes1 (ro T) (ob T) := ⟨fun a Y H0 F H v h => h⟩
/-- return e; g: the place of the answer -/
theorem fs_ret {α : Type} (g : Nat) {e : Expr} {pos : Pos} {p : Er → ε} {m : M α} {A : Rl α} {T : α → Sl} {mk : α → ρ} (h : FE X W G e m A) (ht : Takes1 A T) (hR : ∀ a v, Imp (G.set g (some (pn v (T a)))) (R (mk a) v)) (hg : X.N.length ≤ g := by exact Nat.le_of_ble_eq_true rfl) (hl : g < G.length := by exact Nat.le_of_ble_eq_true rfl) (hp : Pay Eh G p := by exact pay0 rfl) :
    FS X W Eh tl G [.Return (some e) pos] (m.bindP p fun a => M.ok (Fl.ret (b := b) (s := s) (mk a))) R Gb N := by
  refine ⟨fun pins s' σ H D I ⟨B, F, T'⟩ => (pss_one (ps_ret h)).run pins s' σ H D I ?_⟩
  refine ⟨B, tl, F, T'.tellE hp fun a F1 H1 e g1 v r => ?_⟩
  obtain ⟨ms, h1, h2⟩ := ht.run a B.Hd _ _ _ _ r
  exact T'.ret (mk a) (by rw [e]; rfl) v σ F1 H1 (hR a v _ _ _ _ _ (T'.st.ghost (T := pn v (T a)) g1 (by rw [I.len]; exact hg) hl ⟨rfl, h1⟩ h2))
theorem fs_retN {pos : Pos} {r : ρ} (g : Nat) (hR : Imp (G.set g (some (pn .non (sv fUnit ())))) (R r .non)) (hg : X.N.length ≤ g := by exact Nat.le_of_ble_eq_true rfl) (hl : g < G.length := by exact Nat.le_of_ble_eq_true rfl) : FS X W Eh tl G [.Return none pos] (M.ok (Fl.ret (b := b) (s := s) r)) R Gb N := by
  refine ⟨fun pins s' σ H D I ⟨B, F, T'⟩ => (pss_one ps_retN).run pins s' σ H D I ?_⟩
  exact T'.ret r rfl .non σ F H (hR _ _ _ _ _ (T'.st.ghost (T := pn .non (sv fUnit ())) (mv := []) (Gr.refl T'.st.fh) (by rw [I.len]; exact hg) hl ⟨rfl, rfl, rfl⟩ (fun x hx => nomatch hx)))
/-- x = e -/
theorem fs_set {α : Type} (i : Nat) {x : Str} {e : Expr} {pos pos' : Pos} {rest : List Stmt} {p : Er → ε} {m : M α} {A : Rl α} {T : α → Sl} {f : α → Mg ε (Fl ρ b s)} (nd : X.N.Nodup) (he : FE X W G e m A) (ht : Takes1 A T) (hr : ∀ a, FS X W Eh tl (G.set i (some (T a))) rest (f a) R Gb N)
    (hi : X.N[i]? = some x := by rfl) (hm : i ∈ tl := by decide) (hl : i < G.length := by exact Nat.le_of_ble_eq_true rfl) (hx : Loc X.env.scope x := by first | exact Or.inl rfl | exact Or.inr rfl) (hs : swapsWith e (some (.Name x pos')) pos.line X.env = pure false := by rfl) (hf : X.fn x = true ∨ X.env.scope.names.lookup x = some .local := by first | exact .inl rfl | exact .inr rfl | assumption) (hp : Pay Eh G p := by exact pay0 rfl) :
    FS X W Eh tl G (.Assign [.Name x pos'] e pos :: rest) (m.bindP p f) R Gb N := PSs.weak (pss_cons (ps_set nd hi hx he hs hf) (pss_ex hr)) fun D σ H ⟨B, F, D1⟩ =>
  ⟨B, tl, F, D1.tellE hp fun a F1 H1 ea g v r => by
    obtain ⟨ms, h1, h2⟩ := ht.run a B.Hd _ _ _ _ r
    exact ⟨a, B, F1, D1.rest ea (D1.st.set g hm hl h1 h2)⟩⟩
/-- x += e -/
theorem fs_aug {α β γ : Type} (i : Nat) {x : Str} {e : Expr} {pos pos' : Pos} {op : Operator} {rest : List Stmt} {p : Er → ε} {m : M β} {A : Rl α} {Bb : Rl β} {Cc : Rl γ} {a : α} {sl : Sl} {r : R2} {g : α → β → M γ} {T : γ → Sl} {f : γ → Mg ε (Fl ρ b s)} (nd : X.N.Nodup) (ho : PIp X op r) (hl' : ∀ y, OpP r A Bb a y (g a y) Cc)
    (hG : G[i]? = some (some sl)) (hs : Gives sl a A) (he : FE X W G e m Bb) (ht : Takes1 Cc T) (hr : ∀ c, FS X W Eh tl (G.set i (some (T c))) rest (f c) R Gb N)
    (hi : X.N[i]? = some x := by rfl) (hm : i ∈ tl := by decide) (hl : i < G.length := by exact Nat.le_of_ble_eq_true rfl) (hx : Loc X.env.scope x := by first | exact Or.inl rfl | exact Or.inr rfl) (hf : X.fn x = true ∨ X.env.scope.names.lookup x = some .local := by first | exact .inl rfl | exact .inr rfl | assumption) (hp : Pay Eh G p := by exact pay0 rfl) :
    FS X W Eh tl G (.AugAssign (.Name x pos') op e pos :: rest) (m.bindP p fun y => (g a y).bindP p f) R Gb N := by
  refine ⟨fun pins s' σ H D I ⟨B, F, D1⟩ => (pss_cons (ps_aug nd hi hx he ho hf) (pss_ex hr)).run pins s' σ H D I ?_⟩
  have hil : i < σ.length := by
    rw [I.len]
    exact (List.getElem?_eq_some_iff.mp hi).1
  obtain ⟨ms, z⟩ := D1.st.sl
  obtain ⟨v, h1, h2⟩ := z.val hG hil
  refine ⟨v, h1, B, tl, F, D1.tellE hp fun y F1 H1 ey g1 w rw => ?_⟩
  have D2 := D1.rest ey (D1.st.grow g1)
  cases q : g a y with
  | none => exact absurd (by rw [q]; rfl) D2.ne
  | some res =>
    cases res with
    | error e => exact absurd q ((hl' y).ne e)
    | ok c =>
      have ra := hs _ F H v _ h2 D1.st.fh D1.st.yh (fun x hx => z.mem i x hx) H
      refine (hl' y).run F1 H1 v w H _ g1.fh (A.st ra g1) rw c q fun zz F2 H2 g2 rz => ?_
      obtain ⟨mz, k1, k2⟩ := ht.run c B.Hd _ _ _ _ rz
      exact ⟨c, B, F2, D2.rest q ((D1.st.grow g1).set g2 hm hl k1 k2)⟩
/-- an expression as a statement -/
theorem fs_expr {α : Type} {e : Expr} {pos : Pos} {rest : List Stmt} {p : Er → ε} {m : M α} {A : Rl α} {f : α → Mg ε (Fl ρ b s)} (he : FE X W G e m A) (hr : ∀ a, FS X W Eh tl G rest (f a) R Gb N) (hs : swapsWith e none pos.line X.env = pure false := by rfl) (hp : Pay Eh G p := by exact pay0 rfl) :
    FS X W Eh tl G (.Expr e pos :: rest) (m.bindP p f) R Gb N := PSs.weak (pss_cons (ps_expr he hs) (pss_ex hr)) fun D σ H ⟨B, F, D1⟩ =>
  ⟨B, tl, F, D1.tellE hp fun a F1 H1 ea g v r => ⟨a, B, F1, D1.rest ea (D1.st.grow g)⟩⟩
/-- raise C('..') -/
theorem fs_raise {er : Er} {pe : ε} {x m : Str} {j : Nat} {p p2 pos pos' : Pos} {kk : Nat} (C : Cok X W kk) (hx : x = er.name) (fx : PySem.W.excIn X.K (He.ga X.K x) He.veBase "ValueError.__new__" = true ∧ PySem.W.keepIn X.K (.ref (He.ga X.K x)) = true ∧ PySem.W.subIn X.K (.ref (He.ga X.K x)) (.type "BaseException") = some true ∧ PySem.W.typeIn X.K (.ref (He.ga X.K x)) = some (.type "type"))
    (gx : X.mg x = some (.ref (He.ga X.K x))) (hc : Eh.cls pe = er) (hi : Imp G (Eh.G pe)) (hg : Gl X x := by rfl) (hdb : (x == ("__debug__" : Str)) = false := by decide) : FS X W Eh tl G [.Raise (some (.Call (.Name x p) [.Constant (.str m) j p2] [] pos)) none pos'] (M.err pe : Mg ε (Fl ρ b s)) R Gb N :=
  PSs.weak (pss_one (ps_raise C.calm C.tk (pmk_own PySem.F.excBase_ValueError fx.1 gx fx.2.1 (raises_own fx.2.2.1 fx.2.2.2) hg hdb))) fun D σ H ⟨B, F, T⟩ => by
    have e : (.ref (He.ga X.K x) : Value) = ec X.K er := by rw [hx]; rfl
    show W (.ref (He.ga X.K x)) none σ H
    rw [e, ← hc]
    exact T.er pe rfl σ F H (hi _ _ _ _ _ T.st)
/-- if: both ways on their own -/
theorem ToldS.test {K : PySem.W.Frag} {p : Er → ε} {ma : M Bool} {f : Bool → Mg ε (Fl ρ b s)} {D : Ends} {σ : St} {H : Hp} {B : Bs} {F : Hp} {P : Bool → Hp → Prop} (T : ToldS K W Eh tl G (ma.bindP p f) R Gb N D σ H B F) (hp : Pay Eh G p)
    (k : ∀ a F1 H1, ma = M.ok a → ToldS K W Eh tl G (f a) R Gb N D σ H1 B F1 → P a H1) : tT K W G ma σ H P :=
  ⟨B, tl, F, T.tellE hp fun a F1 H1 e g => k a F1 H1 e (T.rest e (T.st.grow g))⟩
/-- the if ends its block -/
theorem fs_ifend {c : Expr} {a d : List Stmt} {pos : Pos} {p : Er → ε} {mc : M Bool} {ma md : Mg ε (Fl ρ b s)} (hc : FT X W G c mc) (ha : FS X W Eh tl G a ma R Gb N) (hd : FS X W Eh tl G d md R Gb N) (hp : Pay Eh G p := by exact pay0 rfl) : FS X W Eh tl G [.If c a d pos] (mc.bindP p fun x => if x = true then ma else md) R Gb N :=
  PSs.weak (pss_one (ps_if hc ha hd)) fun D σ H ⟨B, F, T⟩ => T.test hp fun x F1 H1 _ T1 => by
    cases x with
    | true => exact ⟨B, F1, T1⟩
    | false => exact ⟨B, F1, T1⟩
/-- never -/
def slF : Sl := ⟨fun _ _ _ _ _ => False, false, (fun _ h => h.elim), fun h _ _ _ => h⟩
theorem Stt.never {B : Bs} {F H : Hp} {σ : St} (st : Stt B tl [some slF] F H σ) : False := by
  obtain ⟨ms, z⟩ := st.sl
  obtain ⟨v, _, h⟩ := z.has 0 slF rfl
  exact h
/-- if c: a (which never ends), then the rest -/
theorem fs_if1 {c : Expr} {a rest : List Stmt} {st : Stmt} {pos : Pos} {p : Er → ε} {mc : M Bool} {ma mr : Mg ε (Fl ρ b s)} (hc : FT X W G c mc) (ha : ∀ N' : s → Gm, FS X W Eh tl G a ma R Gb N') (hr : FS X W Eh tl G (st :: rest) mr R Gb N) (hp : Pay Eh G p := by exact pay0 rfl) :
    FS X W Eh tl G (.If c a [] pos :: st :: rest) (mc.bindP p fun x => if x = true then ma else mr) R Gb N :=
  PSs.weak (pss_cons (ps_if hc (ha fun _ => [some slF]) pss_nil) hr) fun D σ H ⟨B, F, T⟩ => T.test hp fun x F1 H1 _ T1 => by
    cases x with
    | true => exact ⟨B, F1, T1.st, T1.ne, T1.ret, fun y e σ' F' H' st => st.never.elim, T1.bk, T1.ct, T1.er⟩
    | false => exact ⟨B, F1, T1⟩
/-- a block, then another, told from the state between them -/
def seqF {ε ρ b s1 s : Type} (m : Mg ε (Fl ρ b s1)) (k : s1 → Mg ε (Fl ρ b s)) : Mg ε (Fl ρ b s) := m.bind fun x => match x with
  | .ret r => M.ok (.ret r)
  | .nx y => k y
  | .bk y => M.ok (.bk y)
  | .ct y => M.ok (.ct y)
/-- one statement by its own block, then the rest -/
theorem fs_seq {s1 : Type} {st : Stmt} {rest : List Stmt} {m : Mg ε (Fl ρ b s1)} {N1 : s1 → Gm} {f : s1 → Mg ε (Fl ρ b s)} (h1 : PS X st (tFS X.K W Eh tl G m R Gb N1)) (hr : ∀ y, FS X W Eh tl (N1 y) rest (f y) R Gb N) : FS X W Eh tl G (st :: rest) (seqF m f) R Gb N :=
  PSs.weak (pss_cons h1 (pss_ex hr)) fun D σ H ⟨B, F, T⟩ => by
    refine ⟨B, F, T.st, ?_, fun r e => T.ret r (by rw [e]; rfl), fun y e σ' F' H' st => ?_, fun y e => T.bk y (by rw [e]; rfl), fun y e => T.ct y (by rw [e]; rfl), fun e q => T.er e (by rw [q]; rfl)⟩
    · intro e
      exact T.ne (by rw [e]; rfl)
    · subst e
      exact ⟨y, B, F', st, T.ne, T.ret, T.nx, T.bk, T.ct, T.er⟩
/-- if c: a else: d, both going on -/
theorem ps_ifj {c : Expr} {a d : List Stmt} {pos : Pos} {p : Er → ε} {mc : M Bool} {ma md : Mg ε (Fl ρ b s)} (hc : FT X W G c mc) (ha : FS X W Eh tl G a ma R Gb N) (hd : FS X W Eh tl G d md R Gb N) (hp : Pay Eh G p := by exact pay0 rfl) : PS X (.If c a d pos) (tFS X.K W Eh tl G (mc.bindP p fun x => if x = true then ma else md) R Gb N) :=
  PS.weak (ps_if hc ha hd) fun D σ H ⟨B, F, T⟩ => T.test hp fun x F1 H1 _ T1 => by
    cases x with
    | true => exact ⟨B, F1, T1⟩
    | false => exact ⟨B, F1, T1⟩
end
/-! ### what one holds at a place is changed -/
section
variable {B : Bs} {tl : List Nat} {G : Gm} {F H F' H' : Hp} {σ : St}
theorem Stt.mut {ms : Nat → List Addr} {i : Nat} {sl T : Sl} {v : V} {mv : List Addr} (s : Stt B tl G F H σ) (z : SlOk B G F H σ ms) (hG : G[i]? = some (some sl)) (ho : sl.own = true) (hv : i < σ.length → σ[i]? = some (some v)) (g : GrX (ms i) F H F' H') (h : T.r B.Hd F' H' v mv)
    (k : ∀ x ∈ mv, (x ∈ ms i ∨ H x = none) ∧ F' x = none ∧ NT H' x) : Stt B tl (G.set i (some T)) F' H' σ := by
  have hl : i < G.length := (List.getElem?_eq_some_iff.mp hG).1
  have own := z.own i sl hG ho
  have sep := z.sep i sl hG ho
  refine ⟨s.g.into g own, s.bh, s.fr, s.ls, by rw [List.length_set]; exact s.len, fun j => if j = i then mv else ms j, ⟨fun j t e => ?_, fun j e => ?_, fun j x hx => ?_, fun j t e hoj x hx => ?_, fun j t e hoj x hx j' hj' hm => ?_⟩⟩
  · by_cases hj : j = i
    · subst hj
      rw [List.getElem?_set_self hl] at e
      cases e
      rw [if_pos rfl]
      exact ⟨v, hv, h⟩
    · rw [List.getElem?_set_ne (fun q => hj q.symm)] at e
      rw [if_neg hj]
      obtain ⟨w, h1, h2⟩ := z.has j t e
      exact ⟨w, h1, t.st h2 (XS.refl _) g.f.xs fun x hx o q => g.h x o (fun hm => sep x hm j hj hx) q⟩
  · by_cases hj : j = i
    · subst hj
      exact absurd (List.getElem?_set_self hl) (e T)
    · rw [if_neg hj]
      exact z.non j fun t q => e t (by rw [List.getElem?_set_ne (fun q => hj q.symm)]; exact q)
  · try dsimp only at hx
    by_cases hj : j = i
    · rw [if_pos hj] at hx
      exact (k x hx).2
    · rw [if_neg hj] at hx
      obtain ⟨h1, h2⟩ := z.mem j x hx
      exact ⟨g.no x h1 h2, g.nt x h2⟩
  · try dsimp only at hx
    by_cases hj : j = i
    · rw [if_pos hj] at hx
      rcases (k x hx).1 with q | q
      · exact own x q
      · exact .inl (Kn.free s.g.st q)
    · rw [if_neg hj] at hx
      rw [List.getElem?_set_ne (fun q => hj q.symm)] at e
      exact z.own j t e hoj x hx
  · try dsimp only at hx
    try dsimp only at hm
    by_cases hj : j = i
    · rw [if_pos hj] at hx
      rw [if_neg (fun q => hj' (q.trans hj.symm))] at hm
      rcases (k x hx).1 with q | q
      · exact sep x q j' (fun q => hj' (q.trans hj.symm)) hm
      · exact (z.mem j' x hm).2.ne q
    · rw [if_neg hj] at hx
      rw [List.getElem?_set_ne (fun q => hj q.symm)] at e
      by_cases hi' : j' = i
      · rw [if_pos hi'] at hm
        rcases (k x hm).1 with q | q
        · exact sep x q j hj hx
        · exact (z.mem j x hx).2.ne q
      · rw [if_neg hi'] at hm
        exact z.sep j t e hoj x hx j' hj' hm
/-- the same heap, told otherwise -/
theorem Stt.re {k : Nat} {T T' : Sl} (st : Stt B tl G F H σ) (hG : G[k]? = some (some T)) (hr : ∀ v ms, (k < σ.length → σ[k]? = some (some v)) → T.r B.Hd F H v ms → T'.r B.Hd F H v ms) (ho : T'.own = true → T.own = true) : Stt B tl (G.set k (some T')) F H σ := by
  have hl : k < G.length := (List.getElem?_eq_some_iff.mp hG).1
  obtain ⟨ms, z⟩ := st.sl
  have at_ : ∀ j t, (G.set k (some T'))[j]? = some (some t) → (j = k ∧ t = T') ∨ (j ≠ k ∧ G[j]? = some (some t)) := fun j t e => by
    by_cases q : j = k
    · subst q
      rw [List.getElem?_set_self hl] at e
      exact .inl ⟨rfl, (Option.some.inj (Option.some.inj e)).symm⟩
    · rw [List.getElem?_set_ne (Ne.symm q)] at e
      exact .inr ⟨q, e⟩
  refine ⟨st.g, st.bh, st.fr, st.ls, by rw [List.length_set]; exact st.len, ms, ⟨fun j t e => ?_, fun j e => ?_, z.mem, fun j t e o => ?_, fun j t e o => ?_⟩⟩
  · rcases at_ j t e with ⟨rfl, rfl⟩ | ⟨q, e⟩
    · obtain ⟨v, h1, h2⟩ := z.has _ _ hG
      exact ⟨v, h1, hr v _ h1 h2⟩
    · exact z.has j t e
  · refine z.non j fun t q => ?_
    by_cases c : j = k
    · subst c
      exact e T' (by rw [List.getElem?_set_self hl])
    · exact e t (by rw [List.getElem?_set_ne (Ne.symm c)]; exact q)
  · rcases at_ j t e with ⟨rfl, rfl⟩ | ⟨q, e⟩
    · exact z.own _ _ hG (ho o)
    · exact z.own j t e o
  · rcases at_ j t e with ⟨rfl, rfl⟩ | ⟨q, e⟩
    · exact z.sep _ _ hG (ho o)
    · exact z.sep j t e o
end
section
variable {ε : Type} {Eh : EH ε} {X : Cx} {W : WX} {G : Gm} {tl : List Nat} {ρ b s : Type} {R : ρ → V → Gm} {Gb : b → Gm} {N : s → Gm}
/-- name a thing's value -/
theorem fs_pin {sts : List Stmt} {m : Mg ε (Fl ρ b s)} {T : Sl} (k : Nat) (hG : G[k]? = some (some T)) (h : ∀ v0, FS X W Eh tl (G.set k (some (pn v0 T))) sts m R Gb N) : FS X W Eh tl G sts m R Gb N :=
  PSs.weak (pss_ex h) fun D σ H ⟨B, F, T1⟩ => by
    have hl : k < G.length := (List.getElem?_eq_some_iff.mp hG).1
    obtain ⟨ms, z⟩ := T1.st.sl
    obtain ⟨v, h1, h2⟩ := z.has k _ hG
    refine ⟨v, B, F, ⟨?_, T1.ne, T1.ret, T1.nx, T1.bk, T1.ct, T1.er⟩⟩
    have at_ : ∀ j t, (G.set k (some (pn v T)))[j]? = some (some t) → (j = k ∧ t = pn v T) ∨ (j ≠ k ∧ G[j]? = some (some t)) := fun j t e => by
      by_cases q : j = k
      · subst q
        rw [List.getElem?_set_self hl] at e
        exact .inl ⟨rfl, (Option.some.inj (Option.some.inj e)).symm⟩
      · rw [List.getElem?_set_ne (Ne.symm q)] at e
        exact .inr ⟨q, e⟩
    refine ⟨T1.st.g, T1.st.bh, T1.st.fr, T1.st.ls, by rw [List.length_set]; exact T1.st.len, ms, ⟨fun j t e => ?_, fun j e => ?_, z.mem, fun j t e o => ?_, fun j t e o => ?_⟩⟩
    · rcases at_ j t e with ⟨rfl, rfl⟩ | ⟨q, e⟩
      · exact ⟨v, h1, rfl, h2⟩
      · exact z.has j t e
    · refine z.non j fun t q => ?_
      by_cases c : j = k
      · subst c
        exact e (pn v T) (by rw [List.getElem?_set_self hl])
      · exact e t (by rw [List.getElem?_set_ne (Ne.symm c)]; exact q)
    · rcases at_ j t e with ⟨rfl, rfl⟩ | ⟨q, e⟩
      · exact z.own _ _ hG o
      · exact z.own j t e o
    · rcases at_ j t e with ⟨rfl, rfl⟩ | ⟨q, e⟩
      · exact z.sep _ _ hG o
      · exact z.sep j t e o
/-- o.append(e), the list at place i known by its value -/
theorem fs_app {α : Type} (i : Nat) {q : V} {o e : Expr} {apos cpos pos : Pos} {rest : List Stmt} {p : Er → ε} {m : M α} {A : Rf α} {as : List α} {g : α → Mg ε (Fl ρ b s)} (hG : G[i]? = some (some (pn q (ob (tL X.K A) as)))) (ho : FE X W G o (M.ok ()) (rV q)) (he : FE X W G e m A.up) (hr : ∀ a, FS X W Eh tl (G.set i (some (pn q (ob (tL X.K A) (as ++ [a]))))) rest (g a) R Gb N)
    (hbase : attributeBase o "append" X.env (eval o X.env) = eval o X.env := by rfl)
    (hfew : ((backTo cpos (starEach [e] X.env)).all (fun x => !x.1) && (backToKw cpos (keywordEach [] X.env)).all (fun x => x.1.isSome)
      && decide ([e].length + ([] : List Keyword).length + (if ([] : List Keyword).isEmpty then 0 else 1) < 30)) = true := by rfl)
    (hline : (apos.endLine == cpos.line) = true := by rfl) (hs : starEach [e] X.env = (false, eval e X.env) :: starEach [] X.env := by rfl) (hplain : (backTo cpos (starEach [] X.env)).any (·.1) = false := by rfl)
    (hsw : swapsWith (.Call (.Attribute o "append" apos) [e] [] cpos) none pos.line X.env = pure false := by rfl) (hp : Pay Eh G p := by exact pay0 rfl) :
    FS X W Eh tl G (.Expr (.Call (.Attribute o "append" apos) [e] [] cpos) pos :: rest) (m.bindP p fun a => M.need (as.length < sizeLine) (g a)) R Gb N :=
  PSs.weak (pss_cons (ps_expr (pe_bm PySem.F.plainAttrs_list PySem.F.slot_list_append PySem.F.type_list_append mt_append ho (pa_cons he pa_nil hs) hbase hfew hline hs hplain) hsw) (pss_ex hr)) fun D σ H ⟨B, F, D1⟩ => by
  have D1' : ToldS X.K W Eh tl G ((M.ok () : M Unit).bindP p fun _ => m.bindP p fun a => M.need (as.length < sizeLine) (g a)) R Gb N D σ H B F := D1
  refine ⟨B, tl, F, D1'.tellE hp fun q' F0 H0 eq g0 v rv => ?_⟩
  cases (show v = q from rv)
  have D1 := D1'.rest eq (D1.st.grow g0)
  obtain ⟨ms, z⟩ := D1.st.sl
  obtain ⟨v, h1, rfl, qa, vs, rfl, hh, pw, em⟩ := z.has i _ hG
  refine ⟨.inl ⟨rfl, vs, .inl (.inl hh)⟩, B, tl, F0, D1.tellE hp fun a F1 H1 ea g1 w rw' => ?_⟩
  have D2 := D1.rest ea (D1.st.grow g1)
  obtain ⟨hlt, e2⟩ := M.need_ne D2.ne
  have z1 := z.grow g1
  obtain ⟨hF, hH⟩ := z1.mem i qa (by rw [em]; simp)
  refine ⟨qa, vs, w, rfl, rfl, g1.h _ _ hh, by rw [← pw.len]; exact hlt, a, B, F1, ?_⟩
  rw [e2] at D2
  refine ⟨D2.st.mut z1 hG rfl h1 (by rw [em]; exact GrX.at g1.fh hF) ⟨rfl, qa, vs ++ [w], rfl, upd_same, (pw.imp fun _ _ h => A.st h g1.f).snoc rw', rfl⟩ (fun y hy => ?_), D2.ne, D2.ret, D2.nx, D2.bk, D2.ct, D2.er⟩
  cases List.mem_singleton.mp hy
  exact ⟨.inl (by rw [em]; simp), hF, NT.up⟩
end
/-! ### into a loop, out of it -/
section
variable {B : Bs} {tl tl' : List Nat} {G G' : Gm} {F H F' H' : Hp} {σ σ' : St}
def ownAt (G : Gm) (ms : Nat → List Addr) : List Addr := (List.range G.length).flatMap fun i => match G[i]? with
  | some (some sl) => if sl.own = true then ms i else []
  | _ => []
theorem mem_ownAt {ms : Nat → List Addr} {x : Addr} (h : x ∈ ownAt G ms) : ∃ i sl, G[i]? = some (some sl) ∧ sl.own = true ∧ x ∈ ms i := by
  unfold ownAt at h
  obtain ⟨i, _, h⟩ := List.mem_flatMap.mp h
  split at h
  · rename_i sl e
    split at h
    · rename_i o
      exact ⟨i, sl, e, o, h⟩
    · cases h
  · cases h
theorem ownAt_mem {ms : Nat → List Addr} {x : Addr} {i : Nat} {sl : Sl} (e : G[i]? = some (some sl)) (o : sl.own = true) (h : x ∈ ms i) : x ∈ ownAt G ms := by
  unfold ownAt
  refine List.mem_flatMap.mpr ⟨i, List.mem_range.mpr (List.getElem?_eq_some_iff.mp e).1, ?_⟩
  rw [e]
  simp only [o, if_true]
  exact h
theorem Stt.rebase (s : Stt B tl G F H σ) : ∃ Xl : List Addr, (∀ x ∈ Xl, B.H0 x = none ∨ x ∈ B.X0) ∧ Stt ⟨B.Hd, Xl, F, H, σ⟩ tl' G F H σ := by
  obtain ⟨ms, z⟩ := s.sl
  have hX : ∀ x ∈ ownAt G ms, B.H0 x = none ∨ x ∈ B.X0 := fun x hx => by
    obtain ⟨i, sl, e, o, h⟩ := mem_ownAt hx
    exact z.own i sl e o x h
  refine ⟨ownAt G ms, hX, (Gr.refl s.fh).x _, fun a o ha => ⟨s.yh a o ha, fun hx => ?_⟩, fun _ _ => rfl, rfl, s.len, ms, ⟨z.has, z.non, z.mem, fun j t e ho x hx => .inr (ownAt_mem e ho hx), z.sep⟩⟩
  obtain ⟨h1, h2⟩ := s.bh a o ha
  rcases hX a hx with q | q
  · rw [h1] at q; cases q
  · exact h2 q
/-- back to the outer block -/
theorem Stt.leave {Xl : List Addr} (s : Stt B tl G F H σ) (hX : ∀ x ∈ Xl, B.H0 x = none ∨ x ∈ B.X0) (ht : ∀ i ∈ tl', i ∈ tl) (s' : Stt ⟨B.Hd, Xl, F, H, σ⟩ tl' G' F' H' σ') : Stt B tl G' F' H' σ' := by
  obtain ⟨ms, z⟩ := s'.sl
  refine ⟨s.g.into s'.g hX, s.bh, fun i hi => ?_, ?_, s'.len, ms, ⟨z.has, z.non, z.mem, fun j t e ho x hx => ?_, z.sep⟩⟩
  · exact (s'.fr i fun q => hi (ht i q)).trans (s.fr i hi)
  · exact s'.ls.trans s.ls
  · rcases z.own j t e ho x hx with q | q
    · exact .inl (Kn.free s.g.st q)
    · exact hX x q
end
/-- what a loop goes on with -/
structure Lc (K : PySem.W.Frag) (W : WX) {ε : Type} (Eh : EH ε) (tl : List Nat) {ρ b s : Type} (m : Mg ε (Fl ρ b s)) (R : ρ → V → Gm) (N : s → Gm) (D : Ends) (B : Bs) : Prop where
  ne : m ≠ none
  ret : ∀ r, m = M.ok (.ret r) → ∀ v σ' F' H', Stt B tl (R r v) F' H' σ' → D.rt v H'
  nx : ∀ x, m = M.ok (.nx x) → ∀ σ' F' H', Stt B tl (N x) F' H' σ' → D.nx σ' H'
  er : ∀ e, m = M.err e → ∀ σ' F' H', Stt B tl (Eh.G e) F' H' σ' → W (ec K (Eh.cls e)) none σ' H'
theorem ToldS.lc {K : PySem.W.Frag} {W : WX} {ε : Type} {Eh : EH ε} {tl tl' : List Nat} {G : Gm} {ρ b s : Type} {m : Mg ε (Fl ρ b s)} {R : ρ → V → Gm} {Gb : b → Gm} {N : s → Gm} {D : Ends} {σ : St} {H : Hp} {B : Bs} {F : Hp} {Xl : List Addr} (T : ToldS K W Eh tl G m R Gb N D σ H B F)
    (hX : ∀ x ∈ Xl, B.H0 x = none ∨ x ∈ B.X0) (ht : ∀ i ∈ tl', i ∈ tl) : Lc K W Eh tl' m R N D ⟨B.Hd, Xl, F, H, σ⟩ :=
  ⟨T.ne, fun r e v σ' F' H' st => T.ret r e v σ' F' H' (T.st.leave hX ht st), fun x e σ' F' H' st => T.nx x e σ' F' H' (T.st.leave hX ht st),
    fun e q σ' F' H' st => T.er e q σ' F' H' (T.st.leave hX ht st)⟩
/-! ### targets -/
def tGt {ι α : Type} (tl : List Nat) (G : ι → Gm) (A : Rf α) (sel : ι → α) (G' : ι → Gm) : TG := fun v σ H Q => ∃ (z : ι) (B : Bs) (F : Hp), Stt B tl (G z) F H σ ∧ A.r (sel z) F v ∧ ∀ σ', Stt B tl (G' z) F H σ' → Q σ' H
def tGs {ι α : Type} (tl : List Nat) (G : ι → Gm) (T : Tv α) (sel : ι → α) (G' : ι → Gm) : TGs := fun vs σ H Q => ∃ (z : ι) (B : Bs) (F : Hp), Stt B tl (G z) F H σ ∧ T.r (sel z) F vs ∧ ∀ σ', Stt B tl (G' z) F H σ' → Q σ' H
abbrev FG (X : Cx) {ι α : Type} (tl : List Nat) (G : ι → Gm) (tg : Expr) (A : Rf α) (sel : ι → α) (G' : ι → Gm) : Prop := PG X tg (tGt tl G A sel G')
abbrev FGs (X : Cx) {ι α : Type} (tl : List Nat) (G : ι → Gm) (tg : List Expr) (T : Tv α) (sel : ι → α) (G' : ι → Gm) : Prop := PGs X tg (tGs tl G T sel G')
theorem PG.weak {X : Cx} {e : Expr} {t t' : TG} (h : PG X e t) (w : ∀ v σ H Q, t' v σ H Q → t v σ H Q) : PG X e t' := ⟨fun pins s σ H v u Q I r q => h.run pins s σ H v u Q I r (w _ _ _ _ q)⟩
theorem PGs.weak {X : Cx} {e : List Expr} {t t' : TGs} (h : PGs X e t) (w : ∀ v σ H Q, t' v σ H Q → t v σ H Q) : PGs X e t' := ⟨fun pins s σ H v u Q I r q => h.run pins s σ H v u Q I r (w _ _ _ _ q)⟩
section
variable {X : Cx} {ι α β : Type} {tl : List Nat} {G G1 G2 : ι → Gm}
theorem fg_name (i : Nat) {x : Str} {pos : Pos} {A : Rf α} {sel : ι → α} (nd : X.N.Nodup) (hl : ∀ z, i < (G z).length := by intro z; exact Nat.le_of_ble_eq_true rfl) (hm : i ∈ tl := by decide) (hi : X.N[i]? = some x := by rfl) (hx : Loc X.env.scope x := by first | exact Or.inl rfl | exact Or.inr rfl)
    (hf : X.fn x = true ∨ X.env.scope.names.lookup x = some .local := by first | exact .inl rfl | exact .inr rfl | assumption) : FG X tl G (.Name x pos) A sel (fun z => (G z).set i (some (sv A (sel z)))) :=
  PG.weak (pg_name nd hi hx hf) fun v σ H Q ⟨z, B, F, st, h, k⟩ => k _ (st.set (Gr.refl st.fh) hm (hl z) (T := sv A (sel z)) (mv := []) ⟨h, rfl⟩ fun x hx => nomatch hx)
theorem fgs_1 {e : Expr} {A : Rf α} {sel : ι → α} (h : FG X tl G e A sel G1) (hs : (assignEach [e] X.env).map (·.2) = assign e X.env :: (assignEach [] X.env).map (·.2) := by rfl) : FGs X tl G [e] (tv1 A) sel G1 :=
  PGs.weak (pgs_cons h pgs_nil hs) fun vs σ H Q ⟨z, B, F, st, ⟨v, ev, hv⟩, k⟩ => ⟨v, [], ev, z, B, F, st, hv, fun σ' st' => ⟨rfl, k σ' st'⟩⟩
theorem fgs_c {e : Expr} {es : List Expr} {A : Rf α} {T : Tv β} {sel : ι → α × β} (h : FG X tl G e A (fun z => (sel z).1) G1) (ht : FGs X tl G1 es T (fun z => (sel z).2) G2) (hs : (assignEach (e :: es) X.env).map (·.2) = assign e X.env :: (assignEach es X.env).map (·.2) := by rfl) : FGs X tl G (e :: es) (tvc A T) sel G2 :=
  PGs.weak (pgs_cons h ht hs) fun vs σ H Q ⟨z, B, F, st, ⟨v, r, ev, hv, hr⟩, k⟩ => ⟨v, r, ev, z, B, F, st, hv, fun σ' st' => ⟨z, B, F, st', hr, k⟩⟩
/-- the number of a tuple's parts -/
structure TvN {α : Type} (T : Tv α) (n : Nat) : Prop where
  run : ∀ a F vs, T.r a F vs → vs.length = n
theorem tn1 {A : Rf α} : TvN (tv1 A) 1 := ⟨fun a F vs ⟨x, e, _⟩ => by subst e; rfl⟩
theorem tnc {A : Rf α} {T : Tv β} {n : Nat} (h : TvN T n) : TvN (tvc A T) (n + 1) := ⟨fun a F vs ⟨x, r, e, _, t⟩ => by subst e; exact congrArg (· + 1) (h.run _ _ _ t)⟩
theorem fg_tup {es : List Expr} {k n : Nat} {pos : Pos} {T : Tv α} {sel : ι → α} (hc : X.calm = true) (h : FGs X tl G es T sel G1) (hn : TvN T n) (h1 : (assignEach es X.env).length = n := by rfl) (h2 : (assignEach es X.env).findIdx? (·.1) = none := by rfl) :
    FG X tl G (.Tuple es k pos) (fTup X.K T) sel G1 := PG.weak (pg_tup hc h h1 h2) fun v σ H Q ⟨z, B, F, st, ⟨p, vs, ev, hp, ht⟩, k⟩ => ⟨p, vs, ev, sqT_ex st.fh hp, hn.run _ _ _ ht, z, B, F, st, ht, k⟩
end
/-! ### for -/
def forL {ε α ρ b s : Type} (f : s → α → Mg ε (Fl ρ s s)) : List α → s → Mg ε (Fl ρ b s)
  | [], x => M.ok (.nx x)
  | a :: r, x => (f x a).bind fun o => match o with
    | .ret v => M.ok (.ret v)
    | .nx y => forL f r y
    | .ct y => forL f r y
    | .bk y => M.ok (.nx y)
section
variable {ε : Type} {Eh : EH ε} {X : Cx} {W : WX} {tl tl' : List Nat} {ρ b s : Type} {R : ρ → V → Gm} {Gs : s → Gm} {α : Type} {A : Rf α} {f : s → α → Mg ε (Fl ρ s s)}
/-- one turn -/
theorem for_turn {D : Ends} {B' : Bs} {as : List α} {i : Nat} {a : α} {G2 : s × α → Gm} {Pv : St → Hp → Prop} (hi : as[i]? = some a) (hP : ∀ y σ' F' H', Stt B' tl' (Gs y) F' H' σ' → Lc X.K W Eh tl' (forL (b := b) f (as.drop (i + 1)) y) R Gs D B' → Pv σ' H')
    {x : s} {F H : Hp} {σ : St} {v : V} (st : Stt B' tl' (Gs x) F H σ) (lc : Lc X.K W Eh tl' (forL (b := b) f (as.drop i) x) R Gs D B') (hv : A.r a F v) :
    tGt tl' (fun z : s × α => Gs z.1) A (fun z => z.2) G2 v σ H fun σ2 H2 => ∃ z : s × α, tFS X.K W Eh tl' (G2 z) (f z.1 z.2) R Gs Gs { D with nx := Pv, ct := Pv, bk := D.nx } σ2 H2 := by
  have e : as.drop i = a :: as.drop (i + 1) := by
    obtain ⟨h1, h2⟩ := List.getElem?_eq_some_iff.mp hi
    rw [List.drop_eq_getElem_cons h1, h2]
  rw [e] at lc
  have l2 : Lc X.K W Eh tl' ((f x a).bind fun o => match o with
    | .ret v => M.ok (.ret v)
    | .nx y => forL (b := b) f (as.drop (i + 1)) y
    | .ct y => forL (b := b) f (as.drop (i + 1)) y
    | .bk y => M.ok (.nx y)) R Gs D B' := lc
  refine ⟨(x, a), B', F, st, hv, fun σ' st' => ⟨(x, a), B', F, st', ?_, ?_, ?_, ?_, ?_, ?_⟩⟩
  · intro q
    exact l2.ne (by rw [q]; rfl)
  · intro r q v σ' F' H' st'
    exact l2.ret r (by rw [q]; rfl) v σ' F' H' st'
  · intro y q σ' F' H' st'
    refine hP y σ' F' H' st' ?_
    rw [q] at l2
    exact l2
  · intro y q σ' F' H' st'
    exact l2.nx y (by rw [q]; rfl) σ' F' H' st'
  · intro y q σ' F' H' st'
    refine hP y σ' F' H' st' ?_
    rw [q] at l2
    exact l2
  · intro er q σ' F' H' st'
    exact l2.er er (by rw [q]; rfl) σ' F' H' st'
/-- over a list that stands -/
theorem for_stand {D : Ends} {B' : Bs} {as : List α} {q : Addr} {G2 : s × α → Gm} {x0 : s} {F H : Hp} {σ : St} (st : Stt B' tl' (Gs x0) F H σ) (lc : Lc X.K W Eh tl' (forL (b := b) f as x0) R Gs D B')
    (hs : ∀ x F' H' σ', Stt B' tl' (Gs x) F' H' σ' → ∃ vs, SqL X.K H' q vs ∧ Pw (fun a v => A.r a F' v) as vs) : ∃ W_1 : Nat → Nat → St → Hp → Prop, (∃ m, W_1 0 m σ H) ∧ ∀ i m σ H, W_1 i m σ H →
      ((Itl X.K q).stop i H ∧ D.nx σ H) ∨ ((Itl X.K q).go i H ∧ ∃ N : St → Hp → Prop, (∀ σ' H', N σ' H' → ∃ m', m' < m ∧ W_1 (i + 1) m' σ' H') ∧ ∀ x H', (Itl X.K q).yld i H x H' →
        tGt tl' (fun z : s × α => Gs z.1) A (fun z => z.2) G2 x σ H' fun σ2 H2 => ∃ z : s × α, tFS X.K W Eh tl' (G2 z) (f z.1 z.2) R Gs Gs { D with nx := N, ct := N, bk := D.nx } σ2 H2) := by
  refine ⟨fun i m σ H => m = as.length - i ∧ i ≤ as.length ∧ ∃ F x, Stt B' tl' (Gs x) F H σ ∧ Lc X.K W Eh tl' (forL (b := b) f (as.drop i) x) R Gs D B', ⟨_, rfl, Nat.zero_le _, F, x0, st, lc⟩, ?_⟩
  rintro i m σ H ⟨rfl, hi, F, x, st, lc⟩
  obtain ⟨vs, hq, pw⟩ := hs x F H σ st
  by_cases hlt : i < as.length
  · obtain ⟨v, hv, hr⟩ := pw.get (i := i) (List.getElem?_eq_getElem hlt)
    refine .inr ⟨⟨vs, v, hq, hv⟩, fun σ' H' => ∃ F y, Stt B' tl' (Gs y) F H' σ' ∧ Lc X.K W Eh tl' (forL (b := b) f (as.drop (i + 1)) y) R Gs D B', fun σ' H' h => ⟨_, by omega, rfl, hlt, h⟩, fun u H' ⟨eH, yl⟩ => ?_⟩
    subst eH
    have hu := yl vs hq
    rw [hv] at hu
    cases hu
    exact for_turn (List.getElem?_eq_getElem hlt) (fun y σ' F' H' st' lc' => ⟨F', y, st', lc'⟩) st lc hr
  · have e : as.drop i = [] := List.drop_eq_nil_of_le (by omega)
    rw [e] at lc
    exact .inl ⟨⟨vs, hq, by rw [← pw.len]; omega⟩, lc.nx x rfl σ F H st⟩
/-- a source of a loop: what it hands on is a list that stands through the loop -/
structure Src {γ : Type} (K : PySem.W.Frag) (A : Rf α) (Gs : s → Gm) (R : Rl γ) (l : γ → List α) : Prop where
  run : ∀ c H0 F H v B0 tl0 x0 σ0, R.r c H0 F H v → Stt B0 tl0 (Gs x0) F H σ0 → ∃ q, v = .ref q ∧ ∀ B tl x F' H' σ', Stt B tl (Gs x) F' H' σ' → Ex F F' → ∃ vs, SqL K H' q vs ∧ Pw (fun a v => A.r a F' v) (l c) vs
theorem src_f {K : PySem.W.Frag} : Src K A Gs (fLst K A).up (fun as => as) := ⟨fun c H0 F H v B0 tl0 x0 σ0 ⟨p, vs, e, h, q⟩ x => ⟨p, e, fun B tl y F' H' σ' st xf => ⟨vs, sqL_ex st.fh (sqL_ex xf h), q.imp fun _ _ z => A.st z xf⟩⟩⟩
/-- a place that holds a list -/
structure LSl (K : PySem.W.Frag) (A : Rf α) (sl : Sl) (as : List α) : Prop where
  run : ∀ Y F H v ms, sl.r Y F H v ms → Ex F H → Ex Y H → ∃ q vs, v = .ref q ∧ SqL K H q vs ∧ Pw (fun a x => A.r a F x) as vs
theorem ls_o {K : PySem.W.Frag} {as : List α} : LSl K A (ob (tL K A) as) as := ⟨fun Y F H v ms h x y => (tL K A).ord h (fun _ _ _ e => e) x⟩
theorem ls_b {K : PySem.W.Frag} {as : List α} : LSl K A (bw (tL K A) as) as := ⟨fun Y F H v ms h x y => (tL K A).rst h.1 (XS.refl _) y.xs⟩
theorem ls_v {K : PySem.W.Frag} {as : List α} : LSl K A (sv (fLst K A) as) as := ⟨fun Y F H v ms h x y => (tL K A).rst h.1 (XS.refl _) x.xs⟩
/-- .. a place whose list the loop leaves as it is -/
theorem src_p {K : PySem.W.Frag} {as : List α} {sl : Sl} {q : V} (k : Nat) (hL : LSl K A sl as) (hq : ∀ x, (Gs x)[k]? = some (some (pn q sl))) : Src K A Gs (rV q) (fun _ => as) := ⟨fun c H0 F H v B0 tl0 x0 σ0 h st0 => by
  have h : v = q := h
  subst h
  have key : ∀ B tl x F' H' σ', Stt B tl (Gs x) F' H' σ' → ∃ a vs, v = .ref a ∧ SqL K H' a vs ∧ Pw (fun a v => A.r a F' v) as vs := fun B tl x F' H' σ' st => by
    obtain ⟨ms, z⟩ := st.sl
    obtain ⟨u, _, rfl, h2⟩ := z.has k _ (hq x)
    exact hL.run _ _ _ _ _ h2 st.fh st.yh
  obtain ⟨a, _, rfl, _⟩ := key _ _ _ _ _ _ st0
  refine ⟨a, rfl, fun B tl x F' H' σ' st _ => ?_⟩
  obtain ⟨a', vs, e, h1, h2⟩ := key B tl x F' H' σ' st
  cases e
  exact ⟨vs, h1, h2⟩⟩
theorem ps_forF {γ : Type} {e : Expr} {pos : Pos} {tg : Expr} {body : List Stmt} {G : Gm} {kk : Nat} {p : Er → ε} {m : M γ} {Rs : Rl γ} {l : γ → List α} {G2 : s × α → Gm} {x0 : s} {Gb : b → Gm} (C : Cok X W kk) (he : FE X W G e m Rs) (hS : Src X.K A Gs Rs l) (hG : Imp G (Gs x0)) (hg : FG X tl' (fun z : s × α => Gs z.1) tg A (fun z => z.2) G2)
    (hb : ∀ x a, FS X W Eh tl' (G2 (x, a)) body (f x a) R Gs Gs) (ht : ∀ i ∈ tl', i ∈ tl := by decide) (hs : ∀ x, foldedSetIterable e X.env x = pure x := by intro _; rfl) (hp : Pay Eh G p := by exact pay0 rfl) : PS X (.For tg e body [] pos) (tFS X.K W Eh tl G (m.bindP p fun c => forL f (l c) x0) R Gb Gs) :=
  PS.weak (ps_for C.hp C.calm (pi_list he) hg (pss_ex fun z : s × α => hb z.1 z.2) hs) fun D σ H ⟨B, F, T⟩ => by
    refine ⟨B, tl, F, T.tellE hp fun c F1 H1 ea g v rv => ?_⟩
    have T1 := T.rest ea (T.st.grow g)
    have st1 := hG _ _ _ _ _ T1.st
    obtain ⟨Xl, hX, st2⟩ := st1.rebase (tl' := tl')
    obtain ⟨q, rfl, hq⟩ := hS.run c H F1 H1 v _ _ _ _ rv st2
    have lc1 := T1.lc hX ht
    have stand : ∀ x F' H' σ', Stt ⟨B.Hd, Xl, F1, H1, σ⟩ tl' (Gs x) F' H' σ' → ∃ vs, SqL X.K H' q vs ∧ Pw (fun a v => A.r a F' v) (l c) vs := fun x F' H' σ' st => hq _ _ x F' H' σ' st st.g.f
    obtain ⟨vs, h1, _⟩ := stand x0 F1 H1 σ st2
    exact ⟨q, rfl, ⟨vs, h1⟩, for_stand st2 lc1 stand⟩
/-- for x in range(n) -/
def rngL (n : Int) : List Int := (List.range n.toNat).map fun (k : Nat) => (k : Int)
theorem rngL_get {n : Int} {i : Nat} (h : i < n.toNat) : (rngL n)[i]? = some (i : Int) := by
  unfold rngL
  rw [List.getElem?_map, List.getElem?_range h]
  rfl
theorem rngL_len (n : Int) : (rngL n).length = n.toNat := by simp [rngL]
def rng2L (a b : Int) : List Int := (rngL (b - a)).map fun k => a + k
theorem rng2L_len (a b : Int) : (rng2L a b).length = (b - a).toNat := by unfold rng2L; rw [List.length_map, rngL_len]
theorem rng2L_get {a b : Int} {i : Nat} (h : i < (b - a).toNat) : (rng2L a b)[i]? = some (a + (i : Int)) := by
  unfold rng2L
  rw [List.getElem?_map, rngL_get h]
  rfl
/-- over a range -/
theorem for_rng {D : Ends} {B' : Bs} {lo : Int} {n : Nat} {as : List Int} {f : s → Int → Mg ε (Fl ρ s s)} {G2 : s × Int → Gm} {x0 : s} {F H : Hp} {σ : St} (st : Stt B' tl' (Gs x0) F H σ) (lc : Lc X.K W Eh tl' (forL (b := b) f as x0) R Gs D B') (hl : as.length = n) (hs : ∀ i : Nat, i < n → as[i]? = some (lo + (i : Int))) :
    ∃ W_1 : Nat → Nat → St → Hp → Prop, (∃ m, W_1 0 m σ H) ∧ ∀ i m σ H, W_1 i m σ H →
      ((Itr lo n).stop i H ∧ D.nx σ H) ∨ ((Itr lo n).go i H ∧ ∃ N : St → Hp → Prop, (∀ σ' H', N σ' H' → ∃ m', m' < m ∧ W_1 (i + 1) m' σ' H') ∧ ∀ x H', (Itr lo n).yld i H x H' →
        tGt tl' (fun z : s × Int => Gs z.1) fInt (fun z => z.2) G2 x σ H' fun σ2 H2 => ∃ z : s × Int, tFS X.K W Eh tl' (G2 z) (f z.1 z.2) R Gs Gs { D with nx := N, ct := N, bk := D.nx } σ2 H2) := by
  refine for_range (tb := fun D σ H => ∃ z : s × Int, tFS X.K W Eh tl' (G2 z) (f z.1 z.2) R Gs Gs D σ H) (fun i σ H => ∃ F x, Stt B' tl' (Gs x) F H σ ∧ Lc X.K W Eh tl' (forL (b := b) f (as.drop i) x) R Gs D B') ⟨F, x0, st, lc⟩ ?_ ?_
  · rintro i σ H hi ⟨F, x, st, lc⟩
    exact for_turn (hs i hi) (fun y σ' F' H' st' lc' => ⟨F', y, st', lc'⟩) st lc rfl
  · rintro σ H ⟨F, x, st, lc⟩
    rw [← hl, List.drop_length] at lc
    exact lc.nx x rfl σ F H st
theorem ps_forR {e : Expr} {p cpos pos : Pos} {tg : Expr} {body : List Stmt} {G : Gm} {kk : Nat} {pp : Er → ε} {m : M Int} {f : s → Int → Mg ε (Fl ρ s s)} {G2 : s × Int → Gm} {x0 : s} {Gb : b → Gm} (C : Cok X W kk) (hm : X.mg "range" = none) (he : FE X W G e m fInt.up) (hG : Imp G (Gs x0)) (hg : FG X tl' (fun z : s × Int => Gs z.1) tg fInt (fun z => z.2) G2)
    (hb : ∀ x a, FS X W Eh tl' (G2 (x, a)) body (f x a) R Gs Gs) (ht : ∀ i ∈ tl', i ∈ tl := by decide) (hgl : Gl X "range" := by rfl) (hst : starEach [e] X.env = [(false, eval e X.env)] := by rfl) (hs : ∀ x, foldedSetIterable (.Call (.Name "range" p) [e] [] cpos) X.env x = pure x := by intro _; rfl) (hp : Pay Eh G pp := by exact pay0 rfl) :
    PS X (.For tg (.Call (.Name "range" p) [e] [] cpos) body [] pos) (tFS X.K W Eh tl G (m.bindP pp fun n => M.need (-(2 ^ 62) ≤ n ∧ n < 2 ^ 62) (forL f (rngL n) x0)) R Gb Gs) :=
  PS.weak (ps_for C.hp C.calm (pi_range1 hgl hm (pa_cons he pa_nil hst) hst) hg (pss_ex fun z : s × Int => hb z.1 z.2) hs) fun D σ H ⟨B, F, T⟩ => by
    refine ⟨B, tl, F, T.tellE hp fun n F1 H1 ea g v ev => ?_⟩
    have T1 := T.rest ea (T.st.grow g)
    obtain ⟨hc, e2⟩ := M.need_ne T1.ne
    rw [e2] at T1
    refine ⟨n, by rw [show v = V.int n from ev], hc.1, hc.2, ?_⟩
    obtain ⟨Xl, hX, st2⟩ := (hG _ _ _ _ _ T1.st).rebase (tl' := tl')
    exact for_rng st2 (T1.lc hX ht) (rngL_len n) fun i hi => by rw [rngL_get hi, Int.zero_add]
theorem ps_forR2 {e e2 : Expr} {p cpos pos : Pos} {tg : Expr} {body : List Stmt} {G : Gm} {kk : Nat} {pp : Er → ε} {m m2 : M Int} {f : s → Int → Mg ε (Fl ρ s s)} {G2 : s × Int → Gm} {x0 : s} {Gb : b → Gm} (C : Cok X W kk) (hm : X.mg "range" = none) (he : FE X W G e m fInt.up) (he2 : FE X W G e2 m2 fInt.up) (hG : Imp G (Gs x0)) (hg : FG X tl' (fun z : s × Int => Gs z.1) tg fInt (fun z => z.2) G2)
    (hb : ∀ x a, FS X W Eh tl' (G2 (x, a)) body (f x a) R Gs Gs) (ht : ∀ i ∈ tl', i ∈ tl := by decide) (hgl : Gl X "range" := by rfl) (hst : starEach [e, e2] X.env = [(false, eval e X.env), (false, eval e2 X.env)] := by rfl) (hst2 : starEach [e2] X.env = [(false, eval e2 X.env)] := by rfl) (hs : ∀ x, foldedSetIterable (.Call (.Name "range" p) [e, e2] [] cpos) X.env x = pure x := by intro _; rfl) (hp : Pay Eh G pp := by exact pay0 rfl) :
    PS X (.For tg (.Call (.Name "range" p) [e, e2] [] cpos) body [] pos) (tFS X.K W Eh tl G (m.bindP pp fun n => m2.bindP pp fun n2 => M.need (-(2 ^ 62) ≤ n ∧ n < 2 ^ 62 ∧ -(2 ^ 62) ≤ n2 ∧ n2 < 2 ^ 62) (forL f (rng2L n n2) x0)) R Gb Gs) :=
  PS.weak (ps_for C.hp C.calm (pi_range2 hgl hm (pa_cons he (pa_cons he2 pa_nil hst2) (by rw [hst, hst2])) hst hst2) hg (pss_ex fun z : s × Int => hb z.1 z.2) hs) fun D σ H ⟨B, F, T⟩ => by
    refine ⟨B, tl, F, T.tellE hp fun n F1 H1 ea g v ev => ?_⟩
    have T1 := T.rest ea (T.st.grow g)
    refine ⟨B, tl, F1, T1.tellE hp fun n2 F2 H2 ea2 g2 v2 ev2 => ?_⟩
    have T2 := T1.rest ea2 (T1.st.grow g2)
    obtain ⟨hc, e2⟩ := M.need_ne T2.ne
    rw [e2] at T2
    refine ⟨n, n2, by rw [show v = V.int n from ev, show v2 = V.int n2 from ev2], hc, ?_⟩
    obtain ⟨Xl, hX, st2⟩ := (hG _ _ _ _ _ T2.st).rebase (tl' := tl')
    exact for_rng st2 (T2.lc hX ht) (rng2L_len n n2) fun i hi => rng2L_get hi
/-- range(a, b, c), c written -/
def rng3L (a c : Int) (n : Nat) : List Int := (List.range n).map fun (k : Nat) => a + (k : Int) * c
/-- for c in text: sign by sign -/
def signs (l : List Nat) : List (List Nat) := l.map fun c => [c]
theorem ps_forS {e : Expr} {pos : Pos} {tg : Expr} {body : List Stmt} {G : Gm} {kk : Nat} {p : Er → ε} {m : M (List Nat)} {f : s → List Nat → Mg ε (Fl ρ s s)} {G2 : s × List Nat → Gm} {x0 : s} {Gb : b → Gm} (C : Cok X W kk) (he : FE X W G e m fTxt.up) (hG : Imp G (Gs x0)) (hg : FG X tl' (fun z : s × List Nat => Gs z.1) tg fTxt (fun z => z.2) G2)
    (hb : ∀ x a, FS X W Eh tl' (G2 (x, a)) body (f x a) R Gs Gs) (ht : ∀ i ∈ tl', i ∈ tl := by decide) (hs : ∀ x, foldedSetIterable e X.env x = pure x := by intro _; rfl) (hp : Pay Eh G p := by exact pay0 rfl) : PS X (.For tg e body [] pos) (tFS X.K W Eh tl G (m.bindP p fun l => forL f (signs l) x0) R Gb Gs) :=
  PS.weak (ps_for C.hp C.calm (pi_str he) hg (pss_ex fun z : s × List Nat => hb z.1 z.2) hs) fun D σ H ⟨B, F, T⟩ => by
    refine ⟨B, tl, F, T.tellE hp fun l F1 H1 ea g v ⟨ev, hl⟩ => ?_⟩
    have T1 := T.rest ea (T.st.grow g)
    refine ⟨S l, ev, ?_⟩
    obtain ⟨Xl, hX, st1⟩ := (hG _ _ _ _ _ T1.st).rebase (tl' := tl')
    have lc1 := T1.lc hX ht
    generalize (⟨B.Hd, Xl, F1, H1, σ⟩ : Bs) = B' at st1 lc1
    have hsz : (S l).cps.size = l.length := by simp [S]
    refine ⟨fun i m σ H => m = l.length - i ∧ i ≤ l.length ∧ ∃ F x, Stt B' tl' (Gs x) F H σ ∧ Lc X.K W Eh tl' (forL (b := b) f ((signs l).drop i) x) R Gs D B', ⟨_, rfl, Nat.zero_le _, F1, x0, st1, lc1⟩, ?_⟩
    rintro i m σ H ⟨rfl, hi, F, x, st, lc⟩
    by_cases hlt : i < l.length
    · refine .inr ⟨by show i < (S l).cps.size; rw [hsz]; exact hlt, fun σ' H' => ∃ F y, Stt B' tl' (Gs y) F H' σ' ∧ Lc X.K W Eh tl' (forL (b := b) f ((signs l).drop (i + 1)) y) R Gs D B', fun σ' H' h => ⟨_, by omega, rfl, hlt, h⟩, fun v H' yl => ?_⟩
      obtain ⟨e1, c, hc, e2⟩ := yl
      subst e1 e2
      have hc' : l[i]? = some c := by simpa [S] using hc
      refine for_turn (a := [c]) (by unfold signs; rw [List.getElem?_map, hc']; rfl) (fun y σ' F' H' st' lc' => ⟨F', y, st', lc'⟩) st lc ⟨rfl, hl.sub (by simp; omega) fun d hd => by
        cases List.mem_singleton.mp hd
        exact List.mem_of_getElem? hc'⟩
    · refine .inl ⟨by show (S l).cps.size ≤ i; rw [hsz]; omega, ?_⟩
      have e : (signs l).drop i = [] := List.drop_eq_nil_of_le (by simp [signs]; omega)
      rw [e] at lc
      exact lc.nx x rfl σ F H st
/-! ### while -/
def whileL {ε ρ b s : Type} (p : Er → s → ε) (c : s → M Bool) (f : s → Mg ε (Fl ρ s s)) : Nat → s → Mg ε (Fl ρ b s)
  | 0, _ => none
  | n + 1, x => (c x).bindP (fun e => p e x) fun t => if t = true then (f x).bind fun o => match o with
      | .ret v => M.ok (.ret v)
      | .nx y => whileL p c f n y
      | .ct y => whileL p c f n y
      | .bk y => M.ok (.nx y)
    else M.ok (.nx x)
theorem pt_ex {ι : Type} {e : Expr} {t : ι → TT} (h : ∀ a, PT X e (t a)) : PT X e (fun σ H Q => ∃ a, t a σ H Q) := ⟨fun pins s σ H Q I ⟨a, q⟩ => (h a).run pins s σ H Q I q⟩
theorem ps_whl {c : Expr} {pos : Pos} {body : List Stmt} {G : Gm} {kk : Nat} {p : Er → s → ε} {mc : s → M Bool} {g : s → Mg ε (Fl ρ s s)} {x0 : s} {Gb : b → Gm} (C : Cok X W kk) (fuel : Nat) (hc : ∀ x, FT X W (Gs x) c (mc x)) (hG : Imp G (Gs x0)) (hb : ∀ x, FS X W Eh tl' (Gs x) body (g x) R Gs Gs) (ht : ∀ i ∈ tl', i ∈ tl := by decide) (hp : ∀ x, Pay Eh (Gs x) (fun e => p e x) := by exact fun _ => pay0 rfl) :
    PS X (.While c body [] pos) (tFS X.K W Eh tl G (whileL p mc g fuel x0) R Gb Gs) :=
  PS.weak (ps_while C.hp (pt_ex hc) (pss_ex hb)) fun D σ H ⟨B, F, T⟩ => by
    obtain ⟨Xl, hX, st1⟩ := (hG _ _ _ _ _ T.st).rebase (tl' := tl')
    have lc1 := T.lc hX ht
    generalize (⟨B.Hd, Xl, F, H, σ⟩ : Bs) = B' at st1 lc1
    refine ⟨fun m σ H => ∃ F x, Stt B' tl' (Gs x) F H σ ∧ Lc X.K W Eh tl' (whileL (b := b) p mc g m x) R Gs D B', ⟨fuel, F, x0, st1, lc1⟩, ?_⟩
    rintro m σ H ⟨F, x, st, lc⟩
    cases m with
    | zero => exact absurd rfl lc.ne
    | succ m =>
      have l2 : Lc X.K W Eh tl' ((mc x).bindP (fun e => p e x) fun t => if t = true then (g x).bind fun o => match o with
        | .ret v => M.ok (.ret v)
        | .nx y => whileL (b := b) p mc g m y
        | .ct y => whileL (b := b) p mc g m y
        | .bk y => M.ok (.nx y)
        else M.ok (.nx x)) R Gs D B' := lc
      refine ⟨x, B', tl', F, st, ?_, fun t et F1 H1 g1 => ?_, ?_⟩
      · intro q
        exact l2.ne (by rw [q]; rfl)
      · rw [et] at l2
        have st2 := st.grow g1
        cases t with
        | false => exact l2.nx x rfl σ F1 H1 st2
        | true =>
          have l3 : Lc X.K W Eh tl' ((g x).bind fun o => match o with
            | .ret v => M.ok (.ret v)
            | .nx y => whileL (b := b) p mc g m y
            | .ct y => whileL (b := b) p mc g m y
            | .bk y => M.ok (.nx y)) R Gs D B' := l2
          refine ⟨fun σ' H' => ∃ F y, Stt B' tl' (Gs y) F H' σ' ∧ Lc X.K W Eh tl' (whileL (b := b) p mc g m y) R Gs D B', fun σ' H' h => ⟨m, Nat.lt_succ_self m, h⟩, x, B', F1, st2, ?_, ?_, ?_, ?_, ?_, ?_⟩
          · intro q
            exact l3.ne (by rw [q]; rfl)
          · intro r q v σ' F' H' st'
            exact l3.ret r (by rw [q]; rfl) v σ' F' H' st'
          · intro y q σ' F' H' st'
            rw [q] at l3
            exact ⟨F', y, st', l3⟩
          · intro y q σ' F' H' st'
            exact l3.nx y (by rw [q]; rfl) σ' F' H' st'
          · intro y q σ' F' H' st'
            rw [q] at l3
            exact ⟨F', y, st', l3⟩
          · intro er q σ' F' H' st'
            exact l3.er er (by rw [q]; rfl) σ' F' H' st'
      · rintro er q F' H' gg
        have := l2.er (p er x) (by rw [q]; rfl) σ F' H' ((hp x).i er _ _ _ _ _ (st.grow gg))
        rw [(hp x).c er] at this
        exact this
end
/-! ### a def -/
def fin {ε ρ s : Type} (d : Option (s → ρ)) (m : Mg ε (Fl ρ Unit s)) : Mg ε ρ := m.bind fun o => match o with
  | .ret r => M.ok r
  | .nx t => match d with
    | some f => M.ok (f t)
    | none => none
  | _ => none
/-- an environment of a def's start: the parameters, then nothing -/
def env0 (ss : List Sl) (n : Nat) : Gm := ss.map some ++ List.replicate n none
theorem env0_get {ss : List Sl} {n i : Nat} {s : Sl} (e : (env0 ss n)[i]? = some (some s)) : ss[i]? = some s := by
  unfold env0 at e
  by_cases hi : i < ss.length
  · rw [List.getElem?_append_left (by simpa using hi), List.getElem?_map] at e
    cases q : ss[i]? with
    | none => rw [q] at e; cases e
    | some t => rw [q] at e; simpa using e
  · rw [List.getElem?_append_right (by simpa using hi)] at e
    rw [List.getElem?_replicate] at e
    split at e <;> simp at e
theorem stt_start {F H : Hp} {X : List Addr} {ss : List Sl} {vs : List V} {N : List Str} {ms : Nat → List Addr} {n : Nat} (x : Ex F H) (h : PmG (hid X H) F H X ss vs ms) (hl : vs.length ≤ N.length) (hn : N.length ≤ ss.length + n) : Stt ⟨hid X H, X, F, H, L2.start N vs⟩ (List.range N.length) (env0 ss n) F H (L2.start N vs) := by
  have hlen : (L2.start N vs).length = N.length := by simp [L2.start]; omega
  refine ⟨(Gr.refl x).x _, fun a o ha => hid_some ha, fun _ _ => rfl, rfl, by rw [hlen]; simp [env0]; omega, ms, ⟨fun i s e => ?_, fun i e => ?_, h.mem, fun i s e o y hy => .inr (h.own i s (env0_get e) o y hy), fun i s e o => h.sep i s (env0_get e) o⟩⟩
  · obtain ⟨v, hv, hr⟩ := h.has i s (env0_get e)
    refine ⟨v, fun _ => ?_, hr⟩
    have hi := (List.getElem?_eq_some_iff.mp hv).1
    unfold L2.start
    rw [List.getElem?_append_left (by simpa using hi), List.getElem?_map, hv]
    rfl
  · refine h.non i (Nat.le_of_not_lt fun hi => ?_)
    refine e ss[i] ?_
    unfold env0
    rw [List.getElem?_append_left (by simpa using hi), List.getElem?_map, List.getElem?_eq_getElem hi]
    rfl
/-- the places where some things stand -/
inductive Picks (G : Gm) : List Nat → List (V × Sl) → Prop where
  | nil : Picks G [] []
  | cons {i : Nat} {is : List Nat} {v : V} {s : Sl} {cs : List (V × Sl)} (h : G[i]? = some (some (pn v s))) (t : Picks G is cs) (y : ∀ Y Y' F H v ms, s.r Y F H v ms → s.r Y' F H v ms := by intro _ _ _ _ _ _ h; exact h) : Picks G (i :: is) ((v, s) :: cs)
theorem Picks.at_ {G : Gm} : ∀ {is : List Nat} {cs : List (V × Sl)}, Picks G is cs → ∀ {j : Nat} {v : V} {s : Sl}, cs[j]? = some (v, s) → ∃ i, is[j]? = some i ∧ G[i]? = some (some (pn v s)) ∧ ∀ Y Y' F H v ms, s.r Y F H v ms → s.r Y' F H v ms
  | _, _, .nil, j, v, s, e => by simp at e
  | _, _, .cons h t y, 0, v, s, e => by
    simp at e
    obtain ⟨rfl, rfl⟩ := e
    exact ⟨_, rfl, h, y⟩
  | _, _, .cons h t y, j + 1, v, s, e => by
    obtain ⟨i, h1, h2⟩ := t.at_ (j := j) (by simpa using e)
    exact ⟨i, by simpa using h1, h2⟩
theorem Picks.len {G : Gm} : ∀ {is : List Nat} {cs : List (V × Sl)}, Picks G is cs → is.length = cs.length
  | _, _, .nil => rfl
  | _, _, .cons _ t _ => congrArg (· + 1) t.len
theorem Picks.back {G : Gm} : ∀ {is : List Nat} {cs : List (V × Sl)}, Picks G is cs → ∀ {j i : Nat}, is[j]? = some i → ∃ v s, cs[j]? = some (v, s) ∧ G[i]? = some (some (pn v s))
  | _, _, .nil, j, i, e => by simp at e
  | _, _, .cons h t _, 0, i, e => by
    simp at e
    subst e
    exact ⟨_, _, rfl, h⟩
  | _, _, .cons h t _, j + 1, i, e => by
    obtain ⟨v, s, h1, h2⟩ := t.back (j := j) (by simpa using e)
    exact ⟨v, s, by simpa using h1, h2⟩
theorem Stt.cells {B : Bs} {tl : List Nat} {G : Gm} {F H : Hp} {σ : St} {is : List Nat} {cs : List (V × Sl)} (st : Stt B tl G F H σ) (p : Picks G is cs) (nd : is.Nodup) : ∃ ms, CellsOk B.Hd F H cs ms := by
  obtain ⟨ms, z⟩ := st.sl
  let mi : Nat → List Addr := fun j => match is[j]? with
    | some i => ms i
    | none => []
  have has' : ∀ (j : Nat) (x : Addr), x ∈ mi j → ∃ i v s, is[j]? = some i ∧ G[i]? = some (some (pn v s)) ∧ x ∈ ms i := fun j x hx => by
    have hx : x ∈ (match is[j]? with
      | some i => ms i
      | none => []) := hx
    cases q : is[j]? with
    | none => rw [q] at hx; simp at hx
    | some i =>
      rw [q] at hx
      obtain ⟨v, s, _, h2⟩ := p.back q
      exact ⟨i, v, s, rfl, h2, hx⟩
  have own : ∀ (i : Nat) (v : V) (s : Sl) (x : Addr), G[i]? = some (some (pn v s)) → x ∈ ms i → s.own = true := fun i v s x hG hx => by
    cases o : s.own with
    | true => rfl
    | false =>
      obtain ⟨u, _, hr⟩ := z.has i _ hG
      have : ms i = [] := (pn v s).no o hr
      rw [this] at hx
      simp at hx
  refine ⟨mi, fun j v s e Y' => ?_, fun j hj => ?_, fun j x hx => ?_, fun j x hx j' hj hm => ?_⟩
  · obtain ⟨i, h1, h2, h3⟩ := p.at_ e
    obtain ⟨u, _, rfl, hr⟩ := z.has i _ h2
    refine h3 B.Hd Y' _ _ _ _ ?_
    show s.r B.Hd F H u (match is[j]? with
      | some i => ms i
      | none => [])
    rw [h1]
    exact hr
  · show (match is[j]? with
      | some i => ms i
      | none => []) = []
    rw [List.getElem?_eq_none (by rw [p.len]; exact hj)]
  · obtain ⟨i, v, s, h1, h2, h3⟩ := has' j x hx
    exact ⟨st.frs z h2 (own i v s x h2 h3) x h3, z.mem i x h3⟩
  · obtain ⟨i, v, s, h1, h2, h3⟩ := has' j x hx
    obtain ⟨i', v', s', h1', h2', h3'⟩ := has' j' x hm
    refine z.sep i _ h2 (own i v s x h2 h3) x h3 i' (fun q => hj ?_) h3'
    subst q
    have l1 := (List.getElem?_eq_some_iff.mp h1).1
    have l2 := (List.getElem?_eq_some_iff.mp h1').1
    have nd' := List.pairwise_iff_getElem.mp nd
    have e1 := (List.getElem?_eq_some_iff.mp h1).2
    have e2 := (List.getElem?_eq_some_iff.mp h1').2
    rcases Nat.lt_trichotomy j' j with hlt | heq | hlt
    · exact absurd (e2.trans e1.symm) (nd' j' j l2 l1 hlt)
    · exact heq
    · exact absurd (e1.trans e2.symm) (nd' j j' l1 l2 hlt)
abbrev WE0 (E : XK) : WX := fun cls d _ H => E cls d H
abbrev bodyCx (P : Program) (w : World) (K : PySem.W.Frag) (mg : Str → Option Value) (base : Heap) (N : List Str) (qual : Str) (scope : Scope) (f : Addr) (cdv : Value) (A : Around) (outer : List PySem.Env) (s : Shared) (H : Hp) (E : XK) : Cx := cxOf (L2.CX P w) P w K mg base N qual scope f cdv A outer s H E
/-- a def by its block -/
theorem fn_def {P : Program} {w : World} {K : PySem.W.Frag} {mg : Str → Option Value} {base : Heap} {x qual : Str} {params : Arguments} {body : List Stmt} {scope : Scope} {f : Addr} {fd : FuncData} (Fd : FunD K x qual params body scope [] [] f fd) {N ps : List Str} (S : FnScope N ps scope) {k : Nat} {ε α ρ s : Type} {par : α → (Nat → V) → List Sl} {bm : α → Mg ε (Fl ρ Unit s)} {res : ρ → Sl} {outs : ρ → (Nat → V) → List (V × Sl)} {Eh : (Nat → V) → EH ε} {cls : ε → Er} {outsE : ε → (Nat → V) → List (V × Sl)}
    {R : (Nat → V) → ρ → V → Gm} {Nx : (Nat → V) → s → Gm} (n : Nat) (d : Option (s → ρ)) (ix ixn ixe : List Nat)
    (hd : ∀ f, d = some f → ∀ t Y F H, (res (f t)).r Y F H .non []) (hl : ∀ a w, (par a w).length = ps.length) (hn : N.length ≤ ps.length + n) (hps : ps.length ≤ N.length) (hcl : ∀ w e, (Eh w).cls e = cls e)
    (hR : ∀ w r v, Picks (R w r v) ix ((v, res r) :: outs r w)) (hN : ∀ f, d = some f → ∀ w t, Picks (Nx w t) ixn (outs (f t) w)) (hE : ∀ w e, Picks ((Eh w).G e) ixe (outsE e w)) (nd : ix.Nodup ∧ ixn.Nodup ∧ ixe.Nodup)
    (hbody : ∀ (cdv : Value) (A : Around) (outer : List PySem.Env) (s : Shared) (H : Hp) (E : XK), Cok (bodyCx P w K mg base N qual scope f cdv A outer s H E) (WE0 E) k →
      ∀ a u, FS (bodyCx P w K mg base N qual scope f cdv A outer s H E) (WE0 E) (Eh u) (List.range N.length) (env0 (par a u) n) body (bm a) (R u) (fun _ : Unit => []) (Nx u)) :
    FnOk P w K mg base (L2.CX P w) (k + 1) f fd ps (spG K par (fun a => fin d (bm a)) res outs cls outsE) := by
  refine Fd.ok S (fun vs H Q E ⟨a, F, u, X, ms, x, h, _⟩ => ?_) fun cdv A outer s H vs Q E hr ⟨a, F, u, X, ms, x, h, ne, hok, her⟩ => ?_
  · rw [← h.len]; exact hl a u
  · have hv : vs.length = ps.length := by rw [← h.len]; exact hl a u
    refine ⟨_, hbody cdv A outer s H E ⟨rfl, takes_of rfl rfl rfl rfl, passes_of rfl, hr, S.nd⟩ a u, ⟨hid X H, X, F, H, L2.start N vs⟩, F, ?_, ?_, ?_, ?_, ?_, ?_, ?_⟩
    · exact stt_start x h (by rw [hv]; exact hps) (by rw [hl a u]; exact hn)
    · intro e
      exact ne (by show fin d (bm a) = none; rw [e]; rfl)
    · intro r e v σ' F' H' st
      obtain ⟨ms', c⟩ := st.cells (hR u r v) nd.1
      exact hok r (by show fin d (bm a) = _; rw [e]; rfl) v F' H' ms' st.g c
    · intro t e σ' F' H' st
      cases d with
      | none => exact absurd (by show fin none (bm a) = none; rw [e]; rfl) ne
      | some f =>
        obtain ⟨ms', c⟩ := st.cells (hN f rfl u t) nd.2.1
        refine hok (f t) (by show fin (some f) (bm a) = _; rw [e]; rfl) .non F' H' (fun j => match j with
          | 0 => []
          | j + 1 => ms' j) st.g ⟨fun j v s e Y' => ?_, fun j hj => ?_, fun j x hx => ?_, fun j x hx j' hj hm => ?_⟩
        · cases j with
          | zero =>
            simp at e
            obtain ⟨rfl, rfl⟩ := e
            exact hd f rfl t _ _ _
          | succ j => exact c.has j v s (by simpa using e) Y'
        · cases j with
          | zero => rfl
          | succ j => exact c.non j (by simpa using hj)
        · cases j with
          | zero => exact nomatch hx
          | succ j => exact c.mem j x hx
        · cases j with
          | zero => exact nomatch hx
          | succ j =>
            cases j' with
            | zero => exact nomatch hm
            | succ j' => exact c.sep j x hx j' (fun q => hj (by rw [q])) hm
    · intro z e
      exact absurd (by show fin d (bm a) = none; rw [e]; rfl) ne
    · intro z e
      exact absurd (by show fin d (bm a) = none; rw [e]; rfl) ne
    · intro e q σ' F' H' st
      obtain ⟨ms', c⟩ := st.cells (hE u e) nd.2.2
      have := her e (by show fin d (bm a) = _; rw [q]; rfl) F' H' ms' st.g c
      rw [← hcl u e] at this
      exact this
end LK
namespace LK
open PySem L2
/-! ### comprehensions -/
def noerr {α : Type} (m : M α) : M α := match m with
  | some (.error _) => none
  | m => m
theorem noerr_ok {α : Type} (a : α) : noerr (M.ok a) = M.ok a := rfl
theorem noerr_ne {α : Type} {m : M α} (h : noerr m ≠ none) : ∃ a, m = M.ok a := by
  cases m with
  | none => exact absurd rfl h
  | some r =>
    cases r with
    | error e => exact absurd rfl h
    | ok a => exact ⟨a, rfl⟩
def lcL {α β : Type} (c : α → M Bool) (f : α → M β) : List α → List β → M (List β)
  | [], acc => M.ok acc
  | a :: r, acc => (noerr (c a)).bind fun t => if t = true then (noerr (f a)).bind fun y => M.need (acc.length < sizeLine) (lcL c f r (acc ++ [y])) else lcL c f r acc
theorem lcL_err {α β : Type} {c : α → M Bool} {f : α → M β} : ∀ {as : List α} {acc : List β} {e : Er}, lcL c f as acc ≠ M.err e
  | [], acc, e => fun h => nomatch h
  | a :: r, acc, e => fun h => by
    unfold lcL at h
    cases q : noerr (c a) with
    | none => rw [q] at h; cases h
    | some res =>
      obtain ⟨t, et⟩ := noerr_ne (by rw [q]; exact fun z => nomatch z)
      rw [et] at h
      cases t with
      | false => exact lcL_err (show lcL c f r acc = M.err e from h)
      | true =>
        have h : (noerr (f a)).bind (fun y => M.need (acc.length < sizeLine) (lcL c f r (acc ++ [y]))) = M.err e := h
        cases q2 : noerr (f a) with
        | none => rw [q2] at h; cases h
        | some res =>
          obtain ⟨y, ey⟩ := noerr_ne (by rw [q2]; exact fun z => nomatch z)
          rw [ey] at h
          have h : M.need (acc.length < sizeLine) (lcL c f r (acc ++ [y])) = M.err e := h
          unfold M.need at h
          split at h
          · exact lcL_err h
          · cases h
abbrev W0 : WX := fun _ _ _ _ => False
/-- the block of a comprehension -/
abbrev blkX (X : Cx) (scope : Scope) (s : Shared) (H : Hp) (C : Addr) (cl : List (Str × Addr)) (fp : List Addr) : Cx := X.blk s H scope (compEnvC scope cl C X.env) fp
theorem Cok.blk {X : Cx} {W : WX} {k : Nat} (C : Cok X W k) (scope : Scope) (s : Shared) (H : Hp) (c : Addr) (cl : List (Str × Addr)) (fp : List Addr) : Cok (blkX X scope s H c cl fp) W0 k :=
  ⟨C.calm, takes0, PassesOwn.never, C.hr, C.nd⟩
/-- tests of a clause -/
abbrev FTs (X : Cx) (W : WX) (G : Gm) (es : List Expr) (m : M Bool) : Prop := PTs X es (tT X.K W G m)
theorem PTs.weak {X : Cx} {e : List Expr} {t t' : TT} (h : PTs X e t) (w : ∀ σ H Q, t' σ H Q → t σ H Q) : PTs X e t' := ⟨fun pins s σ H Q I q => h.run pins s σ H Q I (w _ _ _ q)⟩
theorem fts_nil {X : Cx} {W : WX} {G : Gm} : FTs X W G [] (M.ok true) := PTs.weak pts_nil fun σ H Q ⟨B, tl, F, T⟩ => T.ok true rfl F H (Gr.refl T.fh)
theorem fts_one {X : Cx} {W : WX} {G : Gm} {c : Expr} {m : M Bool} (h : FT X W G c m) : FTs X W G [c] m := pts_one h
theorem wipe_get {σ : St} : ∀ {vs : List Nat} {i : Nat}, i ∉ vs → (wipe σ vs)[i]? = σ[i]?
  | [], i, _ => rfl
  | v :: vs, i, h => by
    show ((wipe σ vs).set v none)[i]? = _
    rw [List.getElem?_set_ne (fun q => h (by rw [q]; simp))]
    exact wipe_get fun q => h (List.mem_cons_of_mem _ q)
theorem wipe_at {σ : St} : ∀ {vs : List Nat} {i : Nat}, i ∈ vs → i < σ.length → (wipe σ vs)[i]? = some none
  | v :: vs, i, h, hl => by
    show ((wipe σ vs).set v none)[i]? = _
    by_cases hv : v = i
    · subst hv
      rw [List.getElem?_set_self (by rw [wipe_length]; exact hl)]
    · rw [List.getElem?_set_ne hv]
      exact wipe_at (by rcases List.mem_cons.mp h with q | q; exact absurd q.symm hv; exact q) hl
theorem wipe_eq {σ τ : St} {vs : List Nat} (hl : τ.length = σ.length) (h : ∀ i : Nat, i ∉ vs → τ[i]? = (wipe σ vs)[i]?) : wipe τ vs = wipe σ vs := by
  apply List.ext_getElem?
  intro i
  by_cases hi : i ∈ vs
  · by_cases hl' : i < σ.length
    · rw [wipe_at hi hl', wipe_at hi (by rw [hl]; exact hl')]
    · rw [List.getElem?_eq_none (by rw [wipe_length]; omega), List.getElem?_eq_none (by rw [wipe_length]; omega)]
  · rw [wipe_get hi]
    exact h i hi
theorem Stt.wipe {B : Bs} {tl : List Nat} {G Gw : Gm} {F H : Hp} {σ : St} {vs : List Nat} (s : Stt B tl G F H σ) (d : Imp G Gw) (hw : ∀ i ∈ vs, ∀ t, Gw[i]? ≠ some (some t)) : Stt ⟨B.Hd, B.X0, B.F0, B.H0, L2.wipe σ vs⟩ vs Gw F H (L2.wipe σ vs) := by
  have s' := d _ _ _ _ _ s
  obtain ⟨ms, z⟩ := s'.sl
  refine ⟨s'.g, s'.bh, fun _ _ => rfl, rfl, by rw [wipe_length]; exact s'.len, ms, ⟨fun i t e => ?_, z.non, z.mem, z.own, z.sep⟩⟩
  obtain ⟨v, h1, h2⟩ := z.has i t e
  exact ⟨v, fun hl => by rw [wipe_get fun q => hw i q t e]; exact h1 (by rw [wipe_length] at hl; exact hl), h2⟩
section
variable {X : Cx} {W : WX} {G Gw : Gm} {kk : Nat} {α β : Type} {A : Rf α} {E : Rf β}
def tEu (K : PySem.W.Frag) (G2 : α → Gm) (f : α → M β) (E : Rf β) : TE := fun σ H Q => ∃ a, tE K W0 (G2 a) (f a) E.up σ H Q
def tTu (K : PySem.W.Frag) (G2 : α → Gm) (c : α → M Bool) : TT := fun σ H Q => ∃ a, tT K W0 (G2 a) (c a) σ H Q
/-- one turn of a comprehension's block -/
theorem lc_turn {D : Addr} {F1 H1 : Hp} {σ : St} {vs : List Nat} {B : Bs} {G2 : α → Gm} {c : α → M Bool} {f : α → M β} {te : TE} {tt : TT} {K : PySem.W.Frag} (st : Stt B vs Gw F1 H1 (wipe σ vs)) (hs0 : B.s0 = wipe σ vs) (hD : H1 D = none)
    {i : Nat} {as : List α} {a : α} {v : V} {F H : Hp} {acc : List β} {accv : List V} {Nx : Hp → Prop} (ha : as[i]? = some a) (g : Gr F1 H1 F H) (hF : F D = none) (hv : A.r a F v) (hDl : H D = some (.lst accv)) (pw : Pw (fun b x => E.r b F x) acc accv)
    (ne : lcL c f (as.drop i) acc ≠ none)
    (hte : ∀ σ H Q, (∃ a, tE K W0 (G2 a) (f a) E.up σ H Q) → te σ H Q) (htt : ∀ σ H Q, (∃ a, tT K W0 (G2 a) (c a) σ H Q) → tt σ H Q)
    (hN : ∀ F' H' acc' accv', Gr F1 H1 F' H' → F' D = none → H' D = some (.lst accv') → Pw (fun b x => E.r b F' x) acc' accv' → lcL c f (as.drop i) acc = lcL c f (as.drop (i + 1)) acc' → Nx H') :
    tGt vs (fun _ : α => Gw) A (fun z => z) G2 v (wipe σ vs) H fun σ2 H2 => wipe σ2 vs = wipe σ vs ∧ tt σ2 H2 fun b H3 => if b = true then te σ2 H3 fun y H4 => ∃ acc, H4 D = some (.lst acc) ∧ acc.length < sizeLine ∧ Nx (upd H4 D (.lst (acc ++ [y]))) else Nx H3 := by
  have e : as.drop i = a :: as.drop (i + 1) := by
    obtain ⟨h1, h2⟩ := List.getElem?_eq_some_iff.mp ha
    rw [List.drop_eq_getElem_cons h1, h2]
  rw [e] at ne
  have ne1 : (noerr (c a)).bind (fun t => if t = true then (noerr (f a)).bind fun y => M.need (acc.length < sizeLine) (lcL c f (as.drop (i + 1)) (acc ++ [y])) else lcL c f (as.drop (i + 1)) acc) ≠ none := ne
  obtain ⟨t, et⟩ := noerr_ne (m := c a) (fun q => ne1 (by rw [q]; rfl))
  rw [et] at ne1
  have unf : lcL c f (as.drop i) acc = if t = true then (noerr (f a)).bind fun y => M.need (acc.length < sizeLine) (lcL c f (as.drop (i + 1)) (acc ++ [y])) else lcL c f (as.drop (i + 1)) acc := by
    rw [e]
    show (noerr (c a)).bind _ = _
    rw [et]
    rfl
  refine ⟨a, B, F, st.grow g, hv, fun σ' st' => ⟨?_, htt _ _ _ ⟨a, B, vs, F, st', (by rw [et]; exact fun z => (nomatch z)), fun t' et' F' H' g' => ?_, fun er q => by rw [et] at q; cases q⟩⟩⟩
  · refine wipe_eq ?_ fun j hj => ?_
    · rw [st'.ls, hs0, wipe_length]
    · rw [st'.fr j hj, hs0]
  · rw [et] at et'
    cases M.ok_inj et'
    cases t with
    | false =>
      exact hN F' H' acc accv (g.trans g') (g'.no D hF (.of hDl)) (g'.h _ _ hDl) (pw.imp fun _ _ h => E.st h g'.f) unf
    | true =>
      have ne2 : (noerr (f a)).bind (fun y => M.need (acc.length < sizeLine) (lcL c f (as.drop (i + 1)) (acc ++ [y]))) ≠ none := ne1
      obtain ⟨y, ey⟩ := noerr_ne (m := f a) (fun q => ne2 (by rw [q]; rfl))
      rw [ey] at ne2
      obtain ⟨hlt, e3⟩ := M.need_ne (show M.need (acc.length < sizeLine) (lcL c f (as.drop (i + 1)) (acc ++ [y])) ≠ none from ne2)
      show te σ' H' _
      refine hte _ _ _ ⟨a, B, vs, F', st'.grow g', (by rw [ey]; exact fun z => (nomatch z)), fun y' ey' F4 H4 g4 w rw' => ?_, fun er q => by rw [ey] at q; cases q⟩
      rw [ey] at ey'
      cases M.ok_inj ey'
      have hD4 : H4 D = some (.lst accv) := g4.h _ _ (g'.h _ _ hDl)
      have hF4 : F4 D = none := g4.no D (g'.no D hF (.of hDl)) (.of (g'.h _ _ hDl))
      refine ⟨accv, hD4, by rw [← pw.len]; exact hlt, hN F4 _ (acc ++ [y]) (accv ++ [w]) ?_ hF4 upd_same ((pw.imp fun _ _ h => E.st h (g'.f.trans g4.f)).snoc rw') ?_⟩
      · have g5 := (g.trans g').trans g4
        exact ⟨g5.f, g5.h.mut hD, g5.fh.mut hF4, g5.no⟩
      · rw [unf]
        show (noerr (f a)).bind _ = _
        rw [ey]
        exact M.need_pos hlt
/-- the reading of a comprehension over a list that is read -/
theorem tLcL_run {elt tg iter : Expr} {ifs : List Expr} {scope : Scope} {own : List (Str × Nat)} {m : M (List α)} {c : α → M Bool} {f : α → M β} {G2 : α → Gm} (C : Cok X W kk) (hi : FE X W G iter m (bLst X.K A)) (d : Imp G Gw) (hw : ∀ i ∈ own.map (·.2), ∀ t, Gw[i]? ≠ some (some t))
    (ok : BlkOk X.N X.env.scope scope own) (hg : ∀ s H C cl fp, FG (blkX X scope s H C cl fp) (own.map (·.2)) (fun _ : α => Gw) tg A (fun z => z) G2) (ht : ∀ a s H C cl fp, FTs (blkX X scope s H C cl fp) W0 (G2 a) ifs (c a)) (he : ∀ a s H C cl fp, FE (blkX X scope s H C cl fp) W0 (G2 a) elt (f a) E.up)
    (hs : ∀ x, foldedSetIterable iter X.env x = pure x) {σ : St} {H : Hp} {Q : VK} (h : tE X.K W G (m.bind fun as => lcL c f as []) (ro (tL X.K E)) σ H Q) : tLc (iList X.K (tE X.K W G m (bLst X.K A))) (tGt (own.map (·.2)) (fun _ : α => Gw) A (fun z => z) G2) (tTu X.K G2 c) (tEu X.K G2 f E) (own.map (·.2)) σ H Q := by
  obtain ⟨B, tl, F, T⟩ := h
  refine ⟨B, tl, F, T.seq fun as F1 H1 _ g1 T1 v ⟨q, vs, ev, hq, pw⟩ => ?_⟩
  subst ev
  refine ⟨q, rfl, ⟨vs, hq⟩, fun D hD => ?_⟩
  have st := T1.st.wipe d hw
  refine lc_list (K := X.K) (a := q) (xs := vs) (g := tGt (own.map (·.2)) (fun _ : α => Gw) A (fun z => z) G2) (tt := tTu X.K G2 c) (te := tEu X.K G2 f E) (D := D) (Qd := fun H => Q (.ref D) H) (fun i H => ∃ F acc accv, Gr F1 H1 F H ∧ F D = none ∧ H D = some (.lst accv) ∧ Pw (fun b x => E.r b F x) acc accv ∧ lcL c f as [] = lcL c f (as.drop i) acc) ?_ ?_ ?_ ?_
  · exact ⟨F1, [], [], Gr.newM g1.fh hD, g1.fh.free hD, upd_same, .nil, rfl⟩
  · rintro i H _ ⟨F, acc, accv, g, _⟩
    exact sqL_ex g.h hq
  · rintro i x H hx ⟨F, acc, accv, g, hF, hDl, pa, el⟩
    obtain ⟨a, ha, hv⟩ := pw.getV hx
    refine lc_turn st rfl hD ha g hF (A.st hv g.f) hDl pa (by rw [← el]; exact T1.ne) (te := tEu X.K G2 f E) (tt := tTu X.K G2 c) (fun _ _ _ h => h) (fun _ _ _ h => h) fun F' H' acc' accv' g' h1 h2 h3 h4 => ⟨F', acc', accv', g', h1, h2, h3, el.trans h4⟩
  · rintro H ⟨F, acc, accv, g, hF, hDl, pa, el⟩
    rw [← pw.len, List.drop_length] at el
    refine T1.ok acc el F H g (.ref D) ⟨[D], ⟨D, accv, rfl, hDl, pa, rfl⟩, fun y hy => ?_⟩
    cases List.mem_singleton.mp hy
    exact ⟨g1.h.free hD, hF, .of hDl⟩
/-- [elt for tg in xs if ..], xs a list that is read -/
theorem fe_lcL {elt tg iter : Expr} {ifs : List Expr} {scope : Scope} {own : List (Str × Nat)} {pos : Pos} {m : M (List α)} {c : α → M Bool} {f : α → M β} {G2 : α → Gm} (C : Cok X W kk) (hi : FE X W G iter m (bLst X.K A)) (d : Imp G Gw) (hw : ∀ i ∈ own.map (·.2), ∀ t, Gw[i]? ≠ some (some t))
    (ok : BlkOk X.N X.env.scope scope own) (hg : ∀ s H C cl fp, FG (blkX X scope s H C cl fp) (own.map (·.2)) (fun _ : α => Gw) tg A (fun z => z) G2) (ht : ∀ a s H C cl fp, FTs (blkX X scope s H C cl fp) W0 (G2 a) ifs (c a)) (he : ∀ a s H C cl fp, FE (blkX X scope s H C cl fp) W0 (G2 a) elt (f a) E.up)
    (hs : ∀ x, foldedSetIterable iter X.env x = pure x := by intro _; rfl) : FE X W G (.ListComp elt [⟨tg, iter, ifs, 0⟩] scope pos) (m.bind fun as => lcL c f as []) (ro (tL X.K E)) :=
  PE.weak (pe_lc (tt := tTu X.K G2 c) (te := tEu X.K G2 f E) C.calm C.nd (pi_list hi) ok (fun s H C cl fp => hg s H C cl fp) (fun s H C cl fp => ⟨fun pins s1 σ H1 Q I ⟨a, q⟩ => (ht a s H C cl fp).run pins s1 σ H1 Q I q⟩) (fun s H C cl fp => ⟨fun pins s1 σ H1 Q I ⟨a, q⟩ => (he a s H C cl fp).run pins s1 σ H1 Q I q⟩) hs) fun σ H Q h => tLcL_run C hi d hw ok hg ht he hs h
theorem fv_lcL {elt tg iter : Expr} {ifs : List Expr} {scope : Scope} {own : List (Str × Nat)} {pos : Pos} {as : List α} {c : α → M Bool} {f : α → M β} {G2 : α → Gm} (C : Cok X W kk) (hi : FE X W G iter (M.ok as) (bLst X.K A)) (d : Imp G Gw) (hw : ∀ i ∈ own.map (·.2), ∀ t, Gw[i]? ≠ some (some t))
    (ok : BlkOk X.N X.env.scope scope own) (hg : ∀ s H C cl fp, FG (blkX X scope s H C cl fp) (own.map (·.2)) (fun _ : α => Gw) tg A (fun z => z) G2) (ht : ∀ a s H C cl fp, FTs (blkX X scope s H C cl fp) W0 (G2 a) ifs (c a)) (he : ∀ a s H C cl fp, FE (blkX X scope s H C cl fp) W0 (G2 a) elt (f a) E.up)
    (hs : ∀ x, foldedSetIterable iter X.env x = pure x := by intro _; rfl) : FE X W G (.ListComp elt [⟨tg, iter, ifs, 0⟩] scope pos) (lcL c f as []) (ro (tL X.K E)) := fe_lcL C hi d hw ok hg ht he hs
/-- [elt for k in range(n)] -/
theorem tLcR_run {own : List (Str × Nat)} {m : M Int} {c : Int → M Bool} {f : Int → M β} {G2 : Int → Gm} (C : Cok X W kk) (d : Imp G Gw) (hw : ∀ i ∈ own.map (·.2), ∀ t, Gw[i]? ≠ some (some t))
    {σ : St} {H : Hp} {Q : VK} (h : tE X.K W G (m.bind fun n => M.need (-(2 ^ 62) ≤ n ∧ n < 2 ^ 62) (lcL c f (rngL n) [])) (ro (tL X.K E)) σ H Q) : tLc (iRng1 (tCons (tE X.K W G m fInt.up) tNil)) (tGt (own.map (·.2)) (fun _ : Int => Gw) fInt (fun z => z) G2) (tTu X.K G2 c) (tEu X.K G2 f E) (own.map (·.2)) σ H Q := by
  obtain ⟨B, tl, F, T⟩ := h
  refine ⟨B, tl, F, T.seq fun n F1 H1 _ g1 T1 v ev => ?_⟩
  have ev : v = V.int n := ev
  subst ev
  obtain ⟨hc, e2⟩ := M.need_ne T1.ne
  rw [e2] at T1
  refine ⟨n, rfl, hc.1, hc.2, fun D hD => ?_⟩
  have st := T1.st.wipe d hw
  refine lc_range (lo := 0) (n := n.toNat) (g := tGt (own.map (·.2)) (fun _ : Int => Gw) fInt (fun z => z) G2) (tt := tTu X.K G2 c) (te := tEu X.K G2 f E) (D := D) (Qd := fun H => Q (.ref D) H) (fun i H => ∃ F acc accv, Gr F1 H1 F H ∧ F D = none ∧ H D = some (.lst accv) ∧ Pw (fun b x => E.r b F x) acc accv ∧ lcL c f (rngL n) [] = lcL c f ((rngL n).drop i) acc) ?_ ?_ ?_
  · exact ⟨F1, [], [], Gr.newM g1.fh hD, g1.fh.free hD, upd_same, .nil, rfl⟩
  · rintro i H hx ⟨F, acc, accv, g, hF, hDl, pa, el⟩
    refine lc_turn st rfl hD (rngL_get hx) g hF (by rw [Int.zero_add]; rfl) hDl pa (by rw [← el]; exact T1.ne) (te := tEu X.K G2 f E) (tt := tTu X.K G2 c) (fun _ _ _ h => h) (fun _ _ _ h => h) fun F' H' acc' accv' g' h1 h2 h3 h4 => ⟨F', acc', accv', g', h1, h2, h3, el.trans h4⟩
  · rintro H ⟨F, acc, accv, g, hF, hDl, pa, el⟩
    rw [← rngL_len n, List.drop_length] at el
    refine T1.ok acc el F H g (.ref D) ⟨[D], ⟨D, accv, rfl, hDl, pa, rfl⟩, fun y hy => ?_⟩
    cases List.mem_singleton.mp hy
    exact ⟨g1.h.free hD, hF, .of hDl⟩
theorem fe_lcR {elt tg e : Expr} {p cpos : Pos} {ifs : List Expr} {scope : Scope} {own : List (Str × Nat)} {pos : Pos} {m : M Int} {c : Int → M Bool} {f : Int → M β} {G2 : Int → Gm} (C : Cok X W kk) (hm : X.mg "range" = none) (hi : FE X W G e m fInt.up) (d : Imp G Gw) (hw : ∀ i ∈ own.map (·.2), ∀ t, Gw[i]? ≠ some (some t))
    (ok : BlkOk X.N X.env.scope scope own) (hg : ∀ s H C cl fp, FG (blkX X scope s H C cl fp) (own.map (·.2)) (fun _ : Int => Gw) tg fInt (fun z => z) G2) (ht : ∀ a s H C cl fp, FTs (blkX X scope s H C cl fp) W0 (G2 a) ifs (c a)) (he : ∀ a s H C cl fp, FE (blkX X scope s H C cl fp) W0 (G2 a) elt (f a) E.up)
    (hgl : Gl X "range" := by rfl) (hst : starEach [e] X.env = [(false, eval e X.env)] := by rfl) (hs : ∀ x, foldedSetIterable (.Call (.Name "range" p) [e] [] cpos) X.env x = pure x := by intro _; rfl) : FE X W G (.ListComp elt [⟨tg, (.Call (.Name "range" p) [e] [] cpos), ifs, 0⟩] scope pos) (m.bind fun n => M.need (-(2 ^ 62) ≤ n ∧ n < 2 ^ 62) (lcL c f (rngL n) [])) (ro (tL X.K E)) :=
  PE.weak (pe_lc (tt := tTu X.K G2 c) (te := tEu X.K G2 f E) C.calm C.nd (pi_range1 hgl hm (pa_cons hi pa_nil hst) hst) ok (fun s H C cl fp => hg s H C cl fp) (fun s H C cl fp => ⟨fun pins s1 σ H1 Q I ⟨a, q⟩ => (ht a s H C cl fp).run pins s1 σ H1 Q I q⟩) (fun s H C cl fp => ⟨fun pins s1 σ H1 Q I ⟨a, q⟩ => (he a s H C cl fp).run pins s1 σ H1 Q I q⟩) hs) fun σ H Q h => tLcR_run C d hw h
theorem fv_lcR {elt tg e : Expr} {p cpos : Pos} {ifs : List Expr} {scope : Scope} {own : List (Str × Nat)} {pos : Pos} {n : Int} {c : Int → M Bool} {f : Int → M β} {G2 : Int → Gm} (C : Cok X W kk) (hm : X.mg "range" = none) (hi : FE X W G e (M.ok n) fInt.up) (d : Imp G Gw) (hw : ∀ i ∈ own.map (·.2), ∀ t, Gw[i]? ≠ some (some t))
    (ok : BlkOk X.N X.env.scope scope own) (hg : ∀ s H C cl fp, FG (blkX X scope s H C cl fp) (own.map (·.2)) (fun _ : Int => Gw) tg fInt (fun z => z) G2) (ht : ∀ a s H C cl fp, FTs (blkX X scope s H C cl fp) W0 (G2 a) ifs (c a)) (he : ∀ a s H C cl fp, FE (blkX X scope s H C cl fp) W0 (G2 a) elt (f a) E.up)
    (hgl : Gl X "range" := by rfl) (hst : starEach [e] X.env = [(false, eval e X.env)] := by rfl) (hs : ∀ x, foldedSetIterable (.Call (.Name "range" p) [e] [] cpos) X.env x = pure x := by intro _; rfl) : FE X W G (.ListComp elt [⟨tg, (.Call (.Name "range" p) [e] [] cpos), ifs, 0⟩] scope pos) (M.need (-(2 ^ 62) ≤ n ∧ n < 2 ^ 62) (lcL c f (rngL n) [])) (ro (tL X.K E)) := fe_lcR C hm hi d hw ok hg ht he hgl hst hs
end
/-! ### isinstance of what the mirror knows -/
section
variable {X : Cx} {W : WX} {G : Gm}
/-- the name of a built-in class as a value -/
def fTy (n : String) : Rf Unit := ⟨fun _ _ v => v = .ty n, fun h _ => h⟩
theorem fe_ty {x : Str} {n : String} {pos : Pos} (hm : X.mg x = none) (hg : Gl X x := by rfl) (hv : bootBuiltins x = some (.type n) := by decide +kernel) (hn : x ≠ "__name__" := by decide) (hd : (x == ("__debug__" : Str)) = false := by decide) : FE X W G (.Name x pos) (M.ok ()) (fTy n).up :=
  fe_now (pe_bltn (v := .ty n) hg hm hv rfl hn hd) fun B tl σ F H Q st k => k _ F H (Gr.refl st.fh) rfl
/-- what type it has -/
structure TyA {α : Type} (K : PySem.W.Frag) (A : Rl α) (a : α) (t : String) : Prop where
  run : ∀ H0 F H v, Ex F H → A.r a H0 F H v → TyX K H v (.type t)
theorem ta_int {a : Int} : TyA X.K fInt.up a "int" := ⟨fun H0 F H v _ h => by cases h; exact .base (.int a)⟩
theorem ta_bool {a : Bool} : TyA X.K fBool.up a "bool" := ⟨fun H0 F H v _ h => by cases h; exact .base (.bl a)⟩
theorem ta_str {a : List Nat} : TyA X.K fTxt.up a "str" := ⟨fun H0 F H v _ ⟨h, _⟩ => by subst h; exact .base (.str _)⟩
theorem ta_none {a : Unit} : TyA X.K fUnit.up a "NoneType" := ⟨fun H0 F H v _ h => by cases h; exact .base .non⟩
theorem ta_list {α : Type} {A : Rf α} {a : List α} : TyA X.K (bLst X.K A) a "list" := ⟨fun H0 F H v _ ⟨p, vs, e, h, _⟩ => by
  subst e
  rcases h with (h | ⟨o, h⟩) | ⟨o, its, n, h, hc, _⟩
  · exact .base (.lst h)
  · exact .base (.frz h)
  · exact .kList h hc⟩
theorem ta_tup {α : Type} {T : Tv α} {a : α} : TyA X.K (fTup X.K T).up a "tuple" := ⟨fun H0 F H v x ⟨p, vs, e, h, _⟩ => by
  subst e
  rcases sqT_ex x h with (h | ⟨o, h⟩) | ⟨o, its, n, h, hc, _⟩
  · exact .base (.tup h)
  · exact .fTuple h
  · exact .kTuple h hc⟩
theorem cl_isi {α : Type} {A : Rl α} {a : α} {n t : String} {b : Bool} (h : TyA X.K A a t) (hb : kitB t n = some b := by decide +kernel) : CallP (rIsi X.K) (a2 A (fTy n).up) (a, (), ()) (M.ok b) fBool.up :=
  ⟨fun e q => (nomatch q), fun F H vs H0 Q x ⟨v, r, e, h1, ⟨w, r2, e2, h2, h3⟩⟩ c ec k => by
    cases M.ok_inj ec
    cases h3
    have h2 : w = .ty n := h2
    subst h2
    subst e2
    subst e
    exact ⟨v, .ty n, .type t, .type n, b, rfl, .ty n, h.run _ _ _ _ x h1, kit_ty hb, k _ F H (Gr.refl x) rfl⟩⟩
end
/-! ### == of data at any depth -/
open PySem (PyData) in
/-- the data as the model's own -/
structure Dt (K : PySem.W.Frag) {α : Type} (A : Rf α) where
  d : α → PyData
  n : Nat
  at_ : ∀ {a F H v}, A.r a F v → Ex F H → Dp K H v (d a)
  ok : ∀ {a F v}, A.r a F v → (d a).canLay0 = true ∧ (d a).depth ≤ n
  eq : ∀ a b, PyData.eqv (d a) (d b) = true ↔ a = b
section
variable {K : PySem.W.Frag}
def dInt : Dt K fInt := ⟨fun i => .int i, 0, fun {a F H v} h _ => by cases h; exact .int a, fun _ => ⟨rfl, Nat.le_refl 0⟩, fun a b => by
  show (a == b) = true ↔ _
  exact beq_iff_eq⟩
def dBool : Dt K fBool := ⟨fun i => .bool i, 0, fun {a F H v} h _ => by cases h; exact .bl a, fun _ => ⟨rfl, Nat.le_refl 0⟩, fun a b => by
  show (a == b) = true ↔ _
  exact beq_iff_eq⟩
def dTxt : Dt K fTxt := ⟨fun l => .str (S l), 0, fun {a F H v} h _ => by
  obtain ⟨h, _⟩ := h
  subst h
  exact .str _, fun {a F v} h => ⟨by
  show PyData.strOk (S a) = true
  unfold PyData.strOk
  rw [Array.all_eq_true']
  intro c hc
  exact decide_eq_true (h.2.all c (by simpa [S] using hc)), Nat.le_refl 0⟩, fun a b => by
  show (S a == S b) = true ↔ _
  rw [beq_iff_eq]
  exact ⟨S_inj, fun h => by rw [h]⟩⟩
theorem dpAll_pw {α : Type} {A : Rf α} (D : Dt K A) {F H : Hp} (x : Ex F H) : ∀ {as : List α} {vs : List V}, Pw (fun a v => A.r a F v) as vs → DpAll K H vs (as.map D.d)
  | _, _, .nil => .nil
  | _, _, .cons h t => .cons (D.at_ h x) (dpAll_pw D x t)
theorem okAll_pw {α : Type} {A : Rf α} (D : Dt K A) {F : Hp} : ∀ {as : List α} {vs : List V}, Pw (fun a v => A.r a F v) as vs → PyData.canLayAll0 (as.map D.d) = true ∧ PyData.depthAll (as.map D.d) ≤ D.n
  | _, _, .nil => ⟨rfl, Nat.zero_le _⟩
  | _, _, .cons h t => by
    obtain ⟨h1, h2⟩ := D.ok h
    obtain ⟨h3, h4⟩ := okAll_pw D t
    exact ⟨Bool.and_eq_true_iff.mpr ⟨h1, h3⟩, Nat.max_le.mpr ⟨h2, h4⟩⟩
theorem eqvAll_map {α : Type} {A : Rf α} (D : Dt K A) : ∀ as bs : List α, PyData.eqvAll (as.map D.d) (bs.map D.d) = true ↔ as = bs
  | [], [] => ⟨fun _ => rfl, fun _ => rfl⟩
  | [], b :: bs => ⟨fun h => (nomatch h), fun h => (nomatch h)⟩
  | a :: as, [] => ⟨fun h => (nomatch h), fun h => (nomatch h)⟩
  | a :: as, b :: bs => by
    show (PyData.eqv (D.d a) (D.d b) && PyData.eqvAll (as.map D.d) (bs.map D.d)) = true ↔ _
    rw [Bool.and_eq_true_iff, D.eq, eqvAll_map D as bs]
    constructor
    · rintro ⟨rfl, rfl⟩; rfl
    · intro h; injection h with h1 h2; exact ⟨h1, h2⟩
def dLst {α : Type} {A : Rf α} (D : Dt K A) : Dt K (fLst K A) := ⟨fun as => .list (as.map D.d), D.n + 1, fun {a F H v} ⟨p, vs, e, h, q⟩ x => by
  subst e
  exact .lst (sqL_ex x h) (dpAll_pw D x q), fun {a F v} ⟨p, vs, e, h, q⟩ => ⟨(okAll_pw D q).1, Nat.succ_le_succ (okAll_pw D q).2⟩, fun a b => eqvAll_map D a b⟩
structure DtT (K : PySem.W.Frag) {α : Type} (T : Tv α) where
  d : α → List PyData
  n : Nat
  at_ : ∀ {a F H vs}, T.r a F vs → Ex F H → DpAll K H vs (d a)
  ok : ∀ {a F vs}, T.r a F vs → PyData.canLayAll0 (d a) = true ∧ PyData.depthAll (d a) ≤ n
  eq : ∀ a b, PyData.eqvAll (d a) (d b) = true ↔ a = b
def dt1 {α : Type} {A : Rf α} (D : Dt K A) : DtT K (tv1 A) := ⟨fun a => [D.d a], D.n, fun {a F H vs} ⟨x, e, h⟩ q => by
  subst e
  exact .cons (D.at_ h q) .nil, fun {a F vs} ⟨x, e, h⟩ => ⟨Bool.and_eq_true_iff.mpr ⟨(D.ok h).1, rfl⟩, Nat.max_le.mpr ⟨(D.ok h).2, Nat.zero_le _⟩⟩, fun a b => by
  show (PyData.eqv (D.d a) (D.d b) && true) = true ↔ _
  rw [Bool.and_true]
  exact D.eq a b⟩
def dtc {α β : Type} {A : Rf α} {T : Tv β} (D : Dt K A) (E : DtT K T) : DtT K (tvc A T) := ⟨fun a => D.d a.1 :: E.d a.2, max D.n E.n, fun {a F H vs} ⟨x, r, e, h, t⟩ q => by
  subst e
  exact .cons (D.at_ h q) (E.at_ t q), fun {a F vs} ⟨x, r, e, h, t⟩ => ⟨Bool.and_eq_true_iff.mpr ⟨(D.ok h).1, (E.ok t).1⟩, Nat.max_le.mpr ⟨Nat.le_trans (D.ok h).2 (Nat.le_max_left _ _), Nat.le_trans (E.ok t).2 (Nat.le_max_right _ _)⟩⟩, fun a b => by
  show (PyData.eqv (D.d a.1) (D.d b.1) && PyData.eqvAll (E.d a.2) (E.d b.2)) = true ↔ _
  rw [Bool.and_eq_true_iff, D.eq, E.eq]
  obtain ⟨a1, a2⟩ := a
  obtain ⟨b1, b2⟩ := b
  constructor
  · rintro ⟨rfl, rfl⟩; rfl
  · intro h; injection h with h1 h2; exact ⟨h1, h2⟩⟩
def dTup {α : Type} {T : Tv α} (D : DtT K T) : Dt K (fTup K T) := ⟨fun a => .tuple (D.d a), D.n + 1, fun {a F H v} ⟨p, vs, e, h, q⟩ x => by
  subst e
  exact .tup (sqT_ex x h) (D.at_ q x), fun {a F v} ⟨p, vs, e, h, q⟩ => ⟨(D.ok q).1, Nat.succ_le_succ (D.ok q).2⟩, fun a b => D.eq a b⟩
theorem dt_dec {α : Type} [DecidableEq α] {A : Rf α} (D : Dt K A) (a b : α) : PyData.eqv (D.d a) (D.d b) = decide (a = b) := by
  by_cases h : a = b
  · rw [decide_eq_true h]
    exact (D.eq a b).mpr h
  · rw [decide_eq_false h]
    cases q : PyData.eqv (D.d a) (D.d b) with
    | false => rfl
    | true => exact absurd ((D.eq a b).mp q) h
theorem dt_shaped {α : Type} {A : Rf α} (D : Dt K A) (hn : D.n ≤ 64) {a : α} {F : Hp} {v : V} (h : A.r a F v) : SeqAt.shaped (D.d a) = true := Bool.and_eq_true_iff.mpr ⟨(D.ok h).1, decide_eq_true (Nat.le_trans (D.ok h).2 hn)⟩
theorem ol_eqD {α : Type} [DecidableEq α] {A : Rf α} (D : Dt K A) {a b : α} (hn : D.n ≤ 64 := by exact Nat.le_of_ble_eq_true rfl) : OpP (rEqD K) A.up A.up a b (M.ok (decide (a = b))) fBool.up := opp fun F H v w Q x ha hb k =>
  ⟨D.d a, D.d b, D.at_ ha x, D.at_ hb x, dt_shaped D hn ha, dt_shaped D hn hb, by rw [dt_dec]; exact k _ rfl⟩
theorem ol_neD {α : Type} [DecidableEq α] {A : Rf α} (D : Dt K A) {a b : α} (hn : D.n ≤ 64 := by exact Nat.le_of_ble_eq_true rfl) : OpP (rNeD K) A.up A.up a b (M.ok (!decide (a = b))) fBool.up := opp fun F H v w Q x ha hb k =>
  ⟨D.d a, D.d b, D.at_ ha x, D.at_ hb x, dt_shaped D hn ha, dt_shaped D hn hb, by rw [dt_dec]; exact k _ rfl⟩
/-- two lists that are read -/
theorem bl_at {α : Type} {A : Rf α} (D : Dt K A) {as : List α} {H0 F H : Hp} {v : V} (x : Ex F H) (h : (bLst K A).r as H0 F H v) : Dp K H v (.list (as.map D.d)) ∧ (D.n + 1 ≤ 64 → SeqAt.shaped (.list (as.map D.d)) = true) := by
  obtain ⟨p, vs, e, h, q⟩ := h
  subst e
  exact ⟨.lst h (dpAll_pw D x q), fun hn => Bool.and_eq_true_iff.mpr ⟨(okAll_pw D q).1, decide_eq_true (Nat.le_trans (Nat.succ_le_succ (okAll_pw D q).2) hn)⟩⟩
theorem dl_dec {α : Type} [DecidableEq α] {A : Rf α} (D : Dt K A) (as bs : List α) : PyData.eqv (.list (as.map D.d)) (.list (bs.map D.d)) = decide (as = bs) := dt_dec (dLst D) as bs
theorem ol_eqL {α : Type} [DecidableEq α] {A : Rf α} (D : Dt K A) {a b : List α} (hn : D.n + 1 ≤ 64 := by exact Nat.le_of_ble_eq_true rfl) : OpP (rEqD K) (bLst K A) (bLst K A) a b (M.ok (decide (a = b))) fBool.up :=
  ⟨fun e q => (nomatch q), fun F H v w H0 Q x ha hb c e k => by
    cases M.ok_inj e
    obtain ⟨h1, h2⟩ := bl_at D x ha
    obtain ⟨h3, h4⟩ := bl_at D x hb
    exact ⟨_, _, h1, h3, h2 hn, h4 hn, by rw [dl_dec]; exact k _ F H (Gr.refl x) rfl⟩⟩
theorem ol_neL {α : Type} [DecidableEq α] {A : Rf α} (D : Dt K A) {a b : List α} (hn : D.n + 1 ≤ 64 := by exact Nat.le_of_ble_eq_true rfl) : OpP (rNeD K) (bLst K A) (bLst K A) a b (M.ok (!decide (a = b))) fBool.up :=
  ⟨fun e q => (nomatch q), fun F H v w H0 Q x ha hb c e k => by
    cases M.ok_inj e
    obtain ⟨h1, h2⟩ := bl_at D x ha
    obtain ⟨h3, h4⟩ := bl_at D x hb
    exact ⟨_, _, h1, h3, h2 hn, h4 hn, by rw [dl_dec]; exact k _ F H (Gr.refl x) rfl⟩⟩
end
end LK
namespace LK
open PySem L2
section
variable {X : Cx} {W : WX} {G : Gm} {k : Nat}
/-! ### a def by its name -/
def Cal (P : Program) (w : World) (K : PySem.W.Frag) (mg : Str → Option Value) (base : Heap) (x : Str) (ps : List Str) (j : Nat) (sp : Sp) : Prop :=
  ∃ f fd, mg x = some (.ref f) ∧ PySem.W.keepIn K (.ref f) = true ∧ Binds K fd ps [] ∧ FnOk P w K mg base (L2.CX P w) j f fd ps sp
theorem fe_callC {α ρ : Type} {j : Nat} {ps : List Str} {x : Str} {p pos : Pos} {e : Expr} {es : List Expr} {par : α → List Sl} {mir : α → M ρ} {res : ρ → Sl} {R : Rl ρ} {m : M α} {mm : M ρ} {A : Ra α} (C : Cok X W k)
    (h : Cal X.prog X.w X.K X.mg X.base x ps j (spP X.K par mir res)) (hj : j ≤ k) (hp : ArgOk A par) (hr : ResOf res R) (ha : FA X W G (e :: es) m A) (hme : m.bind mir = mm := by rfl)
    (hg : Gl X x := by rfl) (hdb : (x == ("__debug__" : Str)) = false := by decide) (he : starEach (e :: es) X.env = (false, eval e X.env) :: starEach es X.env := by rfl) (hpl : (backTo pos (starEach es X.env)).any (·.1) = false := by rfl) :
    FE X W G (.Call (.Name x p) (e :: es) [] pos) mm R := by
  obtain ⟨f, fd, hm, hk, hb, Fk⟩ := h
  rw [← hme]
  exact fe_call C Fk hj hm hk hb hp hr ha hg hdb he hpl
theorem fv_callC {α ρ : Type} {j : Nat} {ps : List Str} {x : Str} {p pos : Pos} {e : Expr} {es : List Expr} {par : α → List Sl} {mir : α → M ρ} {res : ρ → Sl} {R : Rl ρ} {a : α} {mm : M ρ} {A : Ra α} (C : Cok X W k)
    (h : Cal X.prog X.w X.K X.mg X.base x ps j (spP X.K par mir res)) (hj : j ≤ k) (hp : ArgOk A par) (hr : ResOf res R) (ha : FA X W G (e :: es) (M.ok a) A) (hme : mir a = mm := by rfl)
    (hg : Gl X x := by rfl) (hdb : (x == ("__debug__" : Str)) = false := by decide) (he : starEach (e :: es) X.env = (false, eval e X.env) :: starEach es X.env := by rfl) (hpl : (backTo pos (starEach es X.env)).any (·.1) = false := by rfl) :
    FE X W G (.Call (.Name x p) (e :: es) [] pos) mm R := fe_callC C h hj hp hr ha hme hg hdb he hpl
theorem fe_callC0 {ρ : Type} {j : Nat} {ps : List Str} {x : Str} {p pos : Pos} {par : Unit → List Sl} {mir : Unit → M ρ} {res : ρ → Sl} {R : Rl ρ} (C : Cok X W k)
    (h : Cal X.prog X.w X.K X.mg X.base x ps j (spP X.K par mir res)) (hj : j ≤ k) (hp : ArgOk ra0 par) (hr : ResOf res R)
    (hg : Gl X x := by rfl) (hdb : (x == ("__debug__" : Str)) = false := by decide) : FE X W G (.Call (.Name x p) [] [] pos) (mir ()) R := by
  obtain ⟨f, fd, hm, hk, hb, Fk⟩ := h
  exact fe_call0 C Fk hj hm hk hb hp hr hg hdb
/-! ### the right side a value -/
theorem op_runR {K : PySem.W.Frag} {α β γ : Type} {r : R2} {ta tb : TE} {ma : M α} {y : β} {g : α → M γ} {A : Rl α} {B : Rl β} {R : Rl γ} (hl : ∀ a, OpP r A B a y (g a) R) {σ : St} {H : Hp} {Q : VK}
    (ha : ∀ σ H Q, tE K W G ma A σ H Q → ta σ H Q) (hb : ∀ σ H Q, tE K W G (M.ok y) B σ H Q → tb σ H Q) (h : tE K W G (ma.bind g) R σ H Q) : tOp r ta tb σ H Q := by
  obtain ⟨Bs, tl, F, T⟩ := h
  refine ha _ _ _ ⟨Bs, tl, F, T.seq fun x F1 H1 _ g1 T1 v rv => hb _ _ _ ⟨Bs, tl, F1, ?_⟩⟩
  have T1 : Told K W G ((M.ok y).bind fun _ => g x) _ σ H1 Bs tl F1 := T1
  refine T1.seq fun y' F2 H2 ey g2 T2 w rw => ?_
  cases M.ok_inj ey
  obtain ⟨c, e, q⟩ := T2.out (hl x).ne
  exact (hl x).run F2 H2 v w H Q T2.fh (A.st rv g2) (B.pre rw g1.h.kn) c e fun z F' H' g3 rz => T2.ok c e F' H' g3 z (R.pre rz (g1.h.trans g2.h).kn)
theorem fe_binr {α β γ : Type} {op : Operator} {r : R2} {a b : Expr} {pos : Pos} {ma : M α} {y : β} {g : α → M γ} {A : Rl α} {B : Rl β} {R : Rl γ} (ho : OpR X (binaryOp op) r) (hl : ∀ a, OpP r A B a y (g a) R) (ha : FE X W G a ma A) (hb : FE X W G b (M.ok y) B) :
    FE X W G (.BinOp a op b pos) (ma.bind g) R := PE.weak (pe_op ho ha hb) fun _ _ _ h => op_runR hl (fun _ _ _ z => z) (fun _ _ _ z => z) h
theorem fe_ixr {α β γ : Type} {r : R2} {a b : Expr} {pos : Pos} {ma : M α} {y : β} {g : α → M γ} {A : Rl α} {B : Rl β} {R : Rl γ} (ho : IxR X r) (hl : ∀ a, OpP r A B a y (g a) R) (ha : FE X W G a ma A) (hb : FE X W G b (M.ok y) B) (hs : PlainIx b := by exact fun _ _ => rfl) :
    FE X W G (.Subscript a b pos) (ma.bind g) R := PE.weak (pe_ix ho ha hb hs) fun _ _ _ h => op_runR hl (fun _ _ _ z => z) (fun _ _ _ z => z) h
/-! ### more operators -/
theorem fe_neg {a : Expr} {pos : Pos} {m : M Int} (h : FE X W G a m fInt.up) : FE X W G (.UnaryOp .USub a pos) (m.bind fun i => M.ok (-i)) fInt.up :=
  PE.weak (pe_un un_neg h) fun σ H Q ⟨B, tl, F, D⟩ => ⟨B, tl, F, D.seq fun i F1 H1 _ g1 D1 v rv => ⟨i, rv, D1.ok _ rfl F1 H1 (Gr.refl g1.fh) _ rfl⟩⟩
theorem fv_neg {a : Expr} {pos : Pos} {i : Int} (h : FE X W G a (M.ok i) fInt.up) : FE X W G (.UnaryOp .USub a pos) (M.ok (-i)) fInt.up := fe_neg h
theorem ol_mulN {a b : Int} : OpP (rI CMul fun i j => .int (i * j)) fInt.up fInt.up a b (M.need ((-(2 ^ 64) < a ∧ a < 2 ^ 64) ∨ (-(2 ^ 64) < b ∧ b < 2 ^ 64)) (M.ok (a * b))) fInt.up := oppN fun hc F H v w Q x ha hb k => ⟨a, b, ha, hb, hc, k _ rfl⟩
theorem ol_modN {a b : Int} : OpP (rI (fun _ j => 0 < j) fun i j => .int (i % j)) fInt.up fInt.up a b (M.need (0 < b) (M.ok (a % b))) fInt.up := oppN fun hc F H v w Q x ha hb k => ⟨a, b, ha, hb, hc, k _ rfl⟩
theorem ol_fdivN {a b : Int} : OpP (rI CDiv fun i j => .int (i / j)) fInt.up fInt.up a b (M.need (0 < b ∧ b < 1073741824) (M.ok (a / b))) fInt.up := oppN fun hc F H v w Q x ha hb k => ⟨a, b, ha, hb, hc, k _ rfl⟩
theorem ol_notinStr {a b : List Nat} : OpP (fun x y H Q => ∃ i j, x = .str i ∧ y = .str j ∧ Q (.bl (!(!(Builtin.Str.occurrences j i 0 j.length 1).isEmpty))) H) fTxt.up fTxt.up a b (M.ok (!occIn a b)) fBool.up := opp fun F H v w Q x ha hb k => by
  obtain ⟨rfl, _⟩ := ha
  obtain ⟨rfl, _⟩ := hb
  exact ⟨S a, S b, rfl, rfl, k _ rfl⟩
theorem cl_listL {α : Type} {A : Rf α} {a : List α} : CallP (fun xs H Q => ∃ p ys, xs = [.ref p] ∧ (SqL X.K H p ys ∨ SqT X.K H p ys) ∧ ∀ l, H l = none → Q (.ref l) (upd H l (.lst ys))) (a1 (bLst X.K A)) (a, ()) (M.ok a) (ro (tL X.K A)) :=
  ⟨fun e q => (nomatch q), fun F H vs H0 Q x ⟨v, r, e, ⟨p, ws, ev, h, q⟩, h2⟩ c ec k => by
    cases M.ok_inj ec
    cases h2
    subst ev
    subst e
    refine ⟨p, ws, rfl, .inl h, fun l hl => k (.ref l) F _ (Gr.newM x hl) ⟨[l], ⟨l, ws, rfl, upd_same, q, rfl⟩, fun y hy => ?_⟩⟩
    cases List.mem_singleton.mp hy
    exact ⟨hl, x.free hl, NT.up⟩⟩
/-- int(text) -/
def intS (a : List Nat) : M Int := match PySem.intText? (S a) with
  | some n => M.ok n
  | none => none
theorem intS_err {a : List Nat} (e : Er) : intS a ≠ M.err e := by
  unfold intS
  split <;> exact fun h => nomatch h
theorem intS_ok {a : List Nat} {n : Int} (h : intS a = M.ok n) : PySem.intText? (S a) = some n := by
  unfold intS at h
  split at h
  · rename_i k e
    rw [e, M.ok_inj h]
  · cases h
theorem cl_intS {a : List Nat} : CallP (fun xs H Q => ∃ a n, xs = [.str a] ∧ PySem.intText? a = some n ∧ a.length ≤ 640 ∧ Q (.int n) H) (a1 fTxt.up) (a, ()) (M.need (a.length ≤ 640) (intS a)) fInt.up := by
  refine ⟨fun e h => ?_, fun F H vs H0 Q x ⟨v, r, e, h1, h2⟩ c ec k => ?_⟩
  · unfold M.need at h
    split at h
    · exact intS_err e h
    · cases h
  · obtain ⟨hc, e2⟩ := M.need_ne (m := intS a) (c := a.length ≤ 640) (by rw [ec]; exact fun z => nomatch z)
    rw [e2] at ec
    cases h2
    obtain ⟨h1, _⟩ := h1
    subst h1
    subst e
    exact ⟨S a, c, rfl, intS_ok ec, by rw [S_len]; exact hc, k _ F H (Gr.refl x) rfl⟩
/-- a < b < c of values -/
theorem fv_chain {α β γ : Type} {op op' : CmpOp} {r r' : R2} {a b d : Expr} {pos : Pos} {x : α} {y : β} {z : γ} {p q : Bool} {A : Rl α} {B : Rl β} {D : Rl γ} (ho : OpR X (compareOp op) r) (ho' : OpR X (compareOp op') r') (hl : OpP r A B x y (M.ok p) fBool.up) (hl' : OpP r' B D y z (M.ok q) fBool.up)
    (ha : FE X W G a (M.ok x) A) (hb : FE X W G b (M.ok y) B) (hd : FE X W G d (M.ok z) D) (hm : lastMarks [op, op'] [b, d] = false := by with_unfolding_all rfl) : FE X W G (.Compare a [op, op'] [b, d] pos) (M.ok (p && q)) fBool.up :=
  PE.weak (pe_chain ho ho' ha hb hd hm) fun σ H Q ⟨Bs, tl, F, T⟩ => by
    have T : Told X.K W G ((M.ok x).bind fun _ => (M.ok y).bind fun _ => M.ok (p && q)) _ σ H Bs tl F := T
    refine ⟨Bs, tl, F, T.seq fun x' F1 H1 ex g1 T1 v rv => ⟨Bs, tl, F1, T1.seq fun y' F2 H2 ey g2 T2 w rw => ?_⟩⟩
    cases M.ok_inj ex
    cases M.ok_inj ey
    refine hl.run F2 H2 v w H _ T2.fh (A.st rv g2) (B.pre rw g1.h.kn) p rfl fun u F3 H3 g3 ru => ⟨p, ru, ?_⟩
    cases p with
    | false => exact T2.ok _ rfl F3 H3 g3 _ rfl
    | true =>
      have T3 : Told X.K W G ((M.ok z).bind fun _ => M.ok (true && q)) _ σ H3 Bs tl F3 := ⟨T2.st.grow g3, T2.ne, fun a e F' H' g => T2.ok a e F' H' (g3.trans g), fun e q' F' H' g => T2.er e q' F' H' (g3.trans g)⟩
      refine ⟨Bs, tl, F3, T3.seq fun z' F4 H4 ez g4 T4 u rz => ?_⟩
      cases M.ok_inj ez
      exact hl'.run F4 H4 w u H1 Q T4.fh (B.st rw (g3.trans g4)) (D.pre rz (g2.h.trans g3.h).kn) q rfl fun t F5 H5 g5 rt => T4.ok _ rfl F5 H5 g5 t rt
theorem tv_chain {α β γ : Type} {op op' : CmpOp} {r r' : R2} {a b d : Expr} {pos : Pos} {x : α} {y : β} {z : γ} {p q : Bool} {A : Rl α} {B : Rl β} {D : Rl γ} (ho : OpR X (compareOp op) r) (ho' : OpR X (compareOp op') r') (hl : OpP r A B x y (M.ok p) fBool.up) (hl' : OpP r' B D y z (M.ok q) fBool.up)
    (ha : FE X W G a (M.ok x) A) (hb : FE X W G b (M.ok y) B) (hd : FE X W G d (M.ok z) D) (hm : lastMarks [op, op'] [b, d] = false := by with_unfolding_all rfl) : FT X W G (.Compare a [op, op'] [b, d] pos) (M.ok (p && q)) := by
  refine PT.weak (pt_chain ho ho' ha hb hd hm) fun σ H Q h => ?_
  obtain ⟨Bs, tl, F, T⟩ := te_tt h
  show tChain r r' _ _ _ σ H _
  have T : Told X.K W G ((M.ok x).bind fun _ => (M.ok y).bind fun _ => M.ok (p && q)) _ σ H Bs tl F := T
  refine ⟨Bs, tl, F, T.seq fun x' F1 H1 ex g1 T1 v rv => ⟨Bs, tl, F1, T1.seq fun y' F2 H2 ey g2 T2 w rw => ?_⟩⟩
  cases M.ok_inj ex
  cases M.ok_inj ey
  refine hl.run F2 H2 v w H _ T2.fh (A.st rv g2) (B.pre rw g1.h.kn) p rfl fun u F3 H3 g3 ru => ⟨p, ru, ?_⟩
  cases p with
  | false => exact T2.ok _ rfl F3 H3 g3 _ rfl
  | true =>
    have T3 : Told X.K W G ((M.ok z).bind fun _ => M.ok (true && q)) _ σ H3 Bs tl F3 := ⟨T2.st.grow g3, T2.ne, fun a e F' H' g => T2.ok a e F' H' (g3.trans g), fun e q' F' H' g => T2.er e q' F' H' (g3.trans g)⟩
    refine ⟨Bs, tl, F3, T3.seq fun z' F4 H4 ez g4 T4 u rz => ?_⟩
    cases M.ok_inj ez
    exact hl'.run F4 H4 w u H1 _ T4.fh (B.st rw (g3.trans g4)) (D.pre rz (g2.h.trans g3.h).kn) q rfl fun t F5 H5 g5 rt => T4.ok _ rfl F5 H5 g5 t rt
/-! ### None or a value -/
def NoN {α : Type} (A : Rf α) : Prop := ∀ a F v, A.r a F v → v ≠ .non
theorem nn_int : NoN fInt := fun a F v h e => by cases h; cases e
theorem nn_bool : NoN fBool := fun a F v h e => by cases h; cases e
theorem nn_str : NoN fTxt := fun a F v h e => by obtain ⟨h, _⟩ := h; subst h; cases e
theorem nn_list {K : PySem.W.Frag} {α : Type} {A : Rf α} : NoN (fLst K A) := fun a F v ⟨p, vs, h, _⟩ e => by subst h; cases e
theorem nn_tup {K : PySem.W.Frag} {α : Type} {T : Tv α} : NoN (fTup K T) := fun a F v ⟨p, vs, h, _⟩ e => by subst h; cases e
theorem fe_map {α β : Type} {e : Expr} {m : M α} {R : Rl α} {R' : Rl β} (f : α → β) (h : FE X W G e m R) (w : ∀ a H0 F H v, R.r a H0 F H v → R'.r (f a) H0 F H v) : FE X W G e (m.bind fun a => M.ok (f a)) R' :=
  PE.weak h fun σ H Q ⟨B, tl, F, T⟩ => ⟨B, tl, F, T.seq fun a F1 H1 _ g T1 v r => T1.ok (f a) rfl F1 H1 (Gr.refl g.fh) v (w _ _ _ _ _ r)⟩
theorem fe_optS {α : Type} {e : Expr} {m : M α} {A : Rf α} (n : NoN A) (h : FE X W G e m A.up) : FE X W G e (m.bind fun a => M.ok (some a)) (fOpt A).up := fe_map some h fun a H0 F H v r => ⟨r, n a F v r⟩
theorem fv_optS {α : Type} {e : Expr} {a : α} {A : Rf α} (n : NoN A) (h : FE X W G e (M.ok a) A.up) : FE X W G e (M.ok (some a)) (fOpt A).up := fe_optS n h
theorem fe_optN {α : Type} {e : Expr} {u : Unit} {A : Rf α} (h : FE X W G e (M.ok u) fUnit.up) : FE X W G e (M.ok (none : Option α)) (fOpt A).up := fe_map (fun _ => none) h fun a H0 F H v r => r
end
/-! ### environments -/
def noSl (G : Gm) (l : List Nat) : Bool := l.all fun i => match G[i]? with
  | some (some _) => false
  | _ => true
theorem hw_of {G : Gm} {l : List Nat} (h : noSl G l = true) : ∀ i ∈ l, ∀ t, G[i]? ≠ some (some t) := fun i hi t e => by
  have := List.all_eq_true.mp h i hi
  rw [e] at this
  cases this
section
variable {ε : Type} {Eh : EH ε} {X : Cx} {W : WX} {G : Gm} {tl : List Nat} {ρ b s : Type} {R : ρ → V → Gm} {Gb : b → Gm} {N : s → Gm} {k : Nat}
/-- a, b = e -/
theorem fs_unp {α : Type} {e tg : Expr} {pos : Pos} {rest : List Stmt} {p : Er → ε} {m : M α} {A : Rf α} {G1 : α → Gm} {f : α → Mg ε (Fl ρ b s)} (he : FE X W G e m A.up) (hg : FG X tl (fun _ : α => G) tg A (fun z => z) G1) (hr : ∀ a, FS X W Eh tl (G1 a) rest (f a) R Gb N)
    (hs : swapsWithSole [tg] e pos.line X.env = pure false := by rfl) (hw : swappedStores [tg] e X.env = pure none := by rfl) (h1 : (assignEach [tg] X.env).map (·.2) = [assign tg X.env] := by rfl) (hp : Pay Eh G p := by exact pay0 rfl) : FS X W Eh tl G (.Assign [tg] e pos :: rest) (m.bindP p f) R Gb N :=
  PSs.weak (pss_cons (ps_asg he hg hs hw h1) (pss_ex hr)) fun D σ H ⟨B, F, D1⟩ => ⟨B, tl, F, D1.tellE hp fun a F1 H1 ea g v r =>
    ⟨a, B, F1, D1.st.grow g, r, fun σ' st' => ⟨a, B, F1, D1.rest ea st'⟩⟩⟩
theorem ip_add_str : PIp X .Add (fun x y H Q => ∃ i j, x = .str i ∧ y = .str j ∧ i.length + j.length ≤ sizeLine ∧ Q (.str (i ++ j)) H) := fun pins s σ H x y v u Q I rx ry h => iop_add_str pins s σ H x y v u Q I rx ry h
/-! ### f-strings -/
theorem fmt_s {e : Expr} {pos : Pos} {m : M (List Nat)} (h : FE X W G e m fTxt.up) : FE X W G (.FormattedValue e (-1) none pos) (m.bind fun a => M.ok a) fTxt.up :=
  PE.weak (pe_fmt h) fun σ H Q ⟨B, tl, F, T⟩ => ⟨B, tl, F, T.seq fun a F1 H1 _ g T1 v r => .inl ⟨S a, r.1, by rw [S_len]; exact r.2.len, T1.ok a rfl F1 H1 (Gr.refl g.fh) _ ⟨rfl, r.2⟩⟩⟩
theorem fmt_sv {e : Expr} {pos : Pos} {a : List Nat} (h : FE X W G e (M.ok a) fTxt.up) : FE X W G (.FormattedValue e (-1) none pos) (M.ok a) fTxt.up := fmt_s h
theorem fmt_i {e : Expr} {pos : Pos} {m : M Int} (h : FE X W G e m fInt.up) : FE X W G (.FormattedValue e (-1) none pos) (m.bind fun i => M.need (i.natAbs.log2 < 1920 ∧ tOk (strI i)) (M.ok (strI i))) fTxt.up :=
  PE.weak (pe_fmt h) fun σ H Q ⟨B, tl, F, T⟩ => ⟨B, tl, F, T.seq fun i F1 H1 _ g T1 v r => by
    obtain ⟨hc, e2⟩ := M.need_ne T1.ne
    rw [e2] at T1
    exact .inr ⟨i, r, hc.1, T1.ok _ rfl F1 H1 (Gr.refl g.fh) _ ⟨by rw [strI, S_of], hc.2⟩⟩⟩
theorem fmt_iv {e : Expr} {pos : Pos} {i : Int} (h : FE X W G e (M.ok i) fInt.up) : FE X W G (.FormattedValue e (-1) none pos) (M.need (i.natAbs.log2 < 1920 ∧ tOk (strI i)) (M.ok (strI i))) fTxt.up := fmt_i h
/-- parts one behind the other -/
def joinM : List (M (List Nat)) → List Nat → M (List Nat)
  | [], acc => M.ok acc
  | m :: ms, acc => m.bind fun x => M.need ((acc ++ x).length ≤ sizeLine) (joinM ms (acc ++ x))
inductive FJ (X : Cx) (W : WX) (G : Gm) : List Expr → List (M (List Nat)) → Prop where
  | nil : FJ X W G [] []
  | cons {e : Expr} {es : List Expr} {m : M (List Nat)} {ms : List (M (List Nat))} (h : FE X W G e m fTxt.up) (t : FJ X W G es ms) : FJ X W G (e :: es) (m :: ms)
theorem S_app (a b : List Nat) : S a ++ S b = S (a ++ b) := by
  show (⟨a.toArray ++ b.toArray⟩ : Str) = ⟨(a ++ b).toArray⟩
  simp
theorem fj_run {es : List Expr} {ms : List (M (List Nat))} (h : FJ X W G es ms) : ∃ ts, PJ X es ts ∧ ∀ (acc : List Nat) (σ : St) (H : Hp) (B : Bs) (tl : List Nat) (F : Hp) (P : List Nat → Hp → Hp → Prop) (Q : Str → Hp → Prop), tOk acc → Told X.K W G (joinM ms acc) P σ H B tl F → (∀ a F' H', tOk a → P a F' H' → Q (S a) H') → tJs ts (S acc) σ H Q := by
  induction h with
  | nil => exact ⟨[], .nil, fun acc σ H B tl F P Q ha T k => k acc F H ha (T.ok acc rfl F H (Gr.refl T.fh))⟩
  | @cons e es m ms h t ih =>
    obtain ⟨ts, hp, hr⟩ := ih
    refine ⟨_, .cons h hp, fun acc σ H B tl F P Q ha T k => ?_⟩
    have T : Told X.K W G (m.bind fun x => M.need ((acc ++ x).length ≤ sizeLine) (joinM ms (acc ++ x))) P σ H B tl F := T
    refine ⟨B, tl, F, T.seq fun x F1 H1 _ g T1 v r => ?_⟩
    obtain ⟨hc, e2⟩ := M.need_ne T1.ne
    rw [e2] at T1
    refine ⟨S x, r.1, by rw [S_app, S_len]; exact hc, ?_⟩
    rw [S_app]
    exact hr (acc ++ x) σ H1 B tl F1 P Q (tOk.mk hc fun c hm => by
      rcases List.mem_append.mp hm with q | q
      · exact ha.all c q
      · exact r.2.all c q) T1 k
theorem fe_joined {v1 v2 : Expr} {rest : List Expr} {pos : Pos} {ms : List (M (List Nat))} (h : FJ X W G (v1 :: v2 :: rest) ms) : FE X W G (.JoinedStr (v1 :: v2 :: rest) pos) (joinM ms []) fTxt.up := by
  obtain ⟨ts, hp, hr⟩ := fj_run h
  exact PE.weak (pe_joined hp) fun σ H Q ⟨B, tl, F, T⟩ => hr [] σ H B tl F _ _ (by decide +kernel) T fun a F' H' ha p => p _ ⟨rfl, ha⟩
/-! ### y = [..] -/
theorem fs_setLcL {α β : Type} (i : Nat) {y : Str} {py spos : Pos} {Gw : Gm} {A : Rf α} {E : Rf β} {elt tg iter : Expr} {ifs : List Expr} {scope : Scope} {own : List (Str × Nat)} {pos : Pos} {p : Er → ε} {m : M (List α)} {c : α → M Bool} {f : α → M β} {G2 : α → Gm} {rest : List Stmt} {ff : List β → Mg ε (Fl ρ b s)} (C : Cok X W k)
    (hi : FE X W G iter m (bLst X.K A)) (d : Imp G Gw) (hw : ∀ i ∈ own.map (·.2), ∀ t, Gw[i]? ≠ some (some t))
    (ok : BlkOk X.N X.env.scope scope own) (hg : ∀ s H C cl fp, FG (blkX X scope s H C cl fp) (own.map (·.2)) (fun _ : α => Gw) tg A (fun z => z) G2) (ht : ∀ a s H C cl fp, FTs (blkX X scope s H C cl fp) W0 (G2 a) ifs (c a)) (he : ∀ a s H C cl fp, FE (blkX X scope s H C cl fp) W0 (G2 a) elt (f a) E.up)
    (hr : ∀ a, FS X W Eh tl (G.set i (some (ob (tL X.K E) a))) rest (ff a) R Gb N)
    (hy : X.N[i]? = some y := by rfl) (hyl : X.env.scope.names.lookup y = some .local := by rfl) (hk : X.env.scope.kind = .function := by rfl) (hln : (py.line == pos.line) = true := by rfl) (ha : (scope.names.any fun (n, k) => n == y && (k == .local || k == .cell)) = false := by decide +kernel)
    (hm : i ∈ tl := by decide) (hl : i < G.length := by exact Nat.le_of_ble_eq_true rfl) (hs : ∀ x, foldedSetIterable iter X.env x = pure x := by intro _; rfl) (hp : Pay Eh G p := by exact pay0 rfl) :
    FS X W Eh tl G (.Assign [.Name y py] (.ListComp elt [⟨tg, iter, ifs, 0⟩] scope pos) spos :: rest) ((m.bind fun as => lcL c f as []).bindP p ff) R Gb N :=
  PSs.weak (pss_cons (ps_setLc (tt := tTu X.K G2 c) (te := tEu X.K G2 f E) C.calm C.nd hy hyl (sw_true hk hyl hln ha) (pi_list hi) ok (fun s H C cl fp => hg s H C cl fp) (fun s H C cl fp => ⟨fun pins s1 σ H1 Q I ⟨a, q⟩ => (ht a s H C cl fp).run pins s1 σ H1 Q I q⟩) (fun s H C cl fp => ⟨fun pins s1 σ H1 Q I ⟨a, q⟩ => (he a s H C cl fp).run pins s1 σ H1 Q I q⟩) hs) (pss_ex hr)) fun D σ H ⟨B, F, D1⟩ =>
    tLcL_run (Q := fun x H1 => gName i x σ H1 (fun σ' H' => ∃ a, tFS X.K W Eh tl (G.set i (some (ob (tL X.K E) a))) (ff a) R Gb N D σ' H')) C hi d hw ok hg ht he hs ⟨B, tl, F, D1.tellE hp fun a F1 H1 ea g v r => by
      obtain ⟨ms, h1, h2⟩ := r
      exact ⟨a, B, F1, D1.rest ea (D1.st.set (T := ob (tL X.K E) a) g hm hl h1 h2)⟩⟩
theorem fs_setLcR {β : Type} (i : Nat) {y : Str} {py spos : Pos} {Gw : Gm} {E : Rf β} {elt tg e : Expr} {p' cpos : Pos} {ifs : List Expr} {scope : Scope} {own : List (Str × Nat)} {pos : Pos} {p : Er → ε} {m : M Int} {c : Int → M Bool} {f : Int → M β} {G2 : Int → Gm} {rest : List Stmt} {ff : List β → Mg ε (Fl ρ b s)} (C : Cok X W k) (hm0 : X.mg "range" = none)
    (hi : FE X W G e m fInt.up) (d : Imp G Gw) (hw : ∀ i ∈ own.map (·.2), ∀ t, Gw[i]? ≠ some (some t))
    (ok : BlkOk X.N X.env.scope scope own) (hg : ∀ s H C cl fp, FG (blkX X scope s H C cl fp) (own.map (·.2)) (fun _ : Int => Gw) tg fInt (fun z => z) G2) (ht : ∀ a s H C cl fp, FTs (blkX X scope s H C cl fp) W0 (G2 a) ifs (c a)) (he : ∀ a s H C cl fp, FE (blkX X scope s H C cl fp) W0 (G2 a) elt (f a) E.up)
    (hr : ∀ a, FS X W Eh tl (G.set i (some (ob (tL X.K E) a))) rest (ff a) R Gb N)
    (hy : X.N[i]? = some y := by rfl) (hyl : X.env.scope.names.lookup y = some .local := by rfl) (hk : X.env.scope.kind = .function := by rfl) (hln : (py.line == pos.line) = true := by rfl) (ha : (scope.names.any fun (n, k) => n == y && (k == .local || k == .cell)) = false := by decide +kernel)
    (hgl : Gl X "range" := by rfl) (hst : starEach [e] X.env = [(false, eval e X.env)] := by rfl) (hm : i ∈ tl := by decide) (hl : i < G.length := by exact Nat.le_of_ble_eq_true rfl) (hs : ∀ x, foldedSetIterable (.Call (.Name "range" p') [e] [] cpos) X.env x = pure x := by intro _; rfl) (hp : Pay Eh G p := by exact pay0 rfl) :
    FS X W Eh tl G (.Assign [.Name y py] (.ListComp elt [⟨tg, (.Call (.Name "range" p') [e] [] cpos), ifs, 0⟩] scope pos) spos :: rest) ((m.bind fun n => M.need (-(2 ^ 62) ≤ n ∧ n < 2 ^ 62) (lcL c f (rngL n) [])).bindP p ff) R Gb N :=
  PSs.weak (pss_cons (ps_setLc (tt := tTu X.K G2 c) (te := tEu X.K G2 f E) C.calm C.nd hy hyl (sw_true hk hyl hln ha) (pi_range1 hgl hm0 (pa_cons hi pa_nil hst) hst) ok (fun s H C cl fp => hg s H C cl fp) (fun s H C cl fp => ⟨fun pins s1 σ H1 Q I ⟨a, q⟩ => (ht a s H C cl fp).run pins s1 σ H1 Q I q⟩) (fun s H C cl fp => ⟨fun pins s1 σ H1 Q I ⟨a, q⟩ => (he a s H C cl fp).run pins s1 σ H1 Q I q⟩) hs) (pss_ex hr)) fun D σ H ⟨B, F, D1⟩ =>
    tLcR_run (Q := fun x H1 => gName i x σ H1 (fun σ' H' => ∃ a, tFS X.K W Eh tl (G.set i (some (ob (tL X.K E) a))) (ff a) R Gb N D σ' H')) C d hw ⟨B, tl, F, D1.tellE hp fun a F1 H1 ea g v r => by
      obtain ⟨ms, h1, h2⟩ := r
      exact ⟨a, B, F1, D1.rest ea (D1.st.set (T := ob (tL X.K E) a) g hm hl h1 h2)⟩⟩
end
/-! ### the law's end -/
def spLaw (K : PySem.W.Frag) : Sp := fun vs H Q _ => ∃ (a : Addr) (ns : List Int), vs = [.ref a] ∧ SqL K H a (ns.map V.int) ∧ ns.length ≤ 63 ∧ ∀ H', Q (.bl true) H'
theorem pw_ints {F : Hp} : ∀ ns : List Int, Pw (fun a x => fInt.r a F x) ns (ns.map V.int)
  | [] => .nil
  | n :: r => .cons rfl (pw_ints r)
theorem law_ok {P : Program} {w : World} {K : PySem.W.Frag} {mg : Str → Option Value} {base : Heap} {lv : Nat} {f : Addr} {fd : FuncData} {ps : List Str} {mir : List Int → M Bool}
    (Fk : FnOk P w K mg base (L2.CX P w) lv f fd ps (spP K (fun (a : List Int × Unit) => [bw (tL K fInt) a.1]) (fun a => mir a.1) (sv fBool))) (ht : ∀ ns : List Int, ns.length ≤ 63 → mir ns = M.ok true) : FnOk P w K mg base CX0 lv f fd ps (spLaw K) := by
  have conv : ∀ vs H Q E, spLaw K vs H Q E → spP K (fun (a : List Int × Unit) => [bw (tL K fInt) a.1]) (fun a => mir a.1) (sv fBool) vs H Q E0 := fun vs H Q E ⟨a, ns, ev, hS, hl, k⟩ => by
    subst ev
    have x : Ex (fun _ => none) H := fun _ _ h => nomatch h
    refine ⟨(ns, ()), fun _ => none, fun _ => .non, [], fun _ => [], x, ?_, ?_, ?_, ?_⟩
    · rw [hid_nil]
      exact pm_cons ⟨⟨a, _, rfl, hS, pw_ints ns⟩, rfl⟩ rfl ⟨rfl, fun i s e => by simp at e, fun _ _ => rfl, fun _ _ h => (nomatch h), fun i s e => by simp at e, fun i s e => by simp at e⟩
    · show mir ns ≠ none
      rw [ht ns hl]
      exact fun z => nomatch z
    · intro r e v F' H' ms' g c
      have e : mir ns = M.ok r := e
      rw [ht ns hl] at e
      cases M.ok_inj e
      have := (c.has 0 _ _ rfl H').1
      cases (show v = V.bl true from this)
      exact k H'
    · intro er e
      have e : mir ns = M.err er := e
      rw [ht ns hl] at e
      cases e
  refine ⟨fun vs H Q E h => Fk.len _ _ _ _ (conv vs H Q E h), fun A outer s H args us vs Q E hr e0 hb r h => codeAny_mono (Fk.run A outer s H args us vs Q E0 hr e0 hb r (conv vs H Q E h)) fun res s' hc => ?_⟩
  cases res with
  | ok fl =>
    cases fl with
    | ret u => exact hc
    | next => exact hc
    | brk => exact hc
    | cont => exact hc
  | error e =>
    obtain ⟨_, _, _, _, _, _, _, _, _, _, _, _, z⟩ := (show L2.CX P w outer H s E0 e s' from hc)
    exact z.elim
end LK
namespace LK
open PySem L2
/-! ### try -/
/-- a block that may raise, and what is done then -/
def tryF {ε1 ε ρ b s : Type} (m : Mg ε1 (Fl ρ b s)) (h : ε1 → Mg ε (Fl ρ b s)) : Mg ε (Fl ρ b s) := match m with
  | none => none
  | some (.ok a) => M.ok a
  | some (.error e) => h e
def exB {ε β : Type} (tab : List (Er × Bool)) (e : Er) (y n : Mg ε β) : Mg ε β := match tab.lookup e with
  | some true => y
  | some false => n
  | none => none
structure HdW {ε1 ε ρ b s : Type} (X : Cx) (W : WX) (E1 : EH ε1) (Eh : EH ε) (tl : List Nat) (R : ρ → V → Gm) (Gb : b → Gm) (N : s → Gm) (hds : List ExceptHandler) (h : ε1 → Mg ε (Fl ρ b s)) (wh : Ends → WX) : Prop where
  run : ∀ (body : List Stmt) (pos : Pos) (tb : WX → TS), (∀ (W : WX) (pn : List (Addr × Obj)) (xe : Value → Shared → Prop), Takes (X.tr pn xe) W → PassesOwn (model X.prog X.w) X.A X.env xe → PSs (X.tr pn xe) body (tb W)) →
    PS X (.Try body hds [] [] pos) (fun D σ H => tb (wh D) D σ H)
  er : ∀ e D σ H B F, ToldS X.K W Eh tl (E1.G e) (h e) R Gb N D σ H B F → wh D (ec X.K (E1.cls e)) none σ H
section
variable {ε1 ε : Type} {E1 : EH ε1} {Eh : EH ε} {X : Cx} {W : WX} {G : Gm} {tl : List Nat} {ρ b s : Type} {R : ρ → V → Gm} {Gb : b → Gm} {N : s → Gm} {k : Nat}
theorem Cok.tr (C : Cok X W k) {W' : WX} {pn : List (Addr × Obj)} {xe : Value → Shared → Prop} (t : Takes (X.tr pn xe) W') (p : PassesOwn (model X.prog X.w) X.A X.env xe) : Cok (X.tr pn xe) W' k := ⟨C.calm, t, p, C.hr, C.nd⟩
/-- try: a block -/
theorem ps_try {hds : List ExceptHandler} {h : ε1 → Mg ε (Fl ρ b s)} {body : List Stmt} {pos : Pos} {m : Mg ε1 (Fl ρ b s)} (C : Cok X W k) (hh : ∃ wh, HdW X W E1 Eh tl R Gb N hds h wh)
    (hb : ∀ (W' : WX) (pn : List (Addr × Obj)) (xe : Value → Shared → Prop), Cok (X.tr pn xe) W' k → FS (X.tr pn xe) W' E1 tl G body m R Gb N) :
    PS X (.Try body hds [] [] pos) (tFS X.K W Eh tl G (tryF m h) R Gb N) := by
  obtain ⟨wh, hh⟩ := hh
  refine PS.weak (hh.run body pos (fun W' D σ H => tFS X.K W' E1 tl G m R Gb N D σ H) fun W' pn xe t p => hb W' pn xe (C.tr t p)) fun D σ H ⟨B, F, T⟩ => ?_
  refine ⟨B, F, T.st, ?_, ?_, ?_, ?_, ?_, ?_⟩
  · rintro rfl
    exact T.ne rfl
  · rintro r rfl
    exact T.ret r rfl
  · rintro r rfl
    exact T.nx r rfl
  · rintro r rfl
    exact T.bk r rfl
  · rintro r rfl
    exact T.ct r rfl
  · rintro e rfl σ' F' H' st
    have T : ToldS X.K W Eh tl G (h e) R Gb N D σ H B F := T
    exact hh.er e D σ' H' B F' ⟨st, T.ne, T.ret, T.nx, T.bk, T.ct, T.er⟩
/-! the clauses -/
def HdP (X : Cx) (W : WX) (E1 : EH ε1) (Eh : EH ε) (tl : List Nat) (R : ρ → V → Gm) (Gb : b → Gm) (N : s → Gm) (hds : List ExceptHandler) (h : ε1 → Mg ε (Fl ρ b s)) : Prop :=
  ∃ l, HdsOk X hds l ∧ ∀ e D σ H B F, ToldS X.K W Eh tl (E1.G e) (h e) R Gb N D σ H B F → wMany X.K W D l (ec X.K (E1.cls e)) none σ H
/-- none of them takes it: it goes on, told with p -/
theorem hd_nil {p : ε1 → ε} (hc : ∀ e, Eh.cls (p e) = E1.cls e) (hi : ∀ e, Imp (E1.G e) (Eh.G (p e))) : HdP X W E1 Eh tl R Gb N [] (fun e => M.err (p e)) := ⟨[], .nil, fun e D σ H B F T => by
  have := T.er (p e) rfl σ F H (hi e _ _ _ _ _ T.st)
  rw [hc e] at this
  exact this⟩
theorem exB_ne {β : Type} {tab : List (Er × Bool)} {e : Er} {y n : Mg ε β} (h : exB tab e y n ≠ none) : ∃ b, tab.lookup e = some b ∧ exB tab e y n = if b = true then y else n := by
  unfold exB at h ⊢
  split
  · exact ⟨true, by assumption, rfl⟩
  · exact ⟨false, by assumption, rfl⟩
  · rename_i q
    rw [q] at h
    exact absurd rfl h
def noerrG {ε α : Type} (m : Mg ε α) : Mg ε α := match m with
  | some (.error _) => none
  | m => m
theorem noerrG_ne {α : Type} {m : Mg ε α} (h : noerrG m ≠ none) : ∃ a, m = M.ok a := by
  cases m with
  | none => exact absurd rfl h
  | some r =>
    cases r with
    | error e => exact absurd rfl h
    | ok a => exact ⟨a, rfl⟩
theorem pss_pure {X : Cx} {sts : List Stmt} {p : Prop} {t : TS} (h : p → PSs X sts t) : PSs X sts (fun D σ H => p ∧ t D σ H) := ⟨fun pins s σ H D I ⟨q, z⟩ => (h q).run pins s σ H D I z⟩
theorem hd_cons {x : Str} {c : Value} {tab : List (Er × Bool)} {b₀ : Stmt} {suite : List Stmt} {np pos' : Pos} {hds : List ExceptHandler} {m : ε1 → Mg ε (Fl ρ b s)} {h : ε1 → Mg ε (Fl ρ b s)} (hc : Names X x c) (ht : ∀ e b, tab.lookup e = some b → PySem.W.exmOne X.K (ec X.K e) c = some b)
    (hsu : ∀ (e : ε1) (a : Addr) (pn : List (Addr × Obj)), FS (X.suite a pn) W0 Eh tl (E1.G e) (b₀ :: suite) (m e) R Gb N) (r : HdP X W E1 Eh tl R Gb N hds h) :
    HdP X W E1 Eh tl R Gb N (.ExceptHandler (some (.Name x np)) none (b₀ :: suite) pos' :: hds) (fun e => exB tab (E1.cls e) (noerrG (m e)) (h e)) := by
  obtain ⟨l, h1, h2⟩ := r
  refine ⟨(c, fun _ _ _ => fun D σ H => ∃ e, tFS X.K W0 Eh tl (E1.G e) (m e) R Gb N D σ H) :: l, .cons hc (fun a oe cls d pn _ _ => pss_ex fun e => hsu e a _) h1, fun e D σ H B F T => ?_⟩
  have T : ToldS X.K W Eh tl (E1.G e) (exB tab (E1.cls e) (noerrG (m e)) (h e)) R Gb N D σ H B F := T
  obtain ⟨b, hb, eb⟩ := exB_ne T.ne
  refine ⟨b, ht (E1.cls e) b hb, fun hy a _ => ?_, fun hn => ?_⟩
  · rw [eb, if_pos hy] at T
    obtain ⟨a, ea⟩ := noerrG_ne T.ne
    rw [ea] at T
    refine ⟨e, B, F, T.st, ?_, ?_, ?_, ?_, ?_, ?_⟩
    · rw [ea]; exact fun z => nomatch z
    · rw [ea]; exact T.ret
    · rw [ea]; exact T.nx
    · rw [ea]; exact T.bk
    · rw [ea]; exact T.ct
    · rw [ea]; exact fun e z => (nomatch z)
  · rw [eb, if_neg (by rw [hn]; exact Bool.false_ne_true)] at T
    exact h2 e D σ H B F T
theorem hd_many {h₀ : ExceptHandler} {hds : List ExceptHandler} {h : ε1 → Mg ε (Fl ρ b s)} (C : Cok X W k) (hs : X.stack = X.env :: X.outer) (hf : X.env.frame = some X.env.locals) (r : HdP X W E1 Eh tl R Gb N (h₀ :: hds) h) : ∃ wh, HdW X W E1 Eh tl R Gb N (h₀ :: hds) h wh := by
  obtain ⟨l, h1, h2⟩ := r
  exact ⟨fun D => wMany X.K W D l, ⟨fun body pos tb hb => ps_try_many hs hf C.tk hb h1, h2⟩⟩
theorem nm_cls {x : Str} {c : Value} (hm : X.mg x = some c) (hg : Gl X x := by rfl) (hd : (x == ("__debug__" : Str)) = false := by decide) : Names X x c := ⟨hg, hd, .inl hm⟩
theorem xt_nil {K : PySem.W.Frag} {c : Value} : ∀ e b, ([] : List (Er × Bool)).lookup e = some b → PySem.W.exmOne K (ec K e) c = some b := fun _ _ h => nomatch h
theorem xt_cons {K : PySem.W.Frag} {c : Value} {e0 : Er} {b0 : Bool} {tab : List (Er × Bool)} (h0 : PySem.W.exmOne K (ec K e0) c = some b0) (r : ∀ e b, tab.lookup e = some b → PySem.W.exmOne K (ec K e) c = some b) :
    ∀ e b, ((e0, b0) :: tab).lookup e = some b → PySem.W.exmOne K (ec K e) c = some b := by
  intro e b h
  rw [List.lookup_cons] at h
  split at h
  · rename_i q
    rw [beq_iff_eq] at q
    cases h
    rw [q]
    exact h0
  · exact r e b h
/-! except x as n -/
def fExc (a : Addr) : Rf Unit := ⟨fun _ _ v => v = .ref a, fun h _ => h⟩
theorem Stt.unset {B : Bs} {F H : Hp} {σ : St} {i : Nat} (st : Stt B tl G F H σ) (hi : i ∈ tl) (hn : ∀ t, G[i]? ≠ some (some t)) : Stt B tl G F H (σ.set i none) := by
  obtain ⟨ms, z⟩ := st.sl
  refine ⟨st.g, st.bh, fun j hj => ?_, by rw [List.length_set]; exact st.ls, by rw [List.length_set]; exact st.len, ms, ⟨fun j t e => ?_, z.non, z.mem, z.own, z.sep⟩⟩
  · rw [List.getElem?_set_ne (fun q => hj (by rw [← q]; exact hi))]
    exact st.fr j hj
  · obtain ⟨v, h1, h2⟩ := z.has j t e
    refine ⟨v, fun hl => ?_, h2⟩
    rw [List.getElem?_set_ne (fun q => hn t (by rw [q]; exact e))]
    exact h1 (by rw [List.length_set] at hl; exact hl)
/-- what a named suite is told -/
def exE {ε β : Type} (tab : List (Er × Bool)) (e : Er) (y n : Mg ε β) : Mg ε β := exB tab e (noerrG y) n
theorem hw_as {x n : Str} {c : Value} {i : Nat} {tab : List (Er × Bool)} {b₀ : Stmt} {suite : List Stmt} {np pos' : Pos} {m : ε1 → Mg ε (Fl ρ b s)} {p : ε1 → ε} (C : Cok X W k) (hs : X.stack = X.env :: X.outer) (hf : X.env.frame = some X.env.locals) (hi : X.N[i]? = some n) (hln : X.env.kindOf n = some .local)
    (hc : Names X x c) (ht : ∀ e b, tab.lookup e = some b → PySem.W.exmOne X.K (ec X.K e) c = some b) (hm : i ∈ tl) (hl : ∀ e, i < (E1.G e).length) (hN : ∀ x t, (N x)[i]? ≠ some (some t)) (hB : ∀ x t, (Gb x)[i]? ≠ some (some t))
    (hpc : ∀ e, Eh.cls (p e) = E1.cls e) (hpi : ∀ e, Imp (E1.G e) (Eh.G (p e)))
    (hsu : ∀ (e : ε1) (a : Addr) (oe : Obj) (pn : List (Addr × Obj)), tab.lookup (E1.cls e) = some true → Zc (ec X.K (E1.cls e)) none oe → (∃ vs, oe.data = .fields vs) → FS (X.suite a ((a, oe) :: pn)) W0 Eh tl ((E1.G e).set i (some (sv (fExc a) ()))) (b₀ :: suite) (m e) R Gb N) :
    ∃ wh, HdW X W E1 Eh tl R Gb N [.ExceptHandler (some (.Name x np)) (some n) (b₀ :: suite) pos'] (fun e => exE tab (E1.cls e) (m e) (M.err (p e))) wh := by
  let ts : Addr → Value → Option Addr → TS := fun a cls d D σ H => ∃ e : ε1, (tab.lookup (E1.cls e) = some true ∧ cls = ec X.K (E1.cls e) ∧ d = none) ∧ tFS X.K W0 Eh tl ((E1.G e).set i (some (sv (fExc a) ()))) (m e) R Gb N D σ H
  refine ⟨fun D => wAs X.K c i ts W D, ⟨fun body pos tb hb => ps_try_as (ts := ts) hs hf C.nd hi hln hc C.tk hb fun a oe cls d pn hz hv => ?_, fun e D σ H B F T => ?_⟩⟩
  · refine pss_ex fun e => pss_pure fun ⟨h0, h1, h2⟩ => ?_
    subst h1 h2
    exact hsu e a oe pn h0 hz hv
  · have T : ToldS X.K W Eh tl (E1.G e) (exB tab (E1.cls e) (noerrG (m e)) (M.err (p e))) R Gb N D σ H B F := T
    obtain ⟨b1, hb1, eb⟩ := exB_ne T.ne
    refine ⟨b1, ht (E1.cls e) b1 hb1, fun hy a ha => ?_, fun hn => ?_⟩
    · rw [eb, if_pos hy] at T
      subst hy
      obtain ⟨o, eo⟩ := noerrG_ne T.ne
      rw [eo] at T
      have T : ToldS X.K W Eh tl (E1.G e) (M.ok o) R Gb N D σ H B F := T
      refine ⟨e, ⟨hb1, rfl, rfl⟩, B, F, T.st.set (Gr.refl T.st.fh) hm (hl e) (T := sv (fExc a) ()) (mv := []) ⟨rfl, rfl⟩ (fun x hx => nomatch hx), ?_, ?_, ?_, ?_, ?_, ?_⟩
      · rw [eo]; exact fun z => nomatch z
      · rw [eo]; exact T.ret
      · rw [eo]; exact fun y ey σ' F' H' st => T.nx y ey _ F' H' (st.unset hm (hN y))
      · rw [eo]; exact fun y ey σ' F' H' st => T.bk y ey _ F' H' (st.unset hm (hB y))
      · rw [eo]; exact fun y ey σ' F' H' st => T.ct y ey _ F' H' (st.unset hm (hB y))
      · rw [eo]; exact fun e z => (nomatch z)
    · rw [eb, if_neg (by rw [hn]; exact Bool.false_ne_true)] at T
      have := T.er (p e) rfl σ F H (hpi e _ _ _ _ _ T.st)
      rw [hpc e] at this
      exact this
end
/-! isinstance of what the suite holds -/
def exI (tab : List (Er × Bool)) (e : Er) : M Bool := match tab.lookup e with
  | some b => M.ok b
  | none => none
theorem exI_ne {tab : List (Er × Bool)} {e e' : Er} : exI tab e ≠ M.err e' := by
  unfold exI
  split
  · exact fun z => nomatch z
  · exact fun z => nomatch z
theorem exI_ok {tab : List (Er × Bool)} {e : Er} {b : Bool} (h : exI tab e = M.ok b) : tab.lookup e = some b := by
  unfold exI at h
  split at h
  · rename_i q
    rw [q, ok_injF h]
  · cases h
where ok_injF {x y : Bool} (h : (M.ok x : M Bool) = M.ok y) : x = y := by injection h with h; injection h
def fCls (K : PySem.W.Frag) (y : Str) : Rf Unit := ⟨fun _ _ v => v = .ref (He.ga K y), fun h _ => h⟩
section
variable {X : Cx} {W : WX} {G : Gm} {k : Nat}
theorem fe_cls {y : Str} {pos : Pos} (hm : X.mg y = some (.ref (He.ga X.K y))) (hg : Gl X y := by rfl) (hd : (y == ("__debug__" : Str)) = false := by decide) : FE X W G (.Name y pos) (M.ok ()) (fCls X.K y).up :=
  fe_glob (v := .ref (He.ga X.K y)) hg hm rfl (fun _ => rfl) hd
def KT (K : PySem.W.Frag) (cv : Value) (tab : List (Er × Bool)) : Prop := ∀ e b, tab.lookup e = some b → PySem.W.kitOne K (ec K e) cv = some b
def KTs (K : PySem.W.Frag) (cvs : List Value) (tab : List (Er × Bool)) : Prop := ∀ e b, tab.lookup e = some b → PySem.W.kitAny K (ec K e) cvs = some b
theorem lk_cons {P : Er → Bool → Prop} {e0 : Er} {b0 : Bool} {tab : List (Er × Bool)} (h0 : P e0 b0) (r : ∀ e b, tab.lookup e = some b → P e b) : ∀ e b, ((e0, b0) :: tab).lookup e = some b → P e b := by
  intro e b h
  rw [List.lookup_cons] at h
  split at h
  · rename_i q
    rw [beq_iff_eq] at q
    cases h
    rw [q]
    exact h0
  · exact r e b h
theorem lk_nil {P : Er → Bool → Prop} : ∀ e b, ([] : List (Er × Bool)).lookup e = some b → P e b := fun _ _ h => nomatch h
theorem cl_isE1 {K : PySem.W.Frag} {e : Er} {a : Addr} {y : Str} {tab : List (Er × Bool)} (h : KT K (.ref (He.ga K y)) tab) : CallP (rIsE K (He.ga K e.name) a) (a2 (fExc a).up (fCls K y).up) ((), (), ()) (exI tab e) fBool.up :=
  ⟨fun e q => exI_ne q, fun F H vs H0 Q x ⟨v, r, e1, h1, ⟨w, r2, e2, h2, h3⟩⟩ c hc k => by
    cases h3
    have h1 : v = .ref a := h1
    have h2 : w = .ref (He.ga K y) := h2
    subst e1 e2 h1 h2
    exact ⟨.ref (He.ga K y), .ref (He.ga K y), c, rfl, fun u hu => hu, h e c (exI_ok hc), k _ F H (Gr.refl x) rfl⟩⟩
theorem cl_isET {K : PySem.W.Frag} {e : Er} {a : Addr} {n : String} {tab : List (Er × Bool)} (h : KT K (.type n) tab) : CallP (rIsE K (He.ga K e.name) a) (a2 (fExc a).up (fTy n).up) ((), (), ()) (exI tab e) fBool.up :=
  ⟨fun e q => exI_ne q, fun F H vs H0 Q x ⟨v, r, e1, h1, ⟨w, r2, e2, h2, h3⟩⟩ c hc k => by
    cases h3
    have h1 : v = .ref a := h1
    have h2 : w = .ty n := h2
    subst e1 e2 h1 h2
    exact ⟨.ty n, .type n, c, rfl, fun u hu => hu, h e c (exI_ok hc), k _ F H (Gr.refl x) rfl⟩⟩
def rIsEL (K : PySem.W.Frag) (D a : Addr) : List V → Hp → VK → Prop := fun xs H Q => ∃ (p : Addr) (ys : List Addr) (b : Bool), xs = [.ref a, .ref p] ∧ SqT K H p (ys.map fun y => .ref y) ∧ PySem.W.kitAny K (.ref D) (ys.map fun y => .ref y) = some b ∧ Q (.bl b) H
theorem vals_refs : ∀ {ys : List Addr} {its : List Value}, Vals (ys.map fun y => V.ref y) its → its = ys.map fun y => Value.ref y
  | [], _, .nil => rfl
  | _ :: _, _, .cons h r => by
    cases h
    rw [vals_refs r]
    rfl
theorem call_isEL {a D : Addr} {oe : Obj} {pn : List (Addr × Obj)} (C : ExcC X.K D) (hz : Zc (.ref D) none oe) (hf : ∃ vs, oe.data = .fields vs) : CallR (X.suite a ((a, oe) :: pn)) (.builtin "isinstance") (rIsEL X.K D a) := by
  intro pins s σ H xs us Q I r h
  obtain ⟨p, ys, b, rfl, hq, e, q⟩ := h
  obtain ⟨u1, u2, rfl, rx, rt⟩ := vals2 r
  cases rx
  cases rt
  obtain ⟨its, rv, ⟨o, g1, g2, n, g3⟩, hz'⟩ := I.tuple hq
  obtain rfl := vals_refs rv
  obtain ⟨hget, _⟩ := I.pin (a, oe) (List.mem_append.mpr (.inl List.mem_cons_self))
  obtain ⟨vs, hv⟩ := hf
  have J : PySem.W.InstAt s.heap a oe D none := by
    obtain ⟨oc, od, oda, osl⟩ := oe
    obtain ⟨h1, h2⟩ := hz
    dsimp only at h1 h2 hv
    subst h1 h2 hv
    exact ⟨hget, rfl, rfl, trivial⟩
  obtain ⟨oc, od, oda, osl⟩ := o
  dsimp only at g2 g3
  subst g2 g3
  exact PySem.W.kia_tup (PySem.W.handS_kitx_exc C.hg C.hk C.hs C.hd C.ha C.hn C.ht C.hm) I.kIn J g1 e (fun z => nomatch z) fun tk => ⟨.bl b, H, I.kept (t' := tk) fun _ _ z => z, rfl, q⟩
theorem cl_isEL {K : PySem.W.Frag} {e : Er} {a : Addr} {β : Type} {T : Tv β} {u : β} {ys : List Str} {tab : List (Er × Bool)} (h : KTs K (ys.map fun y => .ref (He.ga K y)) tab) (hT : ∀ F vs, T.r u F vs → vs = ys.map fun y => .ref (He.ga K y)) :
    CallP (rIsEL K (He.ga K e.name) a) (a2 (fExc a).up (fTup K T).up) ((), u, ()) (exI tab e) fBool.up :=
  ⟨fun e q => exI_ne q, fun F H vs H0 Q x ⟨v, r, e1, h1, ⟨w, r2, e2, ⟨p, ws, e3, h4, h5⟩, h3⟩⟩ c hc k => by
    cases h3
    have h1 : v = .ref a := h1
    subst e1 e2 h1 e3
    have h6 := hT F ws h5
    subst h6
    exact ⟨p, ys.map fun y => He.ga K y, c, rfl, by rw [List.map_map]; exact sqT_ex x h4, by rw [List.map_map]; exact h e c (exI_ok hc), k _ F H (Gr.refl x) rfl⟩⟩
theorem hT2 {K : PySem.W.Frag} {y z : Str} : ∀ (F : Hp) (vs : List V), (tvc (fCls K y) (tv1 (fCls K z))).r ((), ()) F vs → vs = [y, z].map fun y => .ref (He.ga K y) := fun F vs ⟨v, r, e, h1, ⟨w, e2, h2⟩⟩ => by
  have h1 : v = .ref (He.ga K y) := h1
  have h2 : w = .ref (He.ga K z) := h2
  subst e e2 h1 h2
  rfl
end
/-! ### facts about the program's classes, by a look -/
abbrev Lk1 : Type := PySem.W.Frag → Bool
def xKit (x y : Str) (b : Bool) : Lk1 := fun K => decide (PySem.W.kitOne K (.ref (He.ga K x)) (.ref (He.ga K y)) = some b)
def xKitT (x : Str) (t : String) (b : Bool) : Lk1 := fun K => decide (PySem.W.kitOne K (.ref (He.ga K x)) (.type t) = some b)
def xKitL (x : Str) (ys : List Str) (b : Bool) : Lk1 := fun K => decide (PySem.W.kitAny K (.ref (He.ga K x)) (ys.map fun y => .ref (He.ga K y)) = some b)
def xExc (x : Str) : Lk1 := fun K => decide (PySem.W.findIn K (.ref (He.ga K x)) "__getattribute__" = some (some (.builtin "BaseException.__getattribute__"))) && (decide (PySem.W.findIn K (.ref (He.ga K x)) "__getattr__" = some none) &&
  (decide (PySem.W.subIn K (.ref (He.ga K x)) (.type "BaseException") = some true) && (PySem.W.hasDictIn K (He.ga K x) && (decide (PySem.W.findIn K (.ref (He.ga K x)) "__class__" = some (some (.builtin "object.__class__"))) &&
  (decide (PySem.W.specialIn K (.builtin "object.__class__") "__get__" = some (some (.builtin "getset_descriptor.__get__"))) && (decide (PySem.W.takesIn K (.builtin "object.__class__") = some true) && decide (PySem.W.mroIn K (He.ga K x) (.type "object") = some true)))))))
theorem xKit_ok {x y : Str} {b : Bool} {K : PySem.W.Frag} (h : xKit x y b K = true) : PySem.W.kitOne K (.ref (He.ga K x)) (.ref (He.ga K y)) = some b := of_decide_eq_true h
theorem xKitT_ok {x : Str} {t : String} {b : Bool} {K : PySem.W.Frag} (h : xKitT x t b K = true) : PySem.W.kitOne K (.ref (He.ga K x)) (.type t) = some b := of_decide_eq_true h
theorem xKitL_ok {x : Str} {ys : List Str} {b : Bool} {K : PySem.W.Frag} (h : xKitL x ys b K = true) : PySem.W.kitAny K (.ref (He.ga K x)) (ys.map fun y => .ref (He.ga K y)) = some b := of_decide_eq_true h
theorem xExc_ok {x : Str} {K : PySem.W.Frag} (h : xExc x K = true) : ExcC K (He.ga K x) := by
  unfold xExc at h
  simp only [Bool.and_eq_true, decide_eq_true_eq] at h
  obtain ⟨h1, h2, h3, h4, h5, h6, h7, h8⟩ := h
  exact ⟨h1, h2, h3, h4, h5, h6, h7, h8⟩
/-- what the head's look tells -/
structure Sy (fa : List He.Fa) (fn : List He.DefD) (fx : List Lk1) (K : PySem.W.Frag) : Prop where
  d : He.SaysD fa fn K
  x : fx.all (fun f => f K) = true
section
variable {fa : List He.Fa} {fn : List He.DefD} {fx : List Lk1} {K : PySem.W.Frag}
theorem Sy.fact (c : Sy fa fn fx K) (i : Nat) {f : He.Fa} (h : fa[i]? = some f := by rfl) : f.ok K = true := c.d.fact i h
theorem Sy.def_ (c : Sy fa fn fx K) (i : Nat) {d : He.DefD} (h : fn[i]? = some d := by rfl) : ∃ fd, FunD K d.name d.qual d.params d.body d.scope (d.dvs K) (d.kws K) (He.fAd K d.at_) fd := c.d.def_ i h
theorem Sy.ex (c : Sy fa fn fx K) (i : Nat) {f : Lk1} (h : fx[i]? = some f := by rfl) : f K = true := List.all_eq_true.mp c.x f (List.mem_of_getElem? h)
end
end LK
namespace LK
open PySem L2
/-! ### a text times a number, all, any, a thing that is never None -/
section
variable {X : Cx}
theorem op_mulSt : OpR X (binaryOp .Mult) (fun x y H Q => ∃ i n, x = .str i ∧ y = .int n ∧ MulOk i n ∧ Q (.str (Txt.mul i n)) H) := by
  intro pins s σ H x y v u Q I rx ry h
  obtain ⟨i, n, rfl, rfl, hz, q⟩ := h
  obtain ⟨t, rfl⟩ := rx
  obtain ⟨t', rfl⟩ := ry
  exact SB.mul hz fun t' tk => ⟨.str _, H, I.tok _, ⟨_, rfl⟩, q⟩
end
def repT (a : List Nat) (n : Int) : List Nat := (List.replicate n.toNat a).flatten
theorem foldl_app (l : List (Array Nat)) (acc : Array Nat) : (l.foldl (fun a b => a ++ b) acc).toList = acc.toList ++ (l.map Array.toList).flatten := by
  induction l generalizing acc with
  | nil => simp
  | cons x r ih => rw [List.foldl_cons, ih]; simp
theorem mul_S (a : List Nat) (n : Int) : Txt.mul (S a) n = S (repT a n) := by
  unfold Txt.mul repT
  by_cases h1 : n < 1
  · rw [if_pos h1, show n.toNat = 0 from by omega]
    rfl
  · rw [if_neg h1]
    by_cases h2 : (n == 1 || (S a).length == 0) = true
    · rw [if_pos h2]
      rw [Bool.or_eq_true, beq_iff_eq, beq_iff_eq] at h2
      rcases h2 with rfl | h2
      · simp
      · rw [S_len] at h2
        have : a = [] := List.eq_nil_of_length_eq_zero h2
        subst this
        have e : (List.replicate n.toNat ([] : List Nat)).flatten = [] := by simp
        rw [e]
    · rw [if_neg h2]
      have := foldl_app (List.replicate n.toNat (S a).cps) #[]
      unfold S
      congr 1
      apply Array.toList_inj.mp
      refine this.trans ?_
      simp [S]
theorem repT_len (a : List Nat) (n : Int) : (repT a n).length = n.toNat * a.length := by
  unfold repT
  simp
theorem repT_mem {a : List Nat} {n : Int} {c : Nat} (h : c ∈ repT a n) : c ∈ a := by
  unfold repT at h
  obtain ⟨x, hx, hc⟩ := List.mem_flatten.mp h
  rw [List.mem_replicate] at hx
  exact hx.2 ▸ hc
theorem mulOk_S {a : List Nat} {n : Int} (h0 : -1000000 ≤ n) (h1 : n ≤ 1000000) (h2 : a.length * n.toNat ≤ 1000000) : MulOk (S a) n := by
  refine ⟨?_, fun h3 h4 => ?_, fun h3 h4 => ?_⟩
  · rw [Bool.or_eq_false_iff, decide_eq_false_iff_not, decide_eq_false_iff_not]
    omega
  · rw [S_len]
    have h5 : (a.length : Int) ≤ (2 ^ 63 - 1) / n := by
      refine (Int.le_ediv_iff_mul_le (by omega)).mpr ?_
      have : ((a.length * n.toNat : Nat) : Int) ≤ 1000000 := by omega
      rw [Int.natCast_mul, Int.toNat_of_nonneg (by omega)] at this
      omega
    omega
  · rw [S_len]
    unfold Builtin.Str.tooLong
    rw [decide_eq_false_iff_not]
    show ¬ _ > 2 ^ 24
    omega
theorem ol_mulSt {a : List Nat} {n : Int} : OpP (fun x y H Q => ∃ i n, x = .str i ∧ y = .int n ∧ MulOk i n ∧ Q (.str (Txt.mul i n)) H) fTxt.up fInt.up a n (M.need (-1000000 ≤ n ∧ n ≤ 1000000 ∧ a.length * n.toNat ≤ 1000000) (M.ok (repT a n))) fTxt.up :=
  oppN fun ⟨h0, h1, h2⟩ F H v w Q x ⟨ha, ht⟩ hb k => ⟨S a, n, ha, hb, mulOk_S h0 h1 h2, k _ ⟨by rw [mul_S], tOk.mk (by rw [repT_len, Nat.mul_comm]; show _ ≤ 2 ^ 24; omega) fun c hc => ht.all c (repT_mem hc)⟩⟩
theorem pw_bools : ∀ {bs : List Bool} {vs : List V} {F : Hp}, Pw (fun a x => fBool.r a F x) bs vs → vs = bs.map V.bl
  | _, _, _, .nil => rfl
  | _, _, _, .cons h t => by
    have h : _ = V.bl _ := h
    rw [h, pw_bools t]
    rfl
theorem cl_all {K : PySem.W.Frag} {bs : List Bool} : CallP (rAll K) (a1 (bLst K fBool)) (bs, ()) (M.ok (bs.all id)) fBool.up := cp1 fun F H v H0 Q x ⟨p, vs, e, h, q⟩ k => by
  subst e
  rw [pw_bools q] at h
  exact ⟨p, bs, rfl, h, k _ rfl⟩
theorem cl_any {K : PySem.W.Frag} {bs : List Bool} : CallP (rAny K) (a1 (bLst K fBool)) (bs, ()) (M.ok (bs.any id)) fBool.up := cp1 fun F H v H0 Q x ⟨p, vs, e, h, q⟩ k => by
  subst e
  rw [pw_bools q] at h
  exact ⟨p, bs, rfl, h, k _ rfl⟩
theorem ol_isNU {a u : Unit} : OpP (fun x y H Q => y = .non ∧ Q (.bl (decide (x = .non))) H) fUnit.up fUnit.up a u (M.ok true) fBool.up := opp fun F H v w Q x ha hb k => by
  have ha : v = .non := ha
  have hb : w = .non := hb
  subst ha hb
  exact ⟨rfl, k _ (by rw [decide_eq_true rfl]; rfl)⟩
theorem ol_notNU {a u : Unit} : OpP (fun x y H Q => y = .non ∧ Q (.bl (!decide (x = .non))) H) fUnit.up fUnit.up a u (M.ok false) fBool.up := opp fun F H v w Q x ha hb k => by
  have ha : v = .non := ha
  have hb : w = .non := hb
  subst ha hb
  exact ⟨rfl, k _ (by rw [decide_eq_true rfl]; rfl)⟩
end LK
namespace LK
open PySem L2
/-! ### a comprehension over a text -/
theorem lc_strI {x : Str} {g : TG} {tt : TT} {te : TE} {vs : List Nat} {σ : St} {H1 : Hp} {D : Addr} {Qd : Hp → Prop} (Pv : Nat → Hp → Prop) (h0 : Pv 0 (upd H1 D (.lst [])))
    (hs : ∀ i c H, x.cps[i]? = some c → Pv i H → g (.str ⟨#[c]⟩) (wipe σ vs) H fun σ2 H2 => wipe σ2 vs = wipe σ vs ∧ tt σ2 H2 fun b H3 =>
      if b = true then te σ2 H3 fun y H4 => ∃ acc, H4 D = some (.lst acc) ∧ acc.length < sizeLine ∧ Pv (i + 1) (upd H4 D (.lst (acc ++ [y]))) else Pv (i + 1) H3) (hd : ∀ H, Pv x.cps.size H → Qd H) :
    ∃ W : Nat → Nat → Hp → Prop, (∃ m, W 0 m (upd H1 D (.lst []))) ∧ ∀ i m H, W i m H →
      ((Its x).stop i H ∧ Qd H) ∨ ((Its x).go i H ∧ ∃ Nx : Hp → Prop, (∀ H', Nx H' → ∃ m', m' < m ∧ W (i + 1) m' H') ∧ ∀ v H', (Its x).yld i H v H' → g v (wipe σ vs) H' fun σ2 H2 => wipe σ2 vs = wipe σ vs ∧ tt σ2 H2 fun b H3 =>
        if b = true then te σ2 H3 fun y H4 => ∃ acc, H4 D = some (.lst acc) ∧ acc.length < sizeLine ∧ Nx (upd H4 D (.lst (acc ++ [y]))) else Nx H3) := by
  refine ⟨fun i m H => m = x.cps.size - i ∧ i ≤ x.cps.size ∧ Pv i H, ⟨x.cps.size, by simp, Nat.zero_le _, h0⟩, ?_⟩
  rintro i m H ⟨rfl, hi, p⟩
  by_cases hlt : i < x.cps.size
  · refine .inr ⟨hlt, Pv (i + 1), fun H' p' => ⟨x.cps.size - (i + 1), by omega, rfl, hlt, p'⟩, fun v H' y => ?_⟩
    obtain ⟨e, c, hc, y⟩ := y
    subst e y
    exact hs i c _ hc p
  · have e : i = x.cps.size := by omega
    subst e
    exact .inl ⟨Nat.le_refl _, hd H p⟩
section
variable {X : Cx} {W : WX} {G Gw : Gm} {kk : Nat} {β : Type} {E : Rf β}
theorem tLcS_run {elt tg iter : Expr} {ifs : List Expr} {scope : Scope} {own : List (Str × Nat)} {m : M (List Nat)} {c : List Nat → M Bool} {f : List Nat → M β} {G2 : List Nat → Gm} (C : Cok X W kk) (hi : FE X W G iter m fTxt.up) (d : Imp G Gw) (hw : ∀ i ∈ own.map (·.2), ∀ t, Gw[i]? ≠ some (some t))
    (ok : BlkOk X.N X.env.scope scope own) (hg : ∀ s H C cl fp, FG (blkX X scope s H C cl fp) (own.map (·.2)) (fun _ : List Nat => Gw) tg fTxt (fun z => z) G2) (ht : ∀ a s H C cl fp, FTs (blkX X scope s H C cl fp) W0 (G2 a) ifs (c a)) (he : ∀ a s H C cl fp, FE (blkX X scope s H C cl fp) W0 (G2 a) elt (f a) E.up)
    (hs : ∀ x, foldedSetIterable iter X.env x = pure x) {σ : St} {H : Hp} {Q : VK} (h : tE X.K W G (m.bind fun as => lcL c f (signs as) []) (ro (tL X.K E)) σ H Q) : tLc (iStr (tE X.K W G m fTxt.up)) (tGt (own.map (·.2)) (fun _ : List Nat => Gw) fTxt (fun z => z) G2) (tTu X.K G2 c) (tEu X.K G2 f E) (own.map (·.2)) σ H Q := by
  obtain ⟨B, tl, F, T⟩ := h
  refine ⟨B, tl, F, T.seq fun l F1 H1 _ g1 T1 v ⟨ev, hl⟩ => ?_⟩
  subst ev
  refine ⟨S l, rfl, fun D hD => ?_⟩
  have st := T1.st.wipe d hw
  have hsz : (S l).cps.size = l.length := by simp [S]
  refine lc_strI (x := S l) (g := tGt (own.map (·.2)) (fun _ : List Nat => Gw) fTxt (fun z => z) G2) (tt := tTu X.K G2 c) (te := tEu X.K G2 f E) (D := D) (Qd := fun H => Q (.ref D) H) (fun i H => ∃ F acc accv, Gr F1 H1 F H ∧ F D = none ∧ H D = some (.lst accv) ∧ Pw (fun b x => E.r b F x) acc accv ∧ lcL c f (signs l) [] = lcL c f ((signs l).drop i) acc) ?_ ?_ ?_
  · exact ⟨F1, [], [], Gr.newM g1.fh hD, g1.fh.free hD, upd_same, .nil, rfl⟩
  · rintro i d H hx ⟨F, acc, accv, g, hF, hDl, pa, el⟩
    have hc' : l[i]? = some d := by simpa [S] using hx
    refine lc_turn (a := [d]) st rfl hD (by unfold signs; rw [List.getElem?_map, hc']; rfl) g hF ⟨rfl, hl.sub (by have := (List.getElem?_eq_some_iff.mp hc').1; simp; omega) fun e he => by
        cases List.mem_singleton.mp he
        exact List.mem_of_getElem? hc'⟩ hDl pa (by rw [← el]; exact T1.ne) (te := tEu X.K G2 f E) (tt := tTu X.K G2 c) (fun _ _ _ h => h) (fun _ _ _ h => h) fun F' H' acc' accv' g' h1 h2 h3 h4 => ⟨F', acc', accv', g', h1, h2, h3, el.trans h4⟩
  · rintro H ⟨F, acc, accv, g, hF, hDl, pa, el⟩
    rw [hsz, show l.length = (signs l).length from by simp [signs], List.drop_length] at el
    refine T1.ok acc el F H g (.ref D) ⟨[D], ⟨D, accv, rfl, hDl, pa, rfl⟩, fun y hy => ?_⟩
    cases List.mem_singleton.mp hy
    exact ⟨g1.h.free hD, hF, .of hDl⟩
theorem fe_lcS {elt tg iter : Expr} {ifs : List Expr} {scope : Scope} {own : List (Str × Nat)} {pos : Pos} {m : M (List Nat)} {c : List Nat → M Bool} {f : List Nat → M β} {G2 : List Nat → Gm} (C : Cok X W kk) (hi : FE X W G iter m fTxt.up) (d : Imp G Gw) (hw : ∀ i ∈ own.map (·.2), ∀ t, Gw[i]? ≠ some (some t))
    (ok : BlkOk X.N X.env.scope scope own) (hg : ∀ s H C cl fp, FG (blkX X scope s H C cl fp) (own.map (·.2)) (fun _ : List Nat => Gw) tg fTxt (fun z => z) G2) (ht : ∀ a s H C cl fp, FTs (blkX X scope s H C cl fp) W0 (G2 a) ifs (c a)) (he : ∀ a s H C cl fp, FE (blkX X scope s H C cl fp) W0 (G2 a) elt (f a) E.up)
    (hs : ∀ x, foldedSetIterable iter X.env x = pure x := by intro _; rfl) : FE X W G (.ListComp elt [⟨tg, iter, ifs, 0⟩] scope pos) (m.bind fun as => lcL c f (signs as) []) (ro (tL X.K E)) :=
  PE.weak (pe_lc (tt := tTu X.K G2 c) (te := tEu X.K G2 f E) C.calm C.nd (pi_str hi) ok (fun s H C cl fp => hg s H C cl fp) (fun s H C cl fp => ⟨fun pins s1 σ H1 Q I ⟨a, q⟩ => (ht a s H C cl fp).run pins s1 σ H1 Q I q⟩) (fun s H C cl fp => ⟨fun pins s1 σ H1 Q I ⟨a, q⟩ => (he a s H C cl fp).run pins s1 σ H1 Q I q⟩) hs) fun σ H Q h => tLcS_run C hi d hw ok hg ht he hs h
theorem fv_lcS {elt tg iter : Expr} {ifs : List Expr} {scope : Scope} {own : List (Str × Nat)} {pos : Pos} {as : List Nat} {c : List Nat → M Bool} {f : List Nat → M β} {G2 : List Nat → Gm} (C : Cok X W kk) (hi : FE X W G iter (M.ok as) fTxt.up) (d : Imp G Gw) (hw : ∀ i ∈ own.map (·.2), ∀ t, Gw[i]? ≠ some (some t))
    (ok : BlkOk X.N X.env.scope scope own) (hg : ∀ s H C cl fp, FG (blkX X scope s H C cl fp) (own.map (·.2)) (fun _ : List Nat => Gw) tg fTxt (fun z => z) G2) (ht : ∀ a s H C cl fp, FTs (blkX X scope s H C cl fp) W0 (G2 a) ifs (c a)) (he : ∀ a s H C cl fp, FE (blkX X scope s H C cl fp) W0 (G2 a) elt (f a) E.up)
    (hs : ∀ x, foldedSetIterable iter X.env x = pure x := by intro _; rfl) : FE X W G (.ListComp elt [⟨tg, iter, ifs, 0⟩] scope pos) (lcL c f (signs as) []) (ro (tL X.K E)) := fe_lcS C hi d hw ok hg ht he hs
end
end LK
namespace LK
open PySem L2
section
variable {X : Cx} {W : WX} {G : Gm}
theorem fe_globT (z : Str) {x : Str} {pos : Pos} {l : List Nat} (hg : Gl X x) (hm : ∃ t, X.mg x = some (.str z t)) (hl : (tOkB l && decide (z.cps.toList = l)) = true := by decide +kernel) (hd : (x == ("__debug__" : Str)) = false := by decide) : FE X W G (.Name x pos) (M.ok l) fTxt.up := by
  obtain ⟨t, hm⟩ := hm
  obtain ⟨h1, h2⟩ := Bool.and_eq_true_iff.mp hl
  have h2 := of_decide_eq_true h2
  subst h2
  exact fe_glob (v := .str z) hg hm ⟨t, rfl⟩ (fun _ => ⟨by rw [S_of], h1⟩) hd
end
theorem cl_lenT {K : PySem.W.Frag} {α : Type} {T : Tv α} {a : α} {n : Nat} {i : Int} (ht : TvN T n) (hi : (n : Int) = i := by rfl) : CallP (fun xs H Q => ∃ x n, xs = [x] ∧ LenV K x H n ∧ Q (.int n) H) (a1 (fTup K T).up) (a, ()) (M.ok i) fInt.up := cp1 fun F H v H0 Q x ⟨p, vs, e, h, q⟩ k => by
  subst e
  exact ⟨_, n, rfl, .inr ⟨vs, sqT_ex x h, (ht.run _ _ _ q).symm⟩, k _ (by rw [← hi]; rfl)⟩
end LK
namespace LK
open PySem L2
/-! ### dicts: the keys texts or numbers, the values frozen -/
/-- a kind of keys -/
structure KY (κ : Type) where
  A : Rf κ
  ok : κ → Prop
  k : κ → Key
  inj : ∀ {a b}, k a = k b → a = b
  of : ∀ {x F v}, A.r x F v → v = kV (k x) ∧ ok x
  to : ∀ {x}, ok x → ∀ F, A.r x F (kV (k x))
def kT : KY (List Nat) := ⟨fTxt, tOk, fun l => .inr (S l), fun h => S_inj (Sum.inr.inj h), fun h => h, fun h F => ⟨rfl, h⟩⟩
def kI : KY Int := ⟨fInt, fun _ => True, fun i => .inl i, fun h => Sum.inl.inj h, fun h => ⟨h, trivial⟩, fun _ _ => rfl⟩
inductive Pd {κ α : Type} (T : KY κ) (R : α → V → Prop) : List (κ × α) → List (Key × V) → Prop where
  | nil : Pd T R [] []
  | cons {k a v r ws} : T.ok k → R a v → Pd T R r ws → Pd T R ((k, a) :: r) ((T.k k, v) :: ws)
section
variable {κ α : Type} {T : KY κ}
theorem Pd.imp {R R' : α → V → Prop} (f : ∀ a v, R a v → R' a v) : ∀ {as vs}, Pd T R as vs → Pd T R' as vs
  | _, _, .nil => .nil
  | _, _, .cons t h r => .cons t (f _ _ h) (r.imp f)
theorem Pd.len {R : α → V → Prop} : ∀ {as vs}, Pd T R as vs → as.length = vs.length
  | _, _, .nil => rfl
  | _, _, .cons _ _ r => congrArg (· + 1) r.len
theorem Pd.keys {R : α → V → Prop} : ∀ {d ws}, Pd T R d ws → ws.map (·.1) = d.map fun p => T.k p.1
  | _, _, .nil => rfl
  | _, _, .cons t h p => by rw [List.map_cons, List.map_cons, p.keys]
theorem Pd.tks {R : α → V → Prop} : ∀ {d ws}, Pd T R d ws → ∀ p ∈ d, T.ok p.1
  | _, _, .nil, _, h => nomatch h
  | _, _, .cons t h p, x, hx => (List.mem_cons.mp hx).elim (fun e => by rw [e]; exact t) (p.tks x)
theorem Pd.at {R : α → V → Prop} : ∀ {d : List (κ × α)} {ws : List (Key × V)}, Pd T R d ws → ∀ {i : Nat} {k : Key} {v : V}, ws[i]? = some (k, v) → ∃ kk a, d[i]? = some (kk, a) ∧ k = T.k kk ∧ T.ok kk ∧ R a v
  | _, _, .nil, i, k, v, h => by simp at h
  | _, _, @Pd.cons _ _ _ _ k' a v' r ws t h p, 0, k, v, e => by
    simp only [List.getElem?_cons_zero, Option.some.injEq, Prod.mk.injEq] at e
    exact ⟨k', a, rfl, e.1.symm, t, by rw [← e.2]; exact h⟩
  | _, _, @Pd.cons _ _ _ _ k' a v' r ws t h p, i + 1, k, v, e => by
    rw [List.getElem?_cons_succ] at e
    obtain ⟨kk, a', h1, h2, h3, h4⟩ := p.at e
    exact ⟨kk, a', by rw [List.getElem?_cons_succ]; exact h1, h2, h3, h4⟩
variable [DecidableEq κ]
def dget (d : List (κ × α)) (k : κ) : Option α := (d.find? fun p => decide (p.1 = k)).map (·.2)
def dput (d : List (κ × α)) (k : κ) (a : α) : List (κ × α) := if (d.any fun p => decide (p.1 = k)) = true then d.map (fun p => if p.1 = k then (p.1, a) else p) else d ++ [(k, a)]
def ddel (d : List (κ × α)) (k : κ) : List (κ × α) := d.filter fun p => decide (p.1 ≠ k)
theorem KY.iff {k k' : κ} : (T.k k = T.k k') ↔ k = k' := ⟨T.inj, fun h => by rw [h]⟩
theorem KY.dec (k k' : κ) : decide (T.k k = T.k k') = decide (k = k') := decide_eq_decide.mpr T.iff
theorem Pd.get {R : α → V → Prop} {k : κ} : ∀ {d ws}, Pd T R d ws → (dget d k = none ∧ valV ws (T.k k) = none) ∨ ∃ a v, dget d k = some a ∧ valV ws (T.k k) = some v ∧ R a v
  | _, _, .nil => .inl ⟨rfl, rfl⟩
  | _, _, @Pd.cons _ _ _ _ k' a v r ws t h p => by
    by_cases e : k' = k
    · subst e
      exact .inr ⟨a, v, by simp [dget], by simp [valV], h⟩
    · have e1 : dget ((k', a) :: r) k = dget r k := by simp [dget, List.find?_cons, e]
      have e2 : valV ((T.k k', v) :: ws) (T.k k) = valV ws (T.k k) := valV_neg (fun z => e (T.iff.mp z))
      rw [e1, e2]
      exact p.get
theorem Pd.any {R : α → V → Prop} {k : κ} : ∀ {d ws}, Pd T R d ws → (ws.any fun kv => decide (kv.1 = T.k k)) = d.any fun p => decide (p.1 = k)
  | _, _, .nil => rfl
  | _, _, .cons t h p => by rw [List.any_cons, List.any_cons, p.any, KY.dec]
theorem Pd.map {R : α → V → Prop} {k : κ} {a : α} {v : V} (ha : R a v) : ∀ {d ws}, Pd T R d ws → Pd T R (d.map fun p => if p.1 = k then (p.1, a) else p) (ws.map fun kv => if kv.1 = T.k k then (kv.1, v) else kv)
  | _, _, .nil => .nil
  | _, _, @Pd.cons _ _ _ _ k' _ _ r ws t h p => by
    rw [List.map_cons, List.map_cons]
    by_cases e : k' = k
    · rw [if_pos e, if_pos (T.iff.mpr e)]
      exact .cons t ha (p.map ha)
    · rw [if_neg e, if_neg (fun z => e (T.iff.mp z))]
      exact .cons t h (p.map ha)
theorem Pd.snoc {R : α → V → Prop} {k : κ} {a : α} {v : V} (t : T.ok k) (ha : R a v) : ∀ {d ws}, Pd T R d ws → Pd T R (d ++ [(k, a)]) (ws ++ [(T.k k, v)])
  | _, _, .nil => .cons t ha .nil
  | _, _, .cons t' h p => .cons t' h (p.snoc t ha)
theorem Pd.put {R : α → V → Prop} {k : κ} {a : α} {v : V} {d ws} (t : T.ok k) (ha : R a v) (p : Pd T R d ws) : Pd T R (dput d k a) (putK ws (T.k k) v) := by
  unfold dput putK
  rw [p.any]
  split
  · exact p.map ha
  · exact p.snoc t ha
theorem Pd.del {R : α → V → Prop} {k : κ} : ∀ {d ws}, Pd T R d ws → Pd T R (ddel d k) (dropK ws (T.k k))
  | _, _, .nil => .nil
  | _, _, @Pd.cons _ _ _ _ k' _ _ r ws t h p => by
    unfold ddel dropK
    rw [List.filter_cons, List.filter_cons]
    by_cases e : k' = k
    · rw [if_neg (by simpa using e), if_neg (by simpa using T.iff.mpr e)]
      exact p.del
    · rw [if_pos (by simpa using e), if_pos (by simpa using fun z => e (T.iff.mp z))]
      exact .cons t h p.del
end
/-- a dict -/
def tD {κ α : Type} (T : KY κ) (A : Rf α) : Th (List (κ × α)) := ⟨fun d F X v => ∃ p ws, v = .ref p ∧ Rd X p (.dK ws) ∧ Pd T (fun a x => A.r a F x) d ws,
  fun d F H v ms => ∃ p ws, v = .ref p ∧ H p = some (.dK ws) ∧ Pd T (fun a x => A.r a F x) d ws ∧ ms = [p],
  fun ⟨p, vs, e, h, q⟩ x y => ⟨p, vs, e, Rd.xs y h fun _ _ z => (nomatch z), q.imp fun _ _ z => A.sx z x⟩,
  fun ⟨p, vs, e, h, q, m⟩ x k => ⟨p, vs, e, k p (by rw [m]; simp) _ h, q.imp fun _ _ z => A.sx z x, m⟩,
  fun ⟨p, vs, e, h, q, m⟩ k _ => ⟨p, vs, e, .inl (k p (by rw [m]; simp) _ h), q⟩⟩
abbrev bDc {κ α : Type} (T : KY κ) (A : Rf α) : Rl (List (κ × α)) := nw (tD T A)
def oget {ε α : Type} : Option α → Mg ε α
  | some a => M.ok a
  | none => none
section
variable {ε : Type} {Eh : EH ε} {X : Cx} {W : WX} {G : Gm} {kk : Nat} {κ α : Type} [DecidableEq κ] {T : KY κ} {A : Rf α}
theorem Cok.un (C : Cok X W kk) : X.A.units + 1 < cLine := by
  have := C.hr.units
  omega
/-- d[k] -/
theorem fe_dget {o i : Expr} {pos : Pos} {md : M (List (κ × α))} {mk : M κ} (C : Cok X W kk) (ho : FE X W G o md (bDc T A)) (hi : FE X W G i mk T.A.up) (hs : NoSl i := by intro _ _; rfl) : FE X W G (.Subscript o i pos) (md.bind fun d => mk.bind fun k => oget (dget d k)) A.up :=
  PE.weak (pe_dget C.un ho hi hs) fun σ H Q ⟨B, tl, F, D⟩ => ⟨B, tl, F, D.seq fun d F1 H1 e1 g1 T1 v rv => ⟨B, tl, F1, T1.seq fun k F2 H2 e2 g2 T2 w rw' => by
    obtain ⟨p, ws, rfl, h, q⟩ := (bDc T A).st rv g2
    obtain ⟨rfl, ht⟩ := T.of rw'
    rcases q.get (k := k) with ⟨h1, h2⟩ | ⟨a, x, h1, h2, h3⟩
    · exact absurd (by rw [h1]; rfl) T2.ne
    · rw [h1] at T2
      exact ⟨p, x, rfl, .inl ⟨ws, T.k k, h, rfl, h2.symm⟩, T2.ok a rfl F2 H2 (Gr.refl g2.fh) x h3⟩⟩⟩
/-- k in d -/
theorem fe_din {o i : Expr} {pos : Pos} {md : M (List (κ × α))} {mk : M κ} (C : Cok X W kk) (hi : FE X W G i mk T.A.up) (ho : FE X W G o md (bDc T A)) (hb : behindInMarks CmpOp.In o = false := by rfl) : FE X W G (.Compare i [.In] [o] pos) (mk.bind fun k => md.bind fun d => M.ok (dget d k).isSome) fBool.up :=
  PE.weak (pe_cmp (pc_din C.un hi ho) hb) fun σ H Q ⟨B, tl, F, D⟩ => ⟨B, tl, F, D.seq fun k F1 H1 e1 g1 T1 w rw' => ⟨B, tl, F1, T1.seq fun d F2 H2 e2 g2 T2 v ⟨p, ws, ev, h, q⟩ => by
    obtain ⟨ew, ht⟩ := T.of rw'
    subst ew ev
    refine ⟨p, valV ws (T.k k), rfl, .inl ⟨ws, T.k k, h, rfl, rfl⟩, ?_⟩
    rcases q.get (k := k) with ⟨h1, h2⟩ | ⟨a, x, h1, h2, h3⟩
    · rw [h2]; exact T2.ok _ rfl F2 H2 (Gr.refl g2.fh) _ (by rw [h1]; rfl)
    · rw [h2]; exact T2.ok _ rfl F2 H2 (Gr.refl g2.fh) _ (by rw [h1]; rfl)⟩⟩
theorem fe_dnin {o i : Expr} {pos : Pos} {md : M (List (κ × α))} {mk : M κ} (C : Cok X W kk) (hi : FE X W G i mk T.A.up) (ho : FE X W G o md (bDc T A)) (hb : behindInMarks CmpOp.NotIn o = false := by rfl) : FE X W G (.Compare i [.NotIn] [o] pos) (mk.bind fun k => md.bind fun d => M.ok (!(dget d k).isSome)) fBool.up :=
  PE.weak (pe_cmp (pc_dnotin C.un hi ho) hb) fun σ H Q ⟨B, tl, F, D⟩ => ⟨B, tl, F, D.seq fun k F1 H1 e1 g1 T1 w rw' => ⟨B, tl, F1, T1.seq fun d F2 H2 e2 g2 T2 v ⟨p, ws, ev, h, q⟩ => by
    obtain ⟨ew, ht⟩ := T.of rw'
    subst ew ev
    refine ⟨p, valV ws (T.k k), rfl, .inl ⟨ws, T.k k, h, rfl, rfl⟩, ?_⟩
    rcases q.get (k := k) with ⟨h1, h2⟩ | ⟨a, x, h1, h2, h3⟩
    · rw [h2]; exact T2.ok _ rfl F2 H2 (Gr.refl g2.fh) _ (by rw [h1]; rfl)
    · rw [h2]; exact T2.ok _ rfl F2 H2 (Gr.refl g2.fh) _ (by rw [h1]; rfl)⟩⟩
/-- d.get(k, x) -/
theorem fe_dget2 {o i f : Expr} {apos cpos : Pos} {md : M (List (κ × α))} {mk : M κ} {mx : M α} (C : Cok X W kk) (ho : FE X W G o md (bDc T A)) (hi : FE X W G i mk T.A.up) (hf : FE X W G f mx A.up) (m : M2 X o "get" apos i f cpos := by first | exact ⟨rfl, rfl, rfl, rfl⟩ | exact ⟨by rfl, by rfl, by rfl, by rfl⟩) : FE X W G (.Call (.Attribute o "get" apos) [i, f] [] cpos) (md.bind fun d => mk.bind fun k => mx.bind fun x => M.ok ((dget d k).getD x)) A.up :=
  PE.weak (pe_dget2 C.un ho hi hf m) fun σ H Q ⟨B, tl, F, D⟩ => ⟨B, tl, F, D.seq fun d F1 H1 e1 g1 T1 v rv => by
    obtain ⟨p0, ws0, rfl, h0, q0⟩ := rv
    refine ⟨p0, rfl, .inl ⟨ws0, h0⟩, B, tl, F1, T1.seq fun k F2 H2 e2 g2 T2 w rw' => ⟨B, tl, F2, T2.seq fun x F3 H3 e3 g3 T3 u ru => ?_⟩⟩
    obtain ⟨p, ws, ep, h, q⟩ := (bDc T A).st (H0 := H1) (show (bDc T A).r d H1 F1 H1 (.ref p0) from ⟨p0, ws0, rfl, h0, q0⟩) (g2.trans g3)
    cases ep
    obtain ⟨rfl, ht⟩ := T.of (T.A.st rw' g3.f)
    refine ⟨valV ws (T.k k), .inl ⟨ws, T.k k, h, rfl, rfl⟩, ?_⟩
    rcases q.get (k := k) with ⟨h1, h2⟩ | ⟨a, y, h1, h2, h3⟩
    · rw [h2]; exact T3.ok _ rfl F3 H3 (Gr.refl g3.fh) _ (by rw [h1]; exact ru)
    · rw [h2]; exact T3.ok _ rfl F3 H3 (Gr.refl g3.fh) _ (by rw [h1]; exact h3)⟩
/-- an empty one -/
theorem fe_dnew {pos : Pos} : FE X W G (.Dict [] [] pos) (M.ok ([] : List (κ × α))) (ro (tD T A)) :=
  fe_now pe_dnewK fun B tl σ F H Q st k => fun p hp => k (.ref p) F _ (Gr.newM st.fh hp) ⟨[p], ⟨p, [], rfl, upd_same, .nil, rfl⟩, fun y hy => by
    cases List.mem_singleton.mp hy
    exact ⟨hp, st.fh.free hp, NT.up⟩⟩
/-- dict(d): a copy -/
theorem call_dictD : CallR X (.type "dict") (fun xs H Q => ∃ a kvs, xs = [V.ref a] ∧ Rd H a (.dK kvs) ∧ ∀ p, H p = none → Q (.ref p) (upd H p (.dK kvs))) := by
  intro pins s σ H xs us Q I r h
  obtain ⟨a, kvs, rfl, ha, q⟩ := h
  obtain ⟨u, rfl, ru⟩ := vals1 r
  cases ru
  exact d_copyOf I ha fun p s' hp I' => ⟨.ref p, _, I', rfl, q p hp⟩
theorem cl_dictD {d : List (κ × α)} : CallP (fun xs H Q => ∃ a kvs, xs = [V.ref a] ∧ Rd H a (.dK kvs) ∧ ∀ p, H p = none → Q (.ref p) (upd H p (.dK kvs))) (a1 (bDc T A)) (d, ()) (M.ok d) (ro (tD T A)) :=
  ⟨fun e q => (nomatch q), fun F H vs H0 Q x ⟨v, r, e, ⟨p, ws, ev, h, q⟩, h2⟩ c ec k => by
    cases M.ok_inj ec
    cases h2
    subst ev
    subst e
    refine ⟨p, ws, rfl, h, fun l hl => k (.ref l) F _ (Gr.newM x hl) ⟨[l], ⟨l, ws, rfl, upd_same, q, rfl⟩, fun y hy => ?_⟩⟩
    cases List.mem_singleton.mp hy
    exact ⟨hl, x.free hl, NT.up⟩⟩
section
variable {tl : List Nat} {ρ b s : Type} {R : ρ → V → Gm} {Gb : b → Gm} {N : s → Gm}
/-- o[k] = e, the dict at place j known by its value -/
theorem fs_dput {j : Nat} {q : V} {o i value : Expr} {pos pos' : Pos} {rest : List Stmt} {d : List (κ × α)} {p : Er → ε} {mv : M α} {mk : M κ} {g : κ → α → Mg ε (Fl ρ b s)} (C : Cok X W kk)
    (hG : G[j]? = some (some (pn q (ob (tD T A) d)))) (ho : FE X W G o (M.ok ()) (rV q)) (hv : FE X W G value mv A.up) (hi : FE X W G i mk T.A.up) (hr : ∀ k a, FS X W Eh tl (G.set j (some (pn q (ob (tD T A) (dput d k a))))) rest (g k a) R Gb N)
    (hs : swapsWith value (some (.Subscript o i pos')) pos.line X.env = pure false := by rfl) (hp : Pay Eh G p := by exact pay0 rfl) :
    FS X W Eh tl G (.Assign [.Subscript o i pos'] value pos :: rest) (mv.bindP p fun a => mk.bindP p fun k => M.need (d.length < sizeLine) (g k a)) R Gb N :=
  PSs.weak (pss_cons (ps_dput C.un ho hi hv hs) (pss_ex fun z : κ × α => hr z.1 z.2)) fun D σ H ⟨B, F, T0⟩ => by
    refine ⟨B, tl, F, T0.tellE hp fun a F1 H1 ea g1 v rv => ?_⟩
    have T1 := T0.rest ea (T0.st.grow g1)
    have T1' : ToldS X.K W Eh tl G ((M.ok () : M Unit).bindP p fun _ => mk.bindP p fun k => M.need (d.length < sizeLine) (g k a)) R Gb N D σ H1 B F1 := T1
    refine ⟨B, tl, F1, T1'.tellE hp fun _ F3 H3 e3 g3 vo ro' => ?_⟩
    have T1 := T1'.rest e3 (T1.st.grow g3)
    refine ⟨B, tl, F3, T1.tellE hp fun k F2 H2 ek g2 w rw' => ?_⟩
    obtain ⟨ew, ht⟩ := T.of rw'
    subst ew
    have T2 := T1.rest ek (T1.st.grow g2)
    obtain ⟨hlt, e2⟩ := M.need_ne T2.ne
    obtain ⟨ms, z2⟩ := T2.st.sl
    obtain ⟨u, h1, rfl, qa, ws, rfl, hh, pw, em⟩ := z2.has j _ hG
    cases (show vo = V.ref qa from ro')
    obtain ⟨hF, hH⟩ := z2.mem j qa (by rw [em]; simp)
    refine ⟨qa, _, rfl, .inl ⟨ws, T.k k, hh, rfl, by rw [← pw.len]; exact hlt, rfl⟩, (k, a), B, F2, ?_⟩
    rw [e2] at T2
    refine ⟨T2.st.mut z2 hG rfl h1 (by rw [em]; exact GrX.at T2.st.fh hF) ⟨rfl, qa, _, rfl, upd_same, pw.put ht (A.st rv (g3.trans g2).f), rfl⟩ (fun y hy => ?_), T2.ne, T2.ret, T2.nx, T2.bk, T2.ct, T2.er⟩
    cases List.mem_singleton.mp hy
    exact ⟨.inl (by rw [em]; simp), hF, NT.up⟩
/-- del o[k] -/
theorem fs_ddel {j : Nat} {q : V} {o i : Expr} {pos pos' : Pos} {rest : List Stmt} {d : List (κ × α)} {p : Er → ε} {mk : M κ} {g : κ → Mg ε (Fl ρ b s)}
    (hG : G[j]? = some (some (pn q (ob (tD T A) d)))) (ho : FE X W G o (M.ok ()) (rV q)) (hi : FE X W G i mk T.A.up) (hr : ∀ k, FS X W Eh tl (G.set j (some (pn q (ob (tD T A) (ddel d k))))) rest (g k) R Gb N) (hp : Pay Eh G p := by exact pay0 rfl) :
    FS X W Eh tl G (.Delete [.Subscript o i pos'] pos :: rest) (mk.bindP p fun k => M.need ((dget d k).isSome = true) (g k)) R Gb N :=
  PSs.weak (pss_cons (ps_ddel ho hi) (pss_ex hr)) fun D σ H ⟨B, F, T0⟩ => by
    have T1' : ToldS X.K W Eh tl G ((M.ok () : M Unit).bindP p fun _ => mk.bindP p fun k => M.need ((dget d k).isSome = true) (g k)) R Gb N D σ H B F := T0
    refine ⟨B, tl, F, T1'.tellE hp fun _ F3 H3 e3 g3 vo ro' => ?_⟩
    have T1 := T1'.rest e3 (T0.st.grow g3)
    refine ⟨B, tl, F3, T1.tellE hp fun k F2 H2 ek g2 w rw' => ?_⟩
    obtain ⟨ew, ht⟩ := T.of rw'
    subst ew
    have T2 := T1.rest ek (T1.st.grow g2)
    obtain ⟨hlt, e2⟩ := M.need_ne T2.ne
    obtain ⟨ms, z2⟩ := T2.st.sl
    obtain ⟨u, h1, rfl, qa, ws, rfl, hh, pw, em⟩ := z2.has j _ hG
    cases (show vo = V.ref qa from ro')
    obtain ⟨hF, hH⟩ := z2.mem j qa (by rw [em]; simp)
    have hsome : (valV ws (T.k k)).isSome = true := by
      rcases pw.get (k := k) with ⟨q1, q2⟩ | ⟨a, v, q1, q2, q3⟩
      · rw [q1] at hlt; cases hlt
      · rw [q2]; rfl
    refine ⟨qa, ws, T.k k, rfl, hh, rfl, hsome, k, B, F2, ?_⟩
    rw [e2] at T2
    refine ⟨T2.st.mut z2 hG rfl h1 (by rw [em]; exact GrX.at T2.st.fh hF) ⟨rfl, qa, _, rfl, upd_same, pw.del, rfl⟩ (fun y hy => ?_), T2.ne, T2.ret, T2.nx, T2.bk, T2.ct, T2.er⟩
    cases List.mem_singleton.mp hy
    exact ⟨.inl (by rw [em]; simp), hF, NT.up⟩
end
end
end LK
namespace LK
open PySem L2
/-! ### sorted texts -/
def leT (a b : List Nat) : Bool := !decide (b < a)
def sortT (l : List (List Nat)) : List (List Nat) := l.mergeSort leT
theorem leT_iff {a b : List Nat} : leT a b = true ↔ a ≤ b := by
  unfold leT
  rw [Bool.not_eq_true', decide_eq_false_iff_not]
  exact List.not_lt
theorem leT_trans (a b c : List Nat) (h1 : leT a b = true) (h2 : leT b c = true) : leT a c = true := leT_iff.mpr (List.le_trans (leT_iff.mp h1) (leT_iff.mp h2))
theorem leT_total (a b : List Nat) : (leT a b || leT b a) = true := by
  rw [Bool.or_eq_true, leT_iff, leT_iff]
  exact List.le_total a b
theorem leT_anti {a b : List Nat} (h1 : leT a b = true) (h2 : leT b a = true) : a = b := List.le_antisymm (leT_iff.mp h1) (leT_iff.mp h2)
theorem sortT_perm (l : List (List Nat)) : (sortT l).Perm l := List.mergeSort_perm l leT
theorem sortT_pw (l : List (List Nat)) : (sortT l).Pairwise fun a b => leT a b = true := List.pairwise_mergeSort leT_trans leT_total l
theorem rising_pw : ∀ (p : Str) (l : List Str), PyProof.Rows.risingS p l = true → ((p :: l).map uS).Pairwise fun a b => leT a b = true
  | p, [], _ => by simp
  | p, x :: r, h => by
    have h : (!Spec.ltCps x.cps.toList p.cps.toList && PyProof.Rows.risingS x r) = true := h
    rw [Bool.and_eq_true] at h
    have ih := rising_pw x r h.2
    have h1 : leT (uS p) (uS x) = true := by
      have := h.1
      rw [PyProof.Rows.ltCps_eq] at this
      exact this
    rw [List.map_cons]
    refine List.pairwise_cons.mpr ⟨fun b hb => ?_, ih⟩
    rw [List.map_cons] at hb ih
    rcases List.mem_cons.mp hb with rfl | hb
    · exact h1
    · exact leT_trans _ _ _ h1 ((List.pairwise_cons.mp ih).1 b hb)
theorem sorted_pw {l : List Str} (h : PyProof.Rows.sortedS l = true) : (l.map uS).Pairwise fun a b => leT a b = true := by
  cases l with
  | nil => exact .nil
  | cons p r => exact rising_pw p r h
theorem sort_one {ys : List Str} {ks : List (List Nat)} (hp : ys.Perm (ks.map S)) (hs : PyProof.Rows.sortedS ys = true) : ys = (sortT ks).map S := by
  have e : ys.map uS = sortT ks := by
    refine List.Perm.eq_of_pairwise (fun a b _ _ h1 h2 => leT_anti h1 h2) (sorted_pw hs) (sortT_pw ks) ?_
    refine ((hp.map uS).trans ?_).trans (sortT_perm ks).symm
    rw [List.map_map]
    have : (ks.map (uS ∘ S)) = ks := by
      have : (uS ∘ S) = id := by funext k; simp [S]
      rw [this, List.map_id]
    rw [this]
  rw [← e, List.map_map]
  have : (S ∘ uS) = id := by funext y; exact S_of y
  rw [this, List.map_id]
theorem vals_txt : ∀ (l : List (List Nat)), (∀ k ∈ l, tOk k) → ∀ F : Hp, Pw (fun a x => fTxt.r a F x) l ((l.map S).map V.str)
  | [], _, _ => .nil
  | k :: r, h, F => .cons ⟨rfl, h k List.mem_cons_self⟩ (vals_txt r (fun x hx => h x (List.mem_cons_of_mem _ hx)) F)
/-- sorted(d) -/
theorem cl_sortD {K : PySem.W.Frag} {α : Type} {A : Rf α} {d : List (List Nat × α)} : CallP (fun xs H Q => ∃ (a : Addr) (kvs : List (Key × V)) (ks : List Str), xs = [.ref a] ∧ Rd H a (.dK kvs) ∧ kvs.map (·.1) = ks.map Sum.inr ∧ ks.length < 64 ∧
    ∀ ys p, ys.Perm ks → PyProof.Rows.sortedS ys = true → H p = none → Q (.ref p) (upd H p (.lst (ys.map V.str)))) (a1 (bDc kT A)) (d, ()) (M.need (d.length < 64) (M.ok (sortT (d.map (·.1))))) (ro (tL K fTxt)) :=
  ⟨need_err, fun F H vs H0 Q x ⟨v, r, e, ⟨p, ws, ev, h, q⟩, h2⟩ c ec k => by
    obtain ⟨hc, rfl⟩ := need_ok ec
    cases h2
    subst ev
    subst e
    refine ⟨p, ws, d.map fun p => S p.1, rfl, h, by rw [q.keys, List.map_map]; rfl, by rw [List.length_map]; exact hc, fun ys l hp hs hl => ?_⟩
    have e : (d.map fun p => S p.1) = (d.map (·.1)).map S := by rw [List.map_map]; rfl
    rw [e] at hp
    have e2 := sort_one hp hs
    subst e2
    refine k (.ref l) F _ (Gr.newM x hl) ⟨[l], ⟨l, _, rfl, upd_same, vals_txt _ (fun k hk => ?_) _, rfl⟩, fun y hy => ?_⟩
    · obtain ⟨z, hz, rfl⟩ := List.mem_map.mp ((sortT_perm _).mem_iff.mp hk)
      exact q.tks z hz
    · cases List.mem_singleton.mp hy
      exact ⟨hl, x.free hl, NT.up⟩⟩
theorem pw_txt : ∀ {l : List (List Nat)} {vs : List V} {F : Hp}, Pw (fun a x => fTxt.r a F x) l vs → vs = (l.map S).map V.str ∧ ∀ k ∈ l, tOk k
  | _, _, _, .nil => ⟨rfl, fun _ h => nomatch h⟩
  | _, _, _, .cons ⟨h, t⟩ r => by
    obtain ⟨e, q⟩ := pw_txt r
    exact ⟨by rw [h, e]; rfl, fun k hk => (List.mem_cons.mp hk).elim (fun z => z ▸ t) (q k)⟩
/-- sorted(xs), texts -/
theorem cl_sortS {K : PySem.W.Frag} {l : List (List Nat)} : CallP (rSortedS K) (a1 (bLst K fTxt)) (l, ()) (M.need (l.length < 64) (M.ok (sortT l))) (ro (tL K fTxt)) :=
  ⟨need_err, fun F H vs H0 Q x ⟨v, r, e, ⟨p, ws, ev, h, q⟩, h2⟩ c ec k => by
    obtain ⟨hc, rfl⟩ := need_ok ec
    cases h2
    subst ev
    subst e
    obtain ⟨ew, ht⟩ := pw_txt q
    subst ew
    refine ⟨p, l.map S, rfl, h, by rw [List.length_map]; exact hc, fun ys a hp hs ha => ?_⟩
    have e2 := sort_one hp hs
    subst e2
    refine k (.ref a) F _ (Gr.newM x ha) ⟨[a], ⟨a, _, rfl, upd_same, vals_txt _ (fun k hk => ht k ((sortT_perm _).mem_iff.mp hk)) _, rfl⟩, fun y hy => ?_⟩
    cases List.mem_singleton.mp hy
    exact ⟨ha, x.free ha, NT.up⟩⟩
/-- list(d) -/
theorem cl_listD {K : PySem.W.Frag} {α : Type} {A : Rf α} {d : List (List Nat × α)} : CallP (fun xs H Q => ∃ (a : Addr) (kvs : List (Key × V)), xs = [.ref a] ∧ Rd H a (.dK kvs) ∧ ∀ p, H p = none → Q (.ref p) (upd H p (.lst (kvs.map fun kv => kV kv.1)))) (a1 (bDc kT A)) (d, ()) (M.ok (d.map (·.1))) (ro (tL K fTxt)) :=
  ⟨fun e q => (nomatch q), fun F H vs H0 Q x ⟨v, r, e, ⟨p, ws, ev, h, q⟩, h2⟩ c ec k => by
    cases M.ok_inj ec
    cases h2
    subst ev
    subst e
    refine ⟨p, ws, rfl, h, fun a ha => ?_⟩
    have e : (ws.map fun kv => kV kv.1) = ((d.map (·.1)).map S).map V.str := by
      have := congrArg (List.map kV) q.keys
      rw [List.map_map] at this
      refine this.trans ?_
      rw [List.map_map, List.map_map, List.map_map]
      rfl
    rw [e]
    refine k (.ref a) F _ (Gr.newM x ha) ⟨[a], ⟨a, _, rfl, upd_same, vals_txt _ (fun k hk => ?_) _, rfl⟩, fun y hy => ?_⟩
    · obtain ⟨z, hz, rfl⟩ := List.mem_map.mp hk
      exact q.tks z hz
    · cases List.mem_singleton.mp hy
      exact ⟨ha, x.free ha, NT.up⟩⟩
/-- len(d) -/
theorem call_lenDR {X : Cx} : CallR X (.builtin "len") (fun xs H Q => ∃ a kvs, xs = [V.ref a] ∧ Rd H a (.dK kvs) ∧ Q (.int kvs.length) H) := by
  intro pins s σ H xs us Q I r h
  obtain ⟨a, kvs, rfl, ha, q⟩ := h
  obtain ⟨u, rfl, ru⟩ := vals1 r
  cases ru
  exact d_len I ha fun t s' I' => ⟨.int kvs.length, H, I', ⟨t, rfl⟩, q⟩
theorem cl_lenD {κ α : Type} {T : KY κ} {A : Rf α} {d : List (κ × α)} : CallP (fun xs H Q => ∃ a kvs, xs = [V.ref a] ∧ Rd H a (.dK kvs) ∧ Q (.int kvs.length) H) (a1 (bDc T A)) (d, ()) (M.ok (d.length : Int)) fInt.up := cp1 fun F H v H0 Q x ⟨p, ws, e, h, q⟩ k => by
  subst e
  exact ⟨p, ws, rfl, h, k _ (by rw [q.len]; rfl)⟩
end LK
namespace LK
open PySem L2
/-! ### search trees: None, or (key, value, left, right) -/
inductive Tr (α : Type) where
  | nil
  | node (k : List Nat) (a : α) (l r : Tr α)
  deriving DecidableEq
namespace Tr
def isNil {α : Type} : Tr α → Bool
  | .nil => true
  | .node .. => false
def dep {α : Type} : Tr α → Nat
  | .nil => 0
  | .node _ _ l r => max l.dep r.dep + 1
end Tr
def trR (K : PySem.W.Frag) {α : Type} (A : Rf α) : Tr α → Hp → V → Prop
  | .nil, _, v => v = .non
  | .node k a l r, F, v => ∃ p vk va vl vr, v = .ref p ∧ SqT K F p [vk, va, vl, vr] ∧ fTxt.r k F vk ∧ A.r a F va ∧ trR K A l F vl ∧ trR K A r F vr
theorem trR_sx {K : PySem.W.Frag} {α : Type} {A : Rf α} : ∀ {t : Tr α} {F v F'}, trR K A t F v → XS F F' → trR K A t F' v
  | .nil, _, _, _, h, _ => h
  | .node k a l r, _, _, _, ⟨p, vk, va, vl, vr, e, h, h1, h2, h3, h4⟩, x => ⟨p, vk, va, vl, vr, e, sqT_xs x h, fTxt.sx h1 x, A.sx h2 x, trR_sx h3 x, trR_sx h4 x⟩
def fTree (K : PySem.W.Frag) {α : Type} (A : Rf α) : Rf (Tr α) := ⟨trR K A, trR_sx⟩
section
variable {K : PySem.W.Frag} {α : Type} {A : Rf α}
theorem ol_isTr {t : Tr α} {u : Unit} : OpP (fun x y H Q => y = .non ∧ Q (.bl (decide (x = .non))) H) (fTree K A).up fUnit.up t u (M.ok t.isNil) fBool.up := opp fun F H v w Q x ha hb k => by
  refine ⟨hb, ?_⟩
  cases t with
  | nil => cases (show v = .non from ha); exact k _ rfl
  | node k' a l r =>
    obtain ⟨p, vk, va, vl, vr, e, _⟩ := (show trR K A (.node k' a l r) F v from ha)
    subst e
    exact k _ rfl
theorem ol_ntTr {t : Tr α} {u : Unit} : OpP (fun x y H Q => y = .non ∧ Q (.bl (!decide (x = .non))) H) (fTree K A).up fUnit.up t u (M.ok (!t.isNil)) fBool.up := opp fun F H v w Q x ha hb k => by
  refine ⟨hb, ?_⟩
  cases t with
  | nil => cases (show v = .non from ha); exact k _ rfl
  | node k' a l r =>
    obtain ⟨p, vk, va, vl, vr, e, _⟩ := (show trR K A (.node k' a l r) F v from ha)
    subst e
    exact k _ rfl
def trK : Tr α → M (List Nat)
  | .nil => none
  | .node k _ _ _ => M.ok k
def trA : Tr α → M α
  | .nil => none
  | .node _ a _ _ => M.ok a
def trL : Tr α → M (Tr α)
  | .nil => none
  | .node _ _ l _ => M.ok l
def trRt : Tr α → M (Tr α)
  | .nil => none
  | .node _ _ _ r => M.ok r
theorem ix_tr {β : Type} {B : Rf β} {t : Tr α} {i : Nat} {m : M β} (h0 : ∀ e, m ≠ M.err e) (hn : t = .nil → m = none) (h : ∀ k a l r F vk va vl vr, t = .node k a l r → fTxt.r k F vk → A.r a F va → trR K A l F vl → trR K A r F vr → ∀ c, m = M.ok c → ∃ z, [vk, va, vl, vr][i]? = some z ∧ B.r c F z) :
    OpP (rIxT K) (fTree K A).up fInt.up t (i : Int) m B.up :=
  ⟨h0, fun F H v w H0 Q x ha hb c e k => by
    cases hb
    cases t with
    | nil => rw [hn rfl] at e; cases e
    | node k' a l r =>
      obtain ⟨p, vk, va, vl, vr, ev, hs, h1, h2, h3, h4⟩ := (show trR K A (.node k' a l r) F v from ha)
      obtain ⟨z, hz, hB⟩ := h k' a l r F vk va vl vr rfl h1 h2 h3 h4 c e
      exact ⟨p, _, i, z, ev, rfl, sqT_ex x hs, atI_nat hz, k z F H (Gr.refl x) hB⟩⟩
theorem ol_trK {t : Tr α} : OpP (rIxT K) (fTree K A).up fInt.up t (0 : Int) (trK t) fTxt.up := ix_tr (i := 0) (by cases t <;> exact fun e z => nomatch z) (fun e => by subst e; rfl) fun k a l r F vk va vl vr e h1 h2 h3 h4 c ec => by
  subst e
  cases M.ok_inj (show M.ok k = M.ok c from ec)
  exact ⟨vk, rfl, h1⟩
theorem ol_trA {t : Tr α} : OpP (rIxT K) (fTree K A).up fInt.up t (1 : Int) (trA t) A.up := ix_tr (i := 1) (by cases t <;> exact fun e z => nomatch z) (fun e => by subst e; rfl) fun k a l r F vk va vl vr e h1 h2 h3 h4 c ec => by
  subst e
  cases M.ok_inj (show M.ok a = M.ok c from ec)
  exact ⟨va, rfl, h2⟩
theorem ol_trL {t : Tr α} : OpP (rIxT K) (fTree K A).up fInt.up t (2 : Int) (trL t) (fTree K A).up := ix_tr (i := 2) (by cases t <;> exact fun e z => nomatch z) (fun e => by subst e; rfl) fun k a l r F vk va vl vr e h1 h2 h3 h4 c ec => by
  subst e
  cases M.ok_inj (show M.ok l = M.ok c from ec)
  exact ⟨vl, rfl, h3⟩
theorem ol_trR {t : Tr α} : OpP (rIxT K) (fTree K A).up fInt.up t (3 : Int) (trRt t) (fTree K A).up := ix_tr (i := 3) (by cases t <;> exact fun e z => nomatch z) (fun e => by subst e; rfl) fun k a l r F vk va vl vr e h1 h2 h3 h4 c ec => by
  subst e
  cases M.ok_inj (show M.ok r = M.ok c from ec)
  exact ⟨vr, rfl, h4⟩
/-- a display that is a tree -/
def trN (a : List Nat × α × Tr α × Tr α) : Tr α := .node a.1 a.2.1 a.2.2.1 a.2.2.2
section
variable {X : Cx} {W : WX} {G : Gm}
theorem fe_trN {e : Expr} {m : M (List Nat × α × Tr α × Tr α)} (h : FE X W G e m (fTup X.K (tvc fTxt (tvc A (tvc (fTree X.K A) (tv1 (fTree X.K A)))))).up) : FE X W G e (m.bind fun a => M.ok (trN a)) (fTree X.K A).up :=
  PE.weak h fun σ H Q ⟨B, tl, F, T⟩ => ⟨B, tl, F, T.seq fun a F1 H1 e1 g1 T1 v ⟨p, vs, ev, hs, x1, r1, q1, h1, x2, r2, q2, h2, x3, r3, q3, h3, x4, q4, h4⟩ => by
    subst q1 q2 q3 q4
    exact T1.ok _ rfl F1 H1 (Gr.refl g1.fh) v ⟨p, x1, x2, x3, x4, ev, hs, h1, h2, h3, h4⟩⟩
theorem fv_trN {e : Expr} {a : List Nat × α × Tr α × Tr α} (h : FE X W G e (M.ok a) (fTup X.K (tvc fTxt (tvc A (tvc (fTree X.K A) (tv1 (fTree X.K A)))))).up) : FE X W G e (M.ok (trN a)) (fTree X.K A).up := fe_trN h
theorem fv_trE {e : Expr} {u : Unit} (h : FE X W G e (M.ok u) fUnit.up) : FE X W G e (M.ok Tr.nil) (fTree X.K A).up := fe_map (R' := (fTree X.K A).up) (fun _ => Tr.nil) h fun a H0 F H v r => r
end
/-! == of trees -/
def trD (D : Dt K A) : Tr α → PyData
  | .nil => .none
  | .node k a l r => .tuple [.str (S k), D.d a, trD D l, trD D r]
theorem trD_at (D : Dt K A) : ∀ {t : Tr α} {F H v}, trR K A t F v → Ex F H → Dp K H v (trD D t)
  | .nil, _, _, _, h, _ => by cases (show _ = V.non from h); exact .non
  | .node k a l r, F, H, v, ⟨p, vk, va, vl, vr, e, h, h1, h2, h3, h4⟩, x => by
    subst e
    exact .tup (sqT_ex x h) (.cons (dTxt.at_ h1 x) (.cons (D.at_ h2 x) (.cons (trD_at D h3 x) (.cons (trD_at D h4 x) .nil))))
theorem trD_ok (D : Dt K A) : ∀ {t : Tr α} {F v}, trR K A t F v → (trD D t).canLay0 = true ∧ (trD D t).depth ≤ t.dep + D.n
  | .nil, _, _, _ => ⟨rfl, Nat.zero_le _⟩
  | .node k a l r, F, v, ⟨p, vk, va, vl, vr, e, h, h1, h2, h3, h4⟩ => by
    obtain ⟨a1, b1⟩ := (dTxt (K := K)).ok h1
    obtain ⟨a2, b2⟩ := D.ok h2
    obtain ⟨a3, b3⟩ := trD_ok D h3
    obtain ⟨a4, b4⟩ := trD_ok D h4
    refine ⟨Bool.and_eq_true_iff.mpr ⟨a1, Bool.and_eq_true_iff.mpr ⟨a2, Bool.and_eq_true_iff.mpr ⟨a3, Bool.and_eq_true_iff.mpr ⟨a4, rfl⟩⟩⟩⟩, ?_⟩
    show max (PyData.depth (.str (S k))) (max (D.d a).depth (max (trD D l).depth (max (trD D r).depth 0))) + 1 ≤ max l.dep r.dep + 1 + D.n
    have : PyData.depth (.str (S k)) = 0 := rfl
    omega
theorem trD_eq (D : Dt K A) : ∀ a b : Tr α, PyData.eqv (trD D a) (trD D b) = true ↔ a = b
  | .nil, .nil => ⟨fun _ => rfl, fun _ => rfl⟩
  | .nil, .node .. => ⟨fun h => (nomatch h), fun h => (nomatch h)⟩
  | .node .., .nil => ⟨fun h => (nomatch h), fun h => (nomatch h)⟩
  | .node k a l r, .node k' a' l' r' => by
    show (PyData.eqv (.str (S k)) (.str (S k')) && (PyData.eqv (D.d a) (D.d a') && (PyData.eqv (trD D l) (trD D l') && (PyData.eqv (trD D r) (trD D r') && true)))) = true ↔ _
    rw [Bool.and_eq_true_iff, Bool.and_eq_true_iff, Bool.and_eq_true_iff, Bool.and_true, show PyData.eqv (.str (S k)) (.str (S k')) = true ↔ k = k' from (dTxt (K := K)).eq k k', D.eq, trD_eq D l l', trD_eq D r r']
    constructor
    · rintro ⟨rfl, rfl, rfl, rfl⟩; rfl
    · intro h; injection h with h1 h2 h3 h4; exact ⟨h1, h2, h3, h4⟩
theorem tr_dec [DecidableEq α] (D : Dt K A) (a b : Tr α) : PyData.eqv (trD D a) (trD D b) = decide (a = b) := by
  by_cases h : a = b
  · rw [decide_eq_true h]
    exact (trD_eq D a b).mpr h
  · rw [decide_eq_false h]
    cases q : PyData.eqv (trD D a) (trD D b) with
    | false => rfl
    | true => exact absurd ((trD_eq D a b).mp q) h
theorem tr_shaped (D : Dt K A) {t : Tr α} (hn : t.dep + D.n ≤ 64) {F : Hp} {v : V} (h : trR K A t F v) : SeqAt.shaped (trD D t) = true := Bool.and_eq_true_iff.mpr ⟨(trD_ok D h).1, decide_eq_true (Nat.le_trans (trD_ok D h).2 hn)⟩
theorem ol_eqTr [DecidableEq α] (D : Dt K A) {a b : Tr α} (n : Nat) (hD : D.n ≤ n := by exact Nat.le_refl _) : OpP (rEqD K) (fTree K A).up (fTree K A).up a b (M.need (a.dep + n ≤ 64 ∧ b.dep + n ≤ 64) (M.ok (decide (a = b)))) fBool.up := oppN fun ⟨h1, h2⟩ F H v w Q x ha hb k =>
  ⟨trD D a, trD D b, trD_at D ha x, trD_at D hb x, tr_shaped D (by omega) ha, tr_shaped D (by omega) hb, by rw [tr_dec]; exact k _ rfl⟩
theorem ol_neTr [DecidableEq α] (D : Dt K A) {a b : Tr α} (n : Nat) (hD : D.n ≤ n := by exact Nat.le_refl _) : OpP (rNeD K) (fTree K A).up (fTree K A).up a b (M.need (a.dep + n ≤ 64 ∧ b.dep + n ≤ 64) (M.ok (!decide (a = b)))) fBool.up := oppN fun ⟨h1, h2⟩ F H v w Q x ha hb k =>
  ⟨trD D a, trD D b, trD_at D ha x, trD_at D hb x, tr_shaped D (by omega) ha, tr_shaped D (by omega) hb, by rw [tr_dec]; exact k _ rfl⟩
end
/-- a tree taken apart -/
def trT {α : Type} : Tr α → M (List Nat × α × Tr α × Tr α)
  | .nil => none
  | .node k a l r => M.ok (k, a, l, r)
theorem fe_trT {X : Cx} {W : WX} {G : Gm} {α : Type} {A : Rf α} {e : Expr} {m : M (Tr α)} (h : FE X W G e m (fTree X.K A).up) : FE X W G e (m.bind trT) (fTup X.K (tvc fTxt (tvc A (tvc (fTree X.K A) (tv1 (fTree X.K A)))))).up :=
  PE.weak h fun σ H Q ⟨B, tl, F, T⟩ => ⟨B, tl, F, T.seq fun t F1 H1 e1 g1 T1 v r => by
    cases t with
    | nil => exact absurd rfl T1.ne
    | node k a l r' =>
      obtain ⟨p, vk, va, vl, vr, ev, hs, h1, h2, h3, h4⟩ := (show trR X.K A (.node k a l r') F1 v from r)
      exact T1.ok (k, a, l, r') rfl F1 H1 (Gr.refl g1.fh) v ⟨p, _, ev, hs, vk, _, rfl, h1, va, _, rfl, h2, vl, _, rfl, h3, vr, rfl, h4⟩⟩
end LK
namespace LK
open PySem L2
/-! ### list + list -/
def rCatS (K : PySem.W.Frag) : R2 := fun x y H Q => ∃ l b xs zs, x = .ref l ∧ y = .ref b ∧ SqL K H l xs ∧ SqL K H b zs ∧ xs.length + zs.length ≤ sizeLine ∧ ∀ p, H p = none → Q (.ref p) (upd H p (.lst (xs ++ zs)))
theorem op_catS {X : Cx} : OpR X (binaryOp .Add) (rCatS X.K) := by
  intro pins s σ H x y v u Q I rx ry h
  obtain ⟨l, b, xs, zs, rfl, rfl, hH, hB, hz, q⟩ := h
  cases rx
  cases ry
  obtain ⟨its, r, ⟨⟨cls, dd, data, sl⟩, n, ho, hc, hdd, hd⟩, _⟩ := I.list hH
  obtain ⟨its2, r2, ⟨⟨cls2, dd2, data2, sl2⟩, n2, ho2, hc2, hdd2, hd2⟩, _⟩ := I.list hB
  simp only at hc hd hc2 hd2 hdd hdd2
  subst hc hd hc2 hd2 hdd hdd2
  have hl := r.length
  have hl2 := r2.length
  refine concat_meets ⟨_, ho, rfl⟩ ⟨_, ho2, rfl⟩ noFill_list_add seq_list_add PySem.F.slot_list_add PySem.F.entry_list_add (PySem.F.args_list_add_2 _ _) (PyProof.Rows.list_addW l b its.toArray its2.toArray n n2 none none sl sl2 (by rw [List.size_toArray, List.size_toArray]; omega)) ⟨ho, ho2, ?_⟩
  have ea : its.toArray ++ its2.toArray = (its ++ its2).toArray := by simp
  rw [ea]
  exact ⟨.ref _, _, I.lnew (t' := s.toks) (r.append r2) (by rw [List.length_append]; omega), rfl, q _ I.fresh⟩
theorem ol_catS {K : PySem.W.Frag} {α : Type} {A : Rf α} {as bs : List α} : OpP (rCatS K) (bLst K A) (bLst K A) as bs (M.need (as.length + bs.length ≤ sizeLine) (M.ok (as ++ bs))) (ro (tL K A)) :=
  ⟨need_err, fun F H v w H0 Q x ⟨p, vs, e1, h1, q1⟩ ⟨p2, ws, e2, h2, q2⟩ c ec k => by
    obtain ⟨hc, rfl⟩ := need_ok ec
    subst e1 e2
    refine ⟨p, p2, vs, ws, rfl, rfl, h1, h2, by rw [← q1.len, ← q2.len]; exact hc, fun l hl => ?_⟩
    refine k (.ref l) F _ (Gr.newM x hl) ⟨[l], ⟨l, _, rfl, upd_same, q1.app q2, rfl⟩, fun y hy => ?_⟩
    cases List.mem_singleton.mp hy
    exact ⟨hl, x.free hl, NT.up⟩⟩
/-! ### a tuple as a row of one kind; loops over it; range with a step -/
def fTupL (K : PySem.W.Frag) {α : Type} (A : Rf α) : Rf (List α) := ⟨fun as F v => ∃ p vs, v = .ref p ∧ SqT K F p vs ∧ Pw (fun a x => A.r a F x) as vs, fun ⟨p, vs, e, h, q⟩ x => ⟨p, vs, e, sqT_xs x h, q.imp fun _ _ z => A.sx z x⟩⟩
section
variable {X : Cx} {W : WX} {G : Gm} {α : Type} {A : Rf α}
theorem fe_tl2 {e : Expr} {m : M (α × α)} (h : FE X W G e m (fTup X.K (tvc A (tv1 A))).up) : FE X W G e (m.bind fun a => M.ok [a.1, a.2]) (fTupL X.K A).up := fe_map (R' := (fTupL X.K A).up) (fun a : α × α => [a.1, a.2]) h fun a H0 F H v ⟨p, vs, ev, hs, x1, r1, q1, h1, x2, q2, h2⟩ => by
  subst q1 q2
  exact ⟨p, _, ev, hs, .cons h1 (.cons h2 .nil)⟩
theorem fv_tl2 {e : Expr} {a : α × α} (h : FE X W G e (M.ok a) (fTup X.K (tvc A (tv1 A))).up) : FE X W G e (M.ok [a.1, a.2]) (fTupL X.K A).up := fe_tl2 h
end
section
variable {ε : Type} {Eh : EH ε} {X : Cx} {W : WX} {tl tl' : List Nat} {ρ b s : Type} {R : ρ → V → Gm} {Gs : s → Gm} {α : Type} {A : Rf α}
theorem ps_forTL {e : Expr} {pos : Pos} {tg : Expr} {body : List Stmt} {G : Gm} {kk : Nat} {p : Er → ε} {m : M (List α)} {f : s → α → Mg ε (Fl ρ s s)} {G2 : s × α → Gm} {x0 : s} {Gb : b → Gm} (C : Cok X W kk) (he : FE X W G e m (fTupL X.K A).up) (hG : Imp G (Gs x0)) (hg : FG X tl' (fun z : s × α => Gs z.1) tg A (fun z => z.2) G2)
    (hb : ∀ x a, FS X W Eh tl' (G2 (x, a)) body (f x a) R Gs Gs) (ht : ∀ i ∈ tl', i ∈ tl := by decide) (hs : ∀ x, foldedSetIterable e X.env x = pure x := by intro _; rfl) (hp : Pay Eh G p := by exact pay0 rfl) : PS X (.For tg e body [] pos) (tFS X.K W Eh tl G (m.bindP p fun as => forL f as x0) R Gb Gs) :=
  PS.weak (ps_for C.hp C.calm (pi_tup he) hg (pss_ex fun z : s × α => hb z.1 z.2) hs) fun D σ0 H ⟨B, F, T⟩ => by
    refine ⟨B, tl, F, T.tellE hp fun as F1 H1 ea g v ⟨q, vs, ev, hq, pw⟩ => ?_⟩
    have T1 := T.rest ea (T.st.grow g)
    subst ev
    refine ⟨q, rfl, ⟨vs, sqT_ex g.fh hq⟩, ?_⟩
    obtain ⟨Xl, hX, st1⟩ := (hG _ _ _ _ _ T1.st).rebase (tl' := tl')
    have lc1 := T1.lc hX ht
    have base : ∀ F' H', GrX Xl F1 H1 F' H' → SqT X.K H' q vs ∧ Pw (fun a v => A.r a F' v) as vs := fun F' H' g' => ⟨sqT_ex g'.fh (sqT_ex g'.f hq), pw.imp fun _ _ h => A.st h g'.f⟩
    have hlen : as.length = vs.length := pw.len
    refine for_tup (K := X.K) (a := q) (xs := vs) (tb := fun D σ H => ∃ z : s × α, tFS X.K W Eh tl' (G2 z) (f z.1 z.2) R Gs Gs D σ H) (fun i σ H => ∃ F x, Stt ⟨B.Hd, Xl, F1, H1, σ0⟩ tl' (Gs x) F H σ ∧ Lc X.K W Eh tl' (forL (b := b) f (as.drop i) x) R Gs D ⟨B.Hd, Xl, F1, H1, σ0⟩) ?_ ?_ ?_ ?_
    · exact ⟨F1, x0, st1, lc1⟩
    · rintro i σ H _ ⟨F, x, st, _⟩
      exact (base F H st.g).1
    · rintro i v σ H hi ⟨F, x, st, lc⟩
      obtain ⟨a, ha, hv⟩ := (base F H st.g).2.getV hi
      exact for_turn ha (fun y σ' F' H' st' lc' => ⟨F', y, st', lc'⟩) st lc hv
    · rintro σ H ⟨F, x, st, lc⟩
      rw [← hlen, List.drop_length] at lc
      exact lc.nx x rfl σ F H st
/-- for x in range(a, b, c), the step written; n turns, to be shown by the mirror -/
theorem ps_forR3 {ic : Int} {e1 e2 e3 : Expr} {p cpos pos : Pos} {tg : Expr} {body : List Stmt} {G : Gm} {kk : Nat} {pp : Er → ε} {m1 m2 : M Int} {f : s → Int → Mg ε (Fl ρ s s)} {G2 : s × Int → Gm} {x0 : s} {Gb : b → Gm} (C : Cok X W kk) (hm : X.mg "range" = none) (he1 : FE X W G e1 m1 fInt.up) (he2 : FE X W G e2 m2 fInt.up) (he3 : FE X W G e3 (M.ok ic) fInt.up) (hc : ic ≠ 0 ∧ ic.natAbs < 1073741824)
    (hG : Imp G (Gs x0)) (hg : FG X tl' (fun z : s × Int => Gs z.1) tg fInt (fun z => z.2) G2) (hb : ∀ x a, FS X W Eh tl' (G2 (x, a)) body (f x a) R Gs Gs) (ht : ∀ i ∈ tl', i ∈ tl := by decide) (hgl : Gl X "range" := by rfl)
    (hst1 : starEach [e1, e2, e3] X.env = (false, eval e1 X.env) :: starEach [e2, e3] X.env := by rfl) (hst2 : starEach [e2, e3] X.env = (false, eval e2 X.env) :: starEach [e3] X.env := by rfl) (hst3 : starEach [e3] X.env = (false, eval e3 X.env) :: starEach [] X.env := by rfl) (hpl : (backTo cpos (starEach [e2, e3] X.env)).any (·.1) = false := by rfl)
    (hs : ∀ x, foldedSetIterable (.Call (.Name "range" p) [e1, e2, e3] [] cpos) X.env x = pure x := by intro _; rfl) (hp : Pay Eh G pp := by exact pay0 rfl) :
    PS X (.For tg (.Call (.Name "range" p) [e1, e2, e3] [] cpos) body [] pos) (tFS X.K W Eh tl G (m1.bindP pp fun a => m2.bindP pp fun b' => M.need (Builtin.Range.small a b' ic = true) (forL f (rng3L a ic (Builtin.Range.rangeSize a b' ic).toNat) x0)) R Gb Gs) :=
  PS.weak (ps_for C.hp C.calm (pi_range3 hgl hm (pa_cons he1 (pa_cons he2 (pa_cons he3 pa_nil hst3) hst2) hst1) hst1 hpl) hg (pss_ex fun z : s × Int => hb z.1 z.2) hs) fun D σ0 H ⟨B, F, T⟩ => by
    refine ⟨B, tl, F, T.tellE hp fun ia F1 H1 ea g v ev => ?_⟩
    have T1 := T.rest ea (T.st.grow g)
    refine ⟨B, tl, F1, T1.tellE hp fun ib F2 H2 ea2 g2 v2 ev2 => ?_⟩
    have T2 := T1.rest ea2 (T1.st.grow g2)
    have T2' : ToldS X.K W Eh tl G ((M.ok ic : M Int).bindP pp fun _ => M.need (Builtin.Range.small ia ib ic = true) (forL f (rng3L ia ic (Builtin.Range.rangeSize ia ib ic).toNat) x0)) R Gb Gs D σ0 H2 B F2 := T2
    refine ⟨B, tl, F2, T2'.tellE hp fun n3 F3 H3 ea3 g3 v3 ev3 => ?_⟩
    have T3 := T2'.rest ea3 (T2.st.grow g3)
    cases M.ok_inj ea3
    obtain ⟨hsm, e4⟩ := M.need_ne T3.ne
    rw [e4] at T3
    have ev : v = V.int ia := ev
    have ev2 : v2 = V.int ib := ev2
    have ev3 : v3 = V.int ic := ev3
    refine ⟨ia, ib, ic, (Builtin.Range.rangeSize ia ib ic).toNat, by rw [ev, ev2, ev3], ⟨hc.1, hc.2, hsm, ?_⟩, ?_⟩
    · have : 0 ≤ Builtin.Range.rangeSize ia ib ic := by
        unfold Builtin.Range.rangeSize
        split
        · split
          · have := Int.ediv_nonneg (a := ib - ia - 1) (b := ic) (by omega) (by omega)
            omega
          · omega
        · split
          · have := Int.ediv_nonneg (a := ia - ib - 1) (b := -ic) (by omega) (by omega)
            omega
          · omega
      omega
    obtain ⟨Xl, hX, st1⟩ := (hG _ _ _ _ _ T3.st).rebase (tl' := tl')
    have lc1 := T3.lc hX ht
    refine for_rangeC (tb := fun D σ H => ∃ z : s × Int, tFS X.K W Eh tl' (G2 z) (f z.1 z.2) R Gs Gs D σ H) (fun i σ H => ∃ F x, Stt ⟨B.Hd, Xl, F3, H3, σ0⟩ tl' (Gs x) F H σ ∧ Lc X.K W Eh tl' (forL (b := b) f ((rng3L ia ic (Builtin.Range.rangeSize ia ib ic).toNat).drop i) x) R Gs D ⟨B.Hd, Xl, F3, H3, σ0⟩) ?_ ?_ ?_
    · exact ⟨F3, x0, st1, lc1⟩
    · rintro i σ H hi ⟨F, x, st, lc⟩
      exact for_turn (a := ia + (i : Int) * ic) (by unfold rng3L; rw [List.getElem?_map, List.getElem?_range hi]; rfl) (fun y σ' F' H' st' lc' => ⟨F', y, st', lc'⟩) st lc rfl
    · rintro σ H ⟨F, x, st, lc⟩
      have e : (rng3L ia ic (Builtin.Range.rangeSize ia ib ic).toNat).drop (Builtin.Range.rangeSize ia ib ic).toNat = [] := List.drop_eq_nil_of_le (by unfold rng3L; simp)
      rw [e] at lc
      exact lc.nx x rfl σ F H st
end
end LK
namespace LK
open PySem L2
/-! ### some places are told anew -/
def setK : Gm → List Nat → List (V × Sl) → Gm
  | G, k :: ks, c :: cs => setK (G.set k (some (pn c.1 c.2))) ks cs
  | G, _, _ => G
def pos : List Nat → Nat → Option Nat
  | [], _ => none
  | k :: ks, i => if i = k then some 0 else (pos ks i).map (· + 1)
theorem pos_cons {k i : Nat} {ks : List Nat} : pos (k :: ks) i = if i = k then some 0 else (pos ks i).map (· + 1) := rfl
theorem pos_some : ∀ {ks : List Nat} {i j : Nat}, pos ks i = some j → ks[j]? = some i
  | [], i, j, h => by cases h
  | k :: ks, i, j, h => by
    rw [pos_cons] at h
    split at h
    · cases h
      rename_i e
      simp [e]
    · cases q : pos ks i with
      | none => rw [q] at h; cases h
      | some j' =>
        rw [q] at h
        cases h
        simpa using pos_some q
theorem pos_none : ∀ {ks : List Nat} {i : Nat}, pos ks i = none → i ∉ ks
  | [], i, h => by simp
  | k :: ks, i, h => by
    rw [pos_cons] at h
    split at h
    · cases h
    · rename_i e
      cases q : pos ks i with
      | none =>
        intro m
        rcases List.mem_cons.mp m with z | z
        · exact e z
        · exact pos_none q z
      | some j' => rw [q] at h; cases h
theorem pos_inj {ks : List Nat} {i i' j : Nat} (h : pos ks i = some j) (h' : pos ks i' = some j) : i = i' := by
  have a := pos_some h
  have b := pos_some h'
  rw [a] at b
  exact Option.some.inj b
theorem setK_len : ∀ {ks : List Nat} {G : Gm} {cs : List (V × Sl)}, (setK G ks cs).length = G.length
  | [], G, cs => by cases cs <;> rfl
  | k :: ks, G, [] => rfl
  | k :: ks, G, c :: cs => by
    show (setK _ ks cs).length = _
    rw [setK_len, List.length_set]
theorem setK_get : ∀ {ks : List Nat} {G : Gm} {cs : List (V × Sl)} {i : Nat}, ks.length = cs.length → ks.Nodup → (∀ k ∈ ks, k < G.length) → (setK G ks cs)[i]? = match pos ks i with
    | some j => (cs[j]?).map fun c => some (pn c.1 c.2)
    | none => G[i]?
  | [], G, cs, i, _, _, _ => by cases cs <;> rfl
  | k :: ks, G, [], i, h, _, _ => by simp at h
  | k :: ks, G, c :: cs, i, h, nd, hk => by
    show (setK _ ks cs)[i]? = _
    rw [setK_get (by simpa using h) (List.nodup_cons.mp nd).2 (fun q hq => by rw [List.length_set]; exact hk q (List.mem_cons_of_mem _ hq))]
    rw [pos_cons]
    by_cases e : i = k
    · subst e
      have hn : pos ks i = none := by
        cases q : pos ks i with
        | none => rfl
        | some j => exact absurd (List.mem_of_getElem? (pos_some q)) (List.nodup_cons.mp nd).1
      rw [hn, if_pos rfl]
      show (G.set i (some (pn c.1 c.2)))[i]? = some (some (pn c.1 c.2))
      rw [List.getElem?_set_self (hk i List.mem_cons_self)]
    · rw [if_neg e]
      cases q : pos ks i with
      | none =>
        show (G.set k (some (pn c.1 c.2)))[i]? = G[i]?
        rw [List.getElem?_set_ne (Ne.symm e)]
      | some j => simp
/-- where the things behind a call are put: where their values stand, or beyond the slots -/
inductive KOk (G : Gm) (n : Nat) : List Nat → List (V × Sl) → Prop where
  | nil : KOk G n [] []
  | pin {k : Nat} {ks : List Nat} {u : V} {T s : Sl} {cs : List (V × Sl)} (h : G[k]? = some (some (pn u T))) (t : KOk G n ks cs) : KOk G n (k :: ks) ((u, s) :: cs)
  | new {k : Nat} {ks : List Nat} {u : V} {s : Sl} {cs : List (V × Sl)} (h : n ≤ k) (h2 : k < G.length) (t : KOk G n ks cs) : KOk G n (k :: ks) ((u, s) :: cs)
theorem KOk.len {G : Gm} {n : Nat} : ∀ {ks : List Nat} {cs : List (V × Sl)}, KOk G n ks cs → ks.length = cs.length
  | _, _, .nil => rfl
  | _, _, .pin _ t => congrArg (· + 1) t.len
  | _, _, .new _ _ t => congrArg (· + 1) t.len
theorem KOk.lt {G : Gm} {n : Nat} : ∀ {ks : List Nat} {cs : List (V × Sl)}, KOk G n ks cs → ∀ k ∈ ks, k < G.length
  | _, _, .nil, k, h => by simp at h
  | _, _, .pin h t, k, m => by
    rcases List.mem_cons.mp m with z | z
    · subst z
      exact (List.getElem?_eq_some_iff.mp h).1
    · exact t.lt k z
  | _, _, .new _ h t, k, m => by
    rcases List.mem_cons.mp m with z | z
    · subst z
      exact h
    · exact t.lt k z
theorem KOk.val {G : Gm} {n : Nat} : ∀ {ks : List Nat} {cs : List (V × Sl)}, KOk G n ks cs → ∀ {j k : Nat} {u : V} {s : Sl}, ks[j]? = some k → cs[j]? = some (u, s) → (∃ T, G[k]? = some (some (pn u T))) ∨ n ≤ k
  | _, _, .nil, j, k, u, s, h, _ => by simp at h
  | _, _, .pin h t, 0, k, u, s, h1, h2 => by
    simp at h1 h2
    obtain ⟨rfl, rfl⟩ := h2
    subst h1
    exact .inl ⟨_, h⟩
  | _, _, .new h _ t, 0, k, u, s, h1, h2 => by
    simp at h1 h2
    subst h1
    exact .inr h
  | _, _, .pin h t, j + 1, k, u, s, h1, h2 => t.val (j := j) (by simpa using h1) (by simpa using h2)
  | _, _, .new h _ t, j + 1, k, u, s, h1, h2 => t.val (j := j) (by simpa using h1) (by simpa using h2)
section
variable {B : Bs} {tl : List Nat} {G : Gm} {F H F' H' : Hp} {σ : St}
/-- behind a call that changes what stands at the places kx -/
theorem Stt.mutK {ms ms' : Nat → List Addr} {kx kt : List Nat} {cs : List (V × Sl)} (st : Stt B tl G F H σ) (z : SlOk B G F H σ ms) (hx : ∀ k ∈ kx, ∃ t, G[k]? = some (some t) ∧ t.own = true) (hxt : ∀ k ∈ kx, k ∈ kt) (ok : KOk G σ.length kt cs) (nd : kt.Nodup)
    (g : GrX (kx.flatMap ms) F H F' H') (c : CellsOk (hid (kx.flatMap ms) H) F' H' cs ms') : Stt B tl (setK G kt cs) F' H' σ := by
  have hX : ∀ x ∈ kx.flatMap ms, B.H0 x = none ∨ x ∈ B.X0 := fun x hm => by
    obtain ⟨k, hk, h⟩ := List.mem_flatMap.mp hm
    obtain ⟨t, e, o⟩ := hx k hk
    exact z.own k t e o x h
  have get : ∀ i, (setK G kt cs)[i]? = match pos kt i with
    | some j => (cs[j]?).map fun c => some (pn c.1 c.2)
    | none => G[i]? := fun i => setK_get ok.len nd ok.lt
  let nm : Nat → List Addr := fun i => match pos kt i with
    | some j => ms' j
    | none => ms i
  have old : ∀ i, pos kt i = none → i ∉ kx := fun i h m => pos_none h (hxt i m)
  have sepX : ∀ i, pos kt i = none → ∀ x ∈ ms i, x ∉ kx.flatMap ms := fun i hi x hm hn => by
    obtain ⟨k, hk, h⟩ := List.mem_flatMap.mp hn
    obtain ⟨t, e, o⟩ := hx k hk
    exact z.sep k t e o x h i (fun q => old i hi (by rw [q]; exact hk)) hm
  refine ⟨st.g.into g hX, st.bh, st.fr, st.ls, by rw [setK_len]; exact st.len, nm, ⟨fun i s e => ?_, fun i e => ?_, fun i x hm => ?_, fun i s e o x hm => ?_, fun i s e o x hm i' hi hm' => ?_⟩⟩
  · rw [get i] at e
    show ∃ v, _ ∧ s.r B.Hd F' H' v (match pos kt i with
      | some j => ms' j
      | none => ms i)
    cases q : pos kt i with
    | none =>
      rw [q] at e
      obtain ⟨v, h1, h2⟩ := z.has i s e
      exact ⟨v, h1, s.st h2 (XS.refl _) g.f.xs fun x hm o ho => g.h x o (sepX i q x hm) ho⟩
    | some j =>
      rw [q] at e
      have e : (cs[j]?).map (fun c => some (pn c.1 c.2)) = some (some s) := e
      cases qc : cs[j]? with
      | none =>
        rw [qc] at e
        cases e
      | some cc =>
        rw [qc] at e
        cases e
        obtain ⟨u, s'⟩ := cc
        refine ⟨u, fun hl => ?_, rfl, ?_⟩
        · rcases ok.val (pos_some q) qc with ⟨T, hT⟩ | hn
          · obtain ⟨v, h1, rfl, _⟩ := z.has i _ hT
            exact h1 hl
          · omega
        · exact c.has j u s' qc B.Hd
  · show (match pos kt i with
      | some j => ms' j
      | none => ms i) = []
    cases q : pos kt i with
    | none => exact z.non i fun s hs => e s (by rw [get i, q]; exact hs)
    | some j =>
      cases qc : cs[j]? with
      | none => exact c.non j (List.getElem?_eq_none_iff.mp qc)
      | some cc => exact absurd (by rw [get i, q]; show (cs[j]?).map _ = _; rw [qc]; rfl) (e (pn cc.1 cc.2))
  · have hm : x ∈ (match pos kt i with
      | some j => ms' j
      | none => ms i) := hm
    cases q : pos kt i with
    | none =>
      rw [q] at hm
      obtain ⟨h1, h2⟩ := z.mem i x hm
      exact ⟨g.no x h1 h2, g.nt x h2⟩
    | some j =>
      rw [q] at hm
      exact (c.mem j x hm).2
  · have hm : x ∈ (match pos kt i with
      | some j => ms' j
      | none => ms i) := hm
    cases q : pos kt i with
    | none =>
      rw [q] at hm
      rw [get i, q] at e
      exact z.own i s e o x hm
    | some j =>
      rw [q] at hm
      rcases hid_none (c.mem j x hm).1 with h | h
      · exact hX x h
      · exact .inl (Kn.free st.g.st h)
  · have hm : x ∈ (match pos kt i with
      | some j => ms' j
      | none => ms i) := hm
    have hm' : x ∈ (match pos kt i' with
      | some j => ms' j
      | none => ms i') := hm'
    cases q : pos kt i with
    | none =>
      rw [q] at hm
      rw [get i, q] at e
      cases q' : pos kt i' with
      | none =>
        rw [q'] at hm'
        exact z.sep i s e o x hm i' hi hm'
      | some j' =>
        rw [q'] at hm'
        rcases hid_none (c.mem j' x hm').1 with h | h
        · exact sepX i q x hm h
        · exact (z.mem i x hm).2.ne h
    | some j =>
      rw [q] at hm
      cases q' : pos kt i' with
      | none =>
        rw [q'] at hm'
        rcases hid_none (c.mem j x hm).1 with h | h
        · exact sepX i' q' x hm' h
        · exact (z.mem i' x hm').2.ne h
      | some j' =>
        rw [q'] at hm'
        exact c.sep j x hm j' (fun z => hi (by subst z; exact pos_inj q' q)) hm'
end
/-! ### arguments of a call that changes things -/
/-- one argument: ks the places that the call changes, k? the one that is handed on here -/
structure Ag1 (G : Gm) (ks : List Nat) {α : Type} (R : Rl α) (s : α → Sl) (k? : Option Nat) : Prop where
  run : ∀ a B tl H0 F H σ ms v, Stt B tl G F H σ → SlOk B G F H σ ms → (∀ k x, x ∈ ms k → H0 x ≠ none) → R.r a H0 F H v → ∀ Y, (∀ x o, H x = some o → (∀ k ∈ ks, x ∉ ms k) → Y x = some o) → (s a).r Y F H v (match k? with
    | some k => ms k
    | none => [])
  own : ∀ a, match k? with
    | some k => k ∈ ks
    | none => (s a).own = false
structure Ags (G : Gm) (ks : List Nat) {α : Type} (A : Ra α) (par : α → List Sl) (κ : List (Option Nat)) : Prop where
  len : ∀ a H0 F H vs, A.r a H0 F H vs → (par a).length = vs.length ∧ κ.length = vs.length
  run : ∀ a B tl H0 F H σ ms vs, Stt B tl G F H σ → SlOk B G F H σ ms → (∀ k x, x ∈ ms k → H0 x ≠ none) → A.r a H0 F H vs → ∀ Y, (∀ x o, H x = some o → (∀ k ∈ ks, x ∉ ms k) → Y x = some o) →
    ∀ (i : Nat) (s : Sl), (par a)[i]? = some s → ∃ v, vs[i]? = some v ∧ s.r Y F H v (match κ[i]? with
      | some (some k) => ms k
      | _ => [])
  own : ∀ a (i : Nat) (s : Sl), (par a)[i]? = some s → match κ[i]? with
    | some (some k) => k ∈ ks
    | _ => s.own = false
theorem ag_nil {G : Gm} {ks : List Nat} : Ags G ks ra0 (fun _ => []) [] := ⟨fun a H0 F H vs h => by cases h; exact ⟨rfl, rfl⟩, fun a B tl H0 F H σ ms vs _ _ _ _ Y _ i s e => by simp at e, fun a i s e => by simp at e⟩
theorem ag_cons {G : Gm} {ks : List Nat} {α β : Type} {R : Rl α} {s : α → Sl} {k? : Option Nat} {T : Ra β} {par : β → List Sl} {κ : List (Option Nat)} (h : Ag1 G ks R s k?) (t : Ags G ks T par κ) : Ags G ks (rac R T) (fun a => s a.1 :: par a.2) (k? :: κ) :=
  ⟨fun a H0 F H vs ⟨v, r, e, h1, h2⟩ => by
    subst e
    obtain ⟨l1, l2⟩ := t.len _ _ _ _ _ h2
    exact ⟨congrArg (· + 1) l1, congrArg (· + 1) l2⟩, fun a B tl H0 F H σ ms vs st z kn ⟨v, r, e, h1, h2⟩ Y hY i s' e' => by
    subst e
    cases i with
    | zero =>
      simp at e'
      subst e'
      refine ⟨v, rfl, ?_⟩
      have := h.run a.1 B tl H0 F H σ ms v st z kn h1 Y hY
      cases k? with
      | none => exact this
      | some k => exact this
    | succ i => exact t.run a.2 B tl H0 F H σ ms r st z kn h2 Y hY i s' (by simpa using e'), fun a i s' e' => by
    cases i with
    | zero =>
      simp at e'
      subst e'
      have := h.own a.1
      cases k? with
      | none => exact this
      | some k => exact this
    | succ i => exact t.own a.2 i s' (by simpa using e')⟩
section
variable {G : Gm} {ks : List Nat} {α : Type}
theorem ag_v {A : Rf α} : Ag1 G ks A.up (sv A) none := ⟨fun a B tl H0 F H σ ms v st z kn h Y hY => ⟨h, rfl⟩, fun _ => rfl⟩
/-- the thing at place k, to be changed -/
theorem ag_p {q : V} {T : Sl} (k : Nat) (hG : G[k]? = some (some (pn q T))) (hy : ∀ Y Y' F H v ms, T.r Y F H v ms → T.r Y' F H v ms := by intro _ _ _ _ _ _ h; exact h) (hk : k ∈ ks := by decide) : Ag1 G ks (rV q) (fun _ => pn q T) (some k) := ⟨fun a B tl H0 F H σ ms v st z kn h Y hY => by
  obtain ⟨u, _, e, hr⟩ := z.has k _ hG
  have h : v = q := h
  subst e h
  exact ⟨rfl, hy _ _ _ _ _ _ hr⟩, fun _ => hk⟩
/-- a thing at place j, lent -/
theorem ag_l {q : V} {T : Th α} {a : α} (j : Nat) (hG : G[j]? = some (some (pn q (ob T a)))) (hj : j ∉ ks := by decide) : Ag1 G ks (rV q) (fun _ => bw T a) none := ⟨fun _ B tl H0 F H σ ms v st z kn h Y hY => by
  obtain ⟨u, _, e, hr⟩ := z.has j _ hG
  have h : v = q := h
  subst e h
  have hsep : ∀ x ∈ ms j, ∀ k ∈ ks, x ∉ ms k := fun x hx k hk => z.sep j _ hG rfl x hx k (fun q => hj (by rw [← q]; exact hk))
  exact ⟨T.ord hr (fun x hx o ho => hY x o ho (hsep x hx)) (fun x o ho => hY x o (st.fh x o ho) fun k hk hm => by
    rw [(z.mem k x hm).1] at ho; cases ho), rfl⟩, fun _ => rfl⟩
/-- a borrowed thing, lent on -/
theorem ag_b {q : V} {T : Th α} {a : α} (j : Nat) (hG : G[j]? = some (some (pn q (bw T a)))) (ho : ∀ k ∈ ks, ∃ t, G[k]? = some (some t) ∧ t.own = true) : Ag1 G ks (rV q) (fun _ => bw T a) none := ⟨fun _ B tl H0 F H σ ms v st z kn h Y hY => by
  obtain ⟨u, _, e, hr, _⟩ := z.has j _ hG
  have h : v = q := h
  subst e h
  exact ⟨T.rst hr (XS.refl _) (Ex.xs fun x o hx => hY x o (st.yh x o hx) fun k hk hm => by
    obtain ⟨t, ht, o'⟩ := ho k hk
    rw [st.frs z ht o' x hm] at hx
    cases hx), rfl⟩, fun _ => rfl⟩
/-- a frozen thing, lent -/
theorem ag_z {T : Th α} : Ag1 G ks (fz T).up (bw T) none := ⟨fun a B tl H0 F H σ ms v st z kn h Y hY => ⟨T.rst h (XS.refl _) (Ex.xs fun x o ho => hY x o (st.fh x o ho) fun k hk hm => by
    rw [(z.mem k x hm).1] at ho; cases ho), rfl⟩, fun _ => rfl⟩
/-- a new thing, lent -/
theorem ag_n {T : Th α} : Ag1 G ks (ro T) (bw T) none := ⟨fun a B tl H0 F H σ ms v st z kn ⟨m, h, k⟩ Y hY => ⟨T.ord h (fun x hx o ho => hY x o ho fun j _ hm => kn j x hm (k x hx).1) (fun x o ho => hY x o (st.fh x o ho) fun k hk hm => by
    rw [(z.mem k x hm).1] at ho; cases ho), rfl⟩, fun _ => rfl⟩
end
/-- they stand where they are one's own -/
theorem own_all {G : Gm} : ∀ {ks : List Nat}, (ks.all fun k => match G[k]? with
    | some (some t) => t.own
    | _ => false) = true → ∀ k ∈ ks, ∃ t, G[k]? = some (some t) ∧ t.own = true := fun {ks} h k hk => by
  have := List.all_eq_true.mp h k hk
  split at this
  · rename_i t e
    exact ⟨t, e, this⟩
  · cases this
/-! ### calls that change things -/
section
variable {ε : Type} {Eh : EH ε} {X : Cx} {W : WX} {G : Gm} {tl : List Nat} {k : Nat}
theorem tX_call {K : PySem.W.Frag} {α ε1 ρ β : Type} {par : α → (Nat → V) → List Sl} {mir : α → Mg ε1 ρ} {res : ρ → Sl} {outs : ρ → (Nat → V) → List (V × Sl)} {cls : ε1 → Er} {outsE : ε1 → (Nat → V) → List (V × Sl)} {A : Ra β} {g : β → α} {w : Nat → V} {ks : List Nat} {κ : List (Option Nat)} 
    {B : Bs} {H0 H1 F1 : Hp} {σ : St} {a : β} {vs : List V} {ms : Nat → List Addr}
    (st : Stt B tl G F1 H1 σ) (z : SlOk B G F1 H1 σ ms) (rv : A.r a H0 F1 H1 vs) (kn : ∀ k x, x ∈ ms k → H0 x ≠ none)
    (hag : Ags G ks A (fun b => par (g b) w) κ) (ho : ∀ k ∈ ks, ∃ t, G[k]? = some (some t) ∧ t.own = true) (hκ : (κ.filterMap id).Nodup)
    (ne : mir (g a) ≠ none) (Qv : VK) 
    (hok : ∀ r, mir (g a) = M.ok r → ∀ v F' H' ms', GrX (ks.flatMap ms) F1 H1 F' H' → CellsOk (hid (ks.flatMap ms) H1) F' H' ((v, res r) :: outs r w) ms' → Qv v H')
    (her : ∀ e, mir (g a) = M.err e → ∀ F' H' ms', GrX (ks.flatMap ms) F1 H1 F' H' → CellsOk (hid (ks.flatMap ms) H1) F' H' (outsE e w) ms' → WE W σ (ec K (cls e)) none H') :
    spG K par mir res outs cls outsE vs H1 Qv (WE W σ) := by
  obtain ⟨l1, l2⟩ := hag.len _ _ _ _ _ rv
  have hY : ∀ x o, H1 x = some o → (∀ k ∈ ks, x ∉ ms k) → hid (ks.flatMap ms) H1 x = some o := fun x o hx h => by
    rw [hid_not fun hm => by
      obtain ⟨k, hk, hm⟩ := List.mem_flatMap.mp hm
      exact h k hk hm]
    exact hx
  have hrun := hag.run a B tl H0 F1 H1 σ ms vs st z kn rv (hid (ks.flatMap ms) H1) hY
  let mi : Nat → List Addr := fun i => match κ[i]? with
    | some (some k) => ms k
    | _ => []
  have mm : ∀ i x, x ∈ mi i → ∃ k, κ[i]? = some (some k) ∧ x ∈ ms k := fun i x hx => by
    have hx : x ∈ (match κ[i]? with
      | some (some k) => ms k
      | _ => []) := hx
    split at hx
    · exact ⟨_, by assumption, hx⟩
    · simp at hx
  refine ⟨g a, F1, w, ks.flatMap ms, mi, st.fh, ⟨l1, fun i s e => hrun i s e, fun i hi => ?_, fun i x hx => ?_, fun i s e o x hx => ?_, fun i s e o x hx j hj hm => ?_⟩, ne, hok, her⟩
  · show (match κ[i]? with
      | some (some k) => ms k
      | _ => []) = []
    rw [List.getElem?_eq_none (by omega)]
  · obtain ⟨k, _, h⟩ := mm i x hx
    exact z.mem k x h
  · obtain ⟨k, hk, h⟩ := mm i x hx
    have := hag.own a i s e
    rw [hk] at this
    exact List.mem_flatMap.mpr ⟨k, this, h⟩
  · obtain ⟨k1, hk, h⟩ := mm i x hx
    obtain ⟨k2, hk', h'⟩ := mm j x hm
    have o1 := hag.own a i s e
    rw [hk] at o1
    obtain ⟨t, e1, o2⟩ := ho k1 o1
    refine z.sep k1 t e1 o2 x h k2 (fun q => hj ?_) h'
    subst q
    -- two parameters, one place
    have key : ∀ (l : List (Option Nat)) (i j k : Nat), (l.filterMap id).Nodup → l[i]? = some (some k) → l[j]? = some (some k) → i = j := by
      intro l
      induction l with
      | nil => intro i j k _ h; simp at h
      | cons o l ih =>
        intro i j k nd h1 h2
        have memf : ∀ (j : Nat), l[j]? = some (some k) → k ∈ l.filterMap id := fun j h => List.mem_filterMap.mpr ⟨some k, List.mem_of_getElem? h, rfl⟩
        cases i with
        | zero =>
          cases j with
          | zero => rfl
          | succ j =>
            simp at h1
            subst h1
            rw [List.filterMap_cons] at nd
            exact absurd (memf j (by simpa using h2)) (List.nodup_cons.mp nd).1
        | succ i =>
          cases j with
          | zero =>
            simp at h2
            subst h2
            rw [List.filterMap_cons] at nd
            exact absurd (memf i (by simpa using h1)) (List.nodup_cons.mp nd).1
          | succ j =>
            have nd' : (l.filterMap id).Nodup := by
              rw [List.filterMap_cons] at nd
              cases o with
              | none => exact nd
              | some _ => exact (List.nodup_cons.mp nd).2
            rw [ih i j k nd' (by simpa using h1) (by simpa using h2)]
    exact key κ j i k2 hκ hk' hk
theorem ToldX.tellE {K : PySem.W.Frag} {α β : Type} {p : Er → ε} {ma : M α} {f : α → Mg ε β} {N : β → V → Gm} {PX : β → V → Hp → Hp → Prop} {σ : St} {H : Hp} {B : Bs} {F : Hp} {P : α → Hp → Hp → Prop} (T : ToldX K W Eh tl G (ma.bindP p f) N PX σ H B F) (hp : Pay Eh G p)
    (k : ∀ a F1 H1, ma = M.ok a → Gr F H F1 H1 → ToldX K W Eh tl G (f a) N PX σ H1 B F1 → P a F1 H1) : Told K W G ma P σ H B tl F := by
  refine ⟨T.st, ?_, ?_, ?_⟩
  · intro e
    exact T.ne (by rw [e]; rfl)
  · rintro a rfl F1 H1 g
    exact k a F1 H1 rfl g ⟨T.st.grow g, T.ne, fun b e v F' H' x st => T.ok b e v F' H' (g.f.trans x) st, T.er⟩
  · rintro e rfl F1 H1 g1
    have := T.er (p e) rfl F1 H1 (hp.i e _ _ _ _ _ (T.st.grow g1))
    rw [hp.c e] at this
    exact this
theorem CellsOk.tail {Y F H : Hp} {c : V × Sl} {cs : List (V × Sl)} {ms : Nat → List Addr} (h : CellsOk Y F H (c :: cs) ms) : CellsOk Y F H cs (fun i => ms (i + 1)) :=
  ⟨fun i v s e => h.has (i + 1) v s (by simpa using e), fun i hi => h.non (i + 1) (by simpa using hi), fun i x hx => h.mem (i + 1) x hx, fun i x hx j hj => h.sep (i + 1) x hx (j + 1) (fun q => hj (by omega))⟩
section
variable {α ε1 ρ β : Type} {par : α → (Nat → V) → List Sl} {mir : α → Mg ε1 ρ} {res : ρ → Sl} {outs : ρ → (Nat → V) → List (V × Sl)} {cls : ε1 → Er} {outsE : ε1 → (Nat → V) → List (V × Sl)} {m : M β} {g : β → α} {w : Nat → V} {ks kt kte : List Nat} {κ : List (Option Nat)} {p : Er → ε} {q : ε1 → ε}
/-- what is behind a call, for the caller -/
structure Beh (Eh : EH ε) (G : Gm) (n : Nat) (ks kt kte : List Nat) (κ : List (Option Nat)) (w : Nat → V) (outs : ρ → (Nat → V) → List (V × Sl)) (cls : ε1 → Er) (outsE : ε1 → (Nat → V) → List (V × Sl)) (q : ε1 → ε) : Prop where
  ho : ∀ k ∈ ks, ∃ t, G[k]? = some (some t) ∧ t.own = true
  hκ : (κ.filterMap id).Nodup
  mt : ∀ k ∈ ks, k ∈ kt
  ok : ∀ r, KOk G n kt (outs r w)
  nd : kt.Nodup
  me : ∀ k ∈ ks, k ∈ kte
  oke : ∀ e, KOk G n kte (outsE e w)
  nde : kte.Nodup
  hc : ∀ e, Eh.cls (q e) = cls e
  hi : ∀ e, Imp (setK G kte (outsE e w)) (Eh.G (q e))
theorem fx_run {Ar : Ra β} {A : ρ → Hp → V → Prop} {B : Bs} {F1 H0 H1 : Hp} {σ : St} {a : β} {vs : List V} {Q : VK} {ms : Nat → List Addr} (hl : σ.length = X.N.length)
    (hag : Ags G ks Ar (fun b => par (g b) w) κ) (hb : Beh Eh G X.N.length ks kt kte κ w outs cls outsE q) (hres : ∀ r Y F H v ms, (res r).r Y F H v ms → A r F v) (z : SlOk B G F1 H1 σ ms) (kn : ∀ k x, x ∈ ms k → H0 x ≠ none)
    (T : ToldX X.K W Eh tl G ((mir (g a)).bindP q fun r => M.ok r) (fun r _ => setK G kt (outs r w)) (fun r v F' H' => A r F' v → Q v H') σ H1 B F1) (rv : Ar.r a H0 F1 H1 vs) : spG X.K par mir res outs cls outsE vs H1 Q (WE W σ) := by
  refine tX_call T.st z rv kn hag hb.ho hb.hκ (fun e => T.ne (by rw [e]; rfl)) Q (fun r e v F' H' ms' gx c => ?_) (fun e er F' H' ms' gx c => ?_)
  · refine T.ok r (by rw [e]; rfl) v F' H' gx.f ?_ (hres r H' _ _ _ _ (c.has 0 _ _ rfl H'))
    exact T.st.mutK z hb.ho hb.mt (by rw [hl]; exact hb.ok r) hb.nd gx c.tail
  · have st2 := T.st.mutK z hb.ho hb.me (by rw [hl]; exact hb.oke e) hb.nde gx c
    have := T.er (q e) (by rw [er]; rfl) F' H' (hb.hi e _ _ _ _ _ st2)
    rw [hb.hc e] at this
    exact this
/-- f(..): frozen answer -/
theorem fx_call {j : Nat} {ps : List Str} {x : Str} {pp pos : Pos} {e : Expr} {es : List Expr} {A : ρ → Hp → V → Prop} {Ar : Ra β} (C : Cok X W k)
    (h : Cal X.prog X.w X.K X.mg X.base x ps j (spG X.K par mir res outs cls outsE)) (hj : j ≤ k) (ha : FA X W G (e :: es) m Ar) (hag : Ags G ks Ar (fun b => par (g b) w) κ) (hb : Beh Eh G X.N.length ks kt kte κ w outs cls outsE q) (hres : ∀ r Y F H v ms, (res r).r Y F H v ms → A r F v) (hp : Pay Eh G p)
    (hg : Gl X x := by rfl) (hdb : (x == ("__debug__" : Str)) = false := by decide) (he : starEach (e :: es) X.env = (false, eval e X.env) :: starEach es X.env := by rfl) (hpl : (backTo pos (starEach es X.env)).any (·.1) = false := by rfl) :
    FX X W Eh tl G (.Call (.Name x pp) (e :: es) [] pos) (m.bindP p fun a => (mir (g a)).bindP q fun r => M.ok r) A (fun r _ => setK G kt (outs r w)) := by
  obtain ⟨f, fd, hm, hk, hbi, Fk⟩ := h
  refine ⟨fun pins s σ H Q I ⟨B, F, T⟩ => (pe_callS (E := WE W) Fk (C.hr.mono hj) hg hm hk hbi (fun σ => passAt C.tk σ) ha hdb he hpl).run pins s σ H Q I ?_⟩
  obtain ⟨ms, z⟩ := T.st.sl
  exact ⟨B, tl, F, T.tellE hp fun a F1 H1 ea g1 T1 vs rv => fx_run I.len hag hb hres (z.grow g1) (fun k x hx => (z.mem k x hx).2.ne) T1 rv⟩
/-- f(..): the answer one's own, put at the place g0 beyond the slots -/
theorem fx_runO {Ar : Ra β} {g0 : Nat} {B : Bs} {F1 H0 H1 : Hp} {σ : St} {a : β} {vs : List V} {Q : VK} {ms : Nat → List Addr} (hl : σ.length = X.N.length)
    (hag : Ags G ks Ar (fun b => par (g b) w) κ) (hb : Beh Eh G X.N.length ks kt kte κ w outs cls outsE q) (hg0 : X.N.length ≤ g0 ∧ g0 < G.length ∧ g0 ∉ kt) (z : SlOk B G F1 H1 σ ms) (kn : ∀ k x, x ∈ ms k → H0 x ≠ none)
    (T : ToldX X.K W Eh tl G ((mir (g a)).bindP q fun r => M.ok r) (fun r v => setK G (g0 :: kt) ((v, res r) :: outs r w)) (fun r v F' H' => True → Q v H') σ H1 B F1) (rv : Ar.r a H0 F1 H1 vs) : spG X.K par mir res outs cls outsE vs H1 Q (WE W σ) := by
  refine tX_call T.st z rv kn hag hb.ho hb.hκ (fun e => T.ne (by rw [e]; rfl)) Q (fun r e v F' H' ms' gx c => ?_) (fun e er F' H' ms' gx c => ?_)
  · refine T.ok r (by rw [e]; rfl) v F' H' gx.f ?_ trivial
    exact T.st.mutK z hb.ho (fun k hk => List.mem_cons_of_mem _ (hb.mt k hk)) (.new (by rw [hl]; exact hg0.1) hg0.2.1 (by rw [hl]; exact hb.ok r)) (List.nodup_cons.mpr ⟨hg0.2.2, hb.nd⟩) gx c
  · have st2 := T.st.mutK z hb.ho hb.me (by rw [hl]; exact hb.oke e) hb.nde gx c
    have := T.er (q e) (by rw [er]; rfl) F' H' (hb.hi e _ _ _ _ _ st2)
    rw [hb.hc e] at this
    exact this
theorem fx_callO {j g0 : Nat} {ps : List Str} {x : Str} {pp pos : Pos} {e : Expr} {es : List Expr} {Ar : Ra β} (C : Cok X W k)
    (h : Cal X.prog X.w X.K X.mg X.base x ps j (spG X.K par mir res outs cls outsE)) (hj : j ≤ k) (ha : FA X W G (e :: es) m Ar) (hag : Ags G ks Ar (fun b => par (g b) w) κ) (hb : Beh Eh G X.N.length ks kt kte κ w outs cls outsE q) (hg0 : X.N.length ≤ g0 ∧ g0 < G.length ∧ g0 ∉ kt) (hp : Pay Eh G p)
    (hg : Gl X x := by rfl) (hdb : (x == ("__debug__" : Str)) = false := by decide) (he : starEach (e :: es) X.env = (false, eval e X.env) :: starEach es X.env := by rfl) (hpl : (backTo pos (starEach es X.env)).any (·.1) = false := by rfl) :
    FX X W Eh tl G (.Call (.Name x pp) (e :: es) [] pos) (m.bindP p fun a => (mir (g a)).bindP q fun r => M.ok r) (fun _ _ _ => True) (fun r v => setK G (g0 :: kt) ((v, res r) :: outs r w)) := by
  obtain ⟨f, fd, hm, hk, hbi, Fk⟩ := h
  refine ⟨fun pins s σ H Q I ⟨B, F, T⟩ => (pe_callS (E := WE W) Fk (C.hr.mono hj) hg hm hk hbi (fun σ => passAt C.tk σ) ha hdb he hpl).run pins s σ H Q I ?_⟩
  obtain ⟨ms, z⟩ := T.st.sl
  exact ⟨B, tl, F, T.tellE hp fun a F1 H1 ea g1 T1 vs rv => fx_runO I.len hag hb hg0 (z.grow g1) (fun k x hx => (z.mem k x hx).2.ne) T1 rv⟩
end
end
end LK
namespace LK
open PySem L2
/-! ### a dict is locked while a loop walks it -/
def lkH (q : Addr) (od : Obj) (u : HO) (F : Hp) : Hp := fun a => if a = q then (match F q with
  | some _ => some (.frz od u)
  | none => none) else F a
def ulH (q : Addr) (u : HO) (F : Hp) : Hp := fun a => if a = q then (match F q with
  | some _ => some u
  | none => none) else F a
section
variable {q : Addr} {od : Obj} {u : HO} {F H : Hp}
theorem lk_ne {a : Addr} (h : a ≠ q) : lkH q od u F a = F a := if_neg h
theorem lk_at : lkH q od u F q = match F q with
  | some _ => some (.frz od u)
  | none => none := if_pos rfl
theorem ul_ne {a : Addr} (h : a ≠ q) : ulH q u F a = F a := if_neg h
theorem ul_at : ulH q u F q = match F q with
  | some _ => some u
  | none => none := if_pos rfl
theorem lk_none {a : Addr} (h : F a = none) : lkH q od u F a = none := by
  by_cases e : a = q
  · subst e; rw [lk_at, h]
  · rw [lk_ne e, h]
theorem lk_some {a : Addr} (h : F a ≠ none) : lkH q od u F a ≠ none := by
  by_cases e : a = q
  · subst e
    rw [lk_at]
    cases w : F a with
    | none => exact absurd w h
    | some o => exact fun z => nomatch z
  · rw [lk_ne e]; exact h
theorem lk_nt {a : Addr} (h : NT F a) : NT (lkH q od u F) a := by
  by_cases e : a = q
  · subst e
    obtain ⟨o, h1, h2⟩ := h
    exact ⟨.frz od u, by rw [lk_at, h1], fun _ z => nomatch z⟩
  · obtain ⟨o, h1, h2⟩ := h
    exact ⟨o, by rw [lk_ne e]; exact h1, h2⟩
theorem lk_ex (x : Ex F H) : Ex (lkH q od u F) (lkH q od u H) := fun a o h => by
  by_cases e : a = q
  · subst e
    rw [lk_at] at h ⊢
    cases w : F a with
    | none => rw [w] at h; cases h
    | some o' => rw [w] at h; rw [x a o' w]; exact h
  · rw [lk_ne e] at h ⊢
    exact x a o h
theorem lk_upd (h : H q ≠ none) : lkH q od u H = upd H q (.frz od u) := by
  funext a
  by_cases e : a = q
  · subst e
    rw [lk_at, upd_same]
    cases w : H a with
    | none => exact absurd w h
    | some o => rfl
  · rw [lk_ne e, upd_ne e]
theorem lk_xs (hu : Dly u) (h : ∀ o, F q = some o → o = u) : XS F (lkH q od u F) := fun a o ha => by
  by_cases e : a = q
  · subst e
    cases h o ha
    exact .inr ⟨_, hu, .inl rfl, .inr ⟨od, by rw [lk_at, ha]⟩⟩
  · exact .inl (by rw [lk_ne e]; exact ha)
theorem ul_xs (hu : Dly u) (h : ∀ o, F q = some o → o = .frz od u) : XS F (ulH q u F) := fun a o ha => by
  by_cases e : a = q
  · subst e
    cases h o ha
    exact .inr ⟨_, hu, .inr ⟨od, rfl⟩, .inl (by rw [ul_at, ha])⟩
  · exact .inl (by rw [ul_ne e]; exact ha)
theorem lk_back (hu : Dly u) (h : ∀ o, F q = some o → o = u) : XS (lkH q od u F) F := fun a o ha => by
  by_cases e : a = q
  · subst e
    rw [lk_at] at ha
    cases w : F a with
    | none => rw [w] at ha; cases ha
    | some o' =>
      rw [w] at ha
      cases ha
      cases h o' w
      exact .inr ⟨_, hu, .inr ⟨od, rfl⟩, .inl rfl⟩
  · exact .inl (by rw [lk_ne e] at ha; exact ha)
end
section
variable {B : Bs} {tl tl' : List Nat} {G G' : Gm} {F H F' H' : Hp} {σ σ' : St} {q : Addr} {od : Obj} {u : HO}
theorem Stt.lock {ms : Nat → List Addr} (st : Stt B tl G F H σ) (z : SlOk B G F H σ ms) (hu : Dly u) (hq : H q = some u) (hn : ∀ i, q ∉ ms i) : Stt ⟨lkH q od u B.Hd, ownAt G ms, lkH q od u F, lkH q od u H, σ⟩ tl' G (lkH q od u F) (lkH q od u H) σ := by
  have hF : ∀ o, F q = some o → o = u := fun o h => by
    have := st.fh q o h
    rw [hq] at this
    exact (Option.some.inj this).symm
  have hY : ∀ o, B.Hd q = some o → o = u := fun o h => by
    have := st.yh q o h
    rw [hq] at this
    exact (Option.some.inj this).symm
  refine ⟨(Gr.refl (lk_ex st.fh)).x _, fun a o ha => ⟨lk_ex st.yh a o ha, fun hx => ?_⟩, fun _ _ => rfl, rfl, st.len, ms, ⟨fun i s e => ?_, z.non, fun i x hx => ?_, fun j t e ho x hx => .inr (ownAt_mem e ho hx), z.sep⟩⟩
  · obtain ⟨i, sl, e, o', h⟩ := mem_ownAt hx
    have := st.frs z e o' a h
    have ha : lkH q od u B.Hd a = some o := ha
    rw [lk_none this] at ha
    cases ha
  · obtain ⟨v, h1, h2⟩ := z.has i s e
    exact ⟨v, h1, s.st h2 (lk_xs hu hY) (lk_xs hu hF) fun x hx o ho => by
      rw [lk_ne (fun w => hn i (by rw [← w]; exact hx))]; exact ho⟩
  · obtain ⟨h1, h2⟩ := z.mem i x hx
    exact ⟨lk_none h1, lk_nt h2⟩
theorem Stt.unlock {ms : Nat → List Addr} (st : Stt B tl G F H σ) (z : SlOk B G F H σ ms) (hu : Dly u) (hq : H q = some u) (hn : ∀ i, q ∉ ms i) (ht : ∀ i ∈ tl', i ∈ tl) (st' : Stt ⟨lkH q od u B.Hd, ownAt G ms, lkH q od u F, lkH q od u H, σ⟩ tl' G' F' H' σ') :
    H' q = some (.frz od u) ∧ Stt B tl G' (ulH q u F') (upd H' q u) σ' := by
  have hX : ∀ x ∈ ownAt G ms, B.H0 x = none ∨ x ∈ B.X0 := fun x hx => by
    obtain ⟨i, sl, e, o, h⟩ := mem_ownAt hx
    exact z.own i sl e o x h
  have hqX : q ∉ ownAt G ms := fun hx => by
    obtain ⟨i, sl, e, o, h⟩ := mem_ownAt hx
    exact hn i h
  have hF : ∀ o, F q = some o → o = u := fun o h => by
    have := st.fh q o h
    rw [hq] at this
    exact (Option.some.inj this).symm
  have hY : ∀ o, B.Hd q = some o → o = u := fun o h => by
    have := st.yh q o h
    rw [hq] at this
    exact (Option.some.inj this).symm
  have g' : GrX (ownAt G ms) (lkH q od u F) (lkH q od u H) F' H' := st'.g
  have hq' : H' q = some (.frz od u) := g'.h q _ hqX (by rw [lk_at, hq])
  have hF' : ∀ o, F' q = some o → o = .frz od u := fun o h => by
    have := g'.fh q o h
    rw [hq'] at this
    exact (Option.some.inj this).symm
  have g2 : GrX (ownAt G ms) F H (ulH q u F') (upd H' q u) := by
    refine ⟨fun a o ha => ?_, fun a o hx ha => ?_, fun a o ha => ?_, fun a h1 h2 => ?_, fun a ha => ?_, fun a ha => ?_⟩
    · by_cases e : a = q
      · subst e
        cases hF o ha
        rw [ul_at, g'.f a (.frz od u) (by rw [lk_at, ha])]
      · rw [ul_ne e]
        exact g'.f a o (by rw [lk_ne e]; exact ha)
    · by_cases e : a = q
      · subst e
        rw [hq] at ha
        cases ha
        exact upd_same
      · rw [upd_ne e]
        exact g'.h a o hx (by rw [lk_ne e]; exact ha)
    · by_cases e : a = q
      · subst e
        rw [ul_at] at ha
        rw [upd_same]
        cases w : F' a with
        | none => rw [w] at ha; cases ha
        | some o' => rw [w] at ha; exact ha
      · rw [ul_ne e] at ha
        rw [upd_ne e]
        exact g'.fh a o ha
    · by_cases e : a = q
      · subst e
        rw [ul_at, g'.no a (lk_none h1) (lk_nt h2)]
      · rw [ul_ne e]
        exact g'.no a (by rw [lk_ne e]; exact h1) (lk_nt h2)
    · by_cases e : a = q
      · subst e
        rw [upd_same]
        exact fun w => nomatch w
      · rw [upd_ne e]
        exact g'.st a (by rw [lk_ne e]; exact ha)
    · by_cases e : a = q
      · subst e
        obtain ⟨o, h1, h2⟩ := ha
        rw [hq] at h1
        cases h1
        exact NT.up h2
      · obtain ⟨o, h1, h2⟩ := g'.nt a (lk_nt ha)
        exact ⟨o, by rw [upd_ne e]; exact h1, h2⟩
  obtain ⟨ms', z'⟩ := st'.sl
  have hn' : ∀ i, q ∉ ms' i := fun i hm => by
    cases w : G'[i]? with
    | none => rw [z'.non i (fun s e => by rw [w] at e; cases e)] at hm; cases hm
    | some o =>
      cases o with
      | none => rw [z'.non i (fun s e => by rw [w] at e; cases e)] at hm; cases hm
      | some s =>
        cases o : s.own with
        | false =>
          obtain ⟨v, _, h⟩ := z'.has i s w
          rw [s.no o h] at hm
          cases hm
        | true =>
          rcases z'.own i s w o q hm with h | h
          · have h : lkH q od u H q = none := h
            rw [lk_at, hq] at h
            cases h
          · exact hqX h
  refine ⟨hq', st.g.into g2 hX, st.bh, fun i hi => (st'.fr i fun w => hi (ht i w)).trans (st.fr i hi), st'.ls.trans st.ls, st'.len, ms', ⟨fun i s e => ?_, z'.non, fun i x hx => ?_, fun i s e o x hx => ?_, z'.sep⟩⟩
  · obtain ⟨v, h1, h2⟩ := z'.has i s e
    exact ⟨v, h1, s.st h2 (lk_back hu hY) (ul_xs hu hF') fun x hx o ho => by
      rw [upd_ne (fun w => hn' i (by rw [← w]; exact hx))]; exact ho⟩
  · obtain ⟨h1, h2⟩ := z'.mem i x hx
    have e : x ≠ q := fun w => hn' i (by rw [← w]; exact hx)
    rw [ul_ne e]
    obtain ⟨o, q1, q2⟩ := h2
    exact ⟨h1, o, by rw [upd_ne e]; exact q1, q2⟩
  · rcases z'.own i s e o x hx with h | h
    · have h : lkH q od u H x = none := h
      refine .inl (Kn.free st.g.st ?_)
      by_cases w : x = q
      · exact absurd (by rw [← w]; exact hx) (hn' i)
      · rw [lk_ne w] at h; exact h
    · exact hX x h
end
/-! ### the kit's lock, with what errors find -/
def lkW (W : WX) (q : Addr) (od : Obj) (u : HO) : WX := fun cls d σ H => H q = some (.frz od u) ∧ W cls d σ (upd H q u)
section
variable {X : Cx} {W : WX} {kk : Nat}
theorem takes_lock {q : Addr} {od : Obj} {u : HO} (t : Takes X W) (hn : ∀ o' u', X.H_0 q ≠ some (.frz o' u')) : Takes X (lkW W q od u) := fun v s' ⟨a, B, sI, pins, σ, H, cls, d, e, I, nb, up, sky, na, os, ag, w⟩ =>
  t v s' ⟨a, B, sI, pins, σ, _, cls, d, e, I.unlock w.1 hn, nb, up, sky, by rw [upd_ne (fun z => by rw [z, w.1] at na; cases na)]; exact na, os, ag, w.2⟩
theorem Cok.lock {q : Addr} {od : Obj} {u : HO} (C : Cok X W kk) (hn : ∀ o' u', X.H_0 q ≠ some (.frz o' u')) : Cok X (lkW W q od u) kk := ⟨C.calm, takes_lock C.tk hn, C.hp, C.hr, C.nd⟩
def tLockX (X : Cx) (t : TS) : TS := fun D σ H => ∃ d u, H d = some u ∧ Mut (some u) ∧ ∀ od, (∀ o' u', X.H_0 d ≠ some (.frz o' u')) → t ⟨fun σ' H' => H' d = some (.frz od u) ∧ D.nx σ' (upd H' d u), fun v H' => H' d = some (.frz od u) ∧ D.rt v (upd H' d u), fun σ' H' => H' d = some (.frz od u) ∧ D.bk σ' (upd H' d u), fun σ' H' => H' d = some (.frz od u) ∧ D.ct σ' (upd H' d u)⟩ σ (upd H d (.frz od u))
theorem ps_lockX {st : Stmt} {t : TS} (h : PS X st t) : PS X st (tLockX X t) := by
  refine ⟨fun pins s σ H D I hw => ?_⟩
  obtain ⟨d, u, hd, mu, hw⟩ := hw
  obtain ⟨od, I1⟩ := I.lock hd mu
  refine thn (h.run pins s σ _ _ I1 (hw od (I.nofrz hd mu))) fun f s1 q => ?_
  cases f with
  | next => obtain ⟨σ', H', I2, e, q⟩ := q; exact ⟨σ', _, I2.unlock e (I.nofrz hd mu), q⟩
  | brk => obtain ⟨σ', H', I2, e, q⟩ := q; exact ⟨σ', _, I2.unlock e (I.nofrz hd mu), q⟩
  | cont => obtain ⟨σ', H', I2, e, q⟩ := q; exact ⟨σ', _, I2.unlock e (I.nofrz hd mu), q⟩
  | ret v => obtain ⟨x, σ', H', I2, r, e, q⟩ := q; exact ⟨x, σ', _, I2.unlock e (I.nofrz hd mu), r, q⟩
theorem ps_or {st : Stmt} {t1 t2 : TS} (h1 : PS X st t1) (h2 : PS X st t2) : PS X st (fun D σ H => t1 D σ H ∨ t2 D σ H) := ⟨fun pins s σ H D I q => by
  rcases q with q | q
  · exact h1.run pins s σ H D I q
  · exact h2.run pins s σ H D I q⟩
end
/-! ### for over a dict -/
/-- how a dict is walked -/
structure DIt {κ β α : Type} (T : KY κ) (Bv : Rf β) (A : Rf α) (l : List (κ × β) → List α) (J : Addr → Obj → List (Key × V) → It) : Prop where
  len : ∀ d, (l d).length = d.length
  go : ∀ q od ws i H, H q = some (.frz od (.dK ws)) → i < ws.length → (J q od ws).go i H
  stop : ∀ q od ws i H, H q = some (.frz od (.dK ws)) → ws.length ≤ i → (J q od ws).stop i H
  yld : ∀ q od ws i F H x H' d, Ex F H → Pd T (fun a x => Bv.r a F x) d ws → (J q od ws).yld i H x H' → ∃ a F', (l d)[i]? = some a ∧ Gr F H F' H' ∧ A.r a F' x
section
variable {κ β : Type} {T : KY κ} {Bv : Rf β}
theorem di_keys : DIt T Bv T.A (fun d => d.map (·.1)) Itk := ⟨fun d => List.length_map _, fun q od ws i H h hi => ⟨h, hi⟩, fun q od ws i H h hi => ⟨h, hi⟩, fun q od ws i F H x H' d xf pd ⟨e1, k, v, hk, e2⟩ => by
  subst e1 e2
  obtain ⟨kk, a, h1, h2, h3, h4⟩ := pd.at hk
  subst h2
  exact ⟨kk, F, by rw [List.getElem?_map, h1]; rfl, Gr.refl xf, T.to h3 F⟩⟩
theorem di_vals : DIt T Bv Bv (fun d => d.map (·.2)) Itd := ⟨fun d => List.length_map _, fun q od ws i H h hi => ⟨h, hi⟩, fun q od ws i H h hi => ⟨h, hi⟩, fun q od ws i F H x H' d xf pd ⟨e1, k, hk⟩ => by
  subst e1
  obtain ⟨kk, a, h1, h2, h3, h4⟩ := pd.at hk
  exact ⟨a, F, by rw [List.getElem?_map, h1]; rfl, Gr.refl xf, h4⟩⟩
theorem di_items {K : PySem.W.Frag} : DIt T Bv (fTup K (tvc T.A (tv1 Bv))) (fun d => d) Iti := ⟨fun d => rfl, fun q od ws i H h hi => ⟨h, hi⟩, fun q od ws i H h hi => ⟨h, hi⟩, fun q od ws i F H x H' d xf pd ⟨t, k, v, hk, e1, e2, e3⟩ => by
  subst e1 e3
  obtain ⟨kk, a, h1, h2, h3, h4⟩ := pd.at hk
  subst h2
  exact ⟨(kk, a), upd F t _, h1, Gr.newF xf e2, t, _, rfl, .inl (.inl upd_same), _, _, rfl, T.to h3 _, _, rfl, Bv.st h4 (Ex.new (xf.free e2))⟩⟩
end
/-- what is iterated, the dict at v locked -/
def DPi (X : Cx) (G : Gm) (tg ei : Expr) (v : V) (J : Addr → Obj → List (Key × V) → It) : Prop := ∃ ti, PI X tg ei ti ∧ ∀ B tl F σ H R q od ws, Stt B tl G F H σ → v = .ref q → H q = some (.frz od (.dK ws)) → (∀ F' H', Gr F H F' H' → R (J q od ws) H') → ti σ H R
def WT : WX := fun _ _ _ _ => True
section
variable {X : Cx} {G : Gm} {v : V} {tg e : Expr}
theorem tE_known {K : PySem.W.Frag} {B : Bs} {tl : List Nat} {F H : Hp} {σ : St} {Q : VK} (st : Stt B tl G F H σ) (h : ∀ F' H', Gr F H F' H' → Q v H') : tE K WT G (M.ok ()) (rV v) σ H Q :=
  ⟨B, tl, F, st, (fun z => nomatch z), fun a _ F' H' g v' e => by
    cases (show v' = v from e)
    exact h F' H' g, fun e z => nomatch z⟩
theorem dp_keys (he : FE X WT G e (M.ok ()) (rV v)) : DPi X G tg e v Itk := ⟨_, pi_keys he, fun B tl F σ H R q od ws st ev hq k => tE_known st fun F' H' g => ⟨q, od, ev, .inl ⟨ws, g.h _ _ hq, k F' H' g⟩⟩⟩
theorem dp_vals {apos cpos : Pos} (he : FE X WT G e (M.ok ()) (rV v)) (hbase : attributeBase e "values" X.env (eval e X.env) = eval e X.env := by rfl) (hline : (apos.endLine == cpos.line) = true := by rfl) : DPi X G tg (.Call (.Attribute e "values" apos) [] [] cpos) v Itd := ⟨_, pi_values he hbase hline, fun B tl F σ H R q od ws st ev hq k => tE_known st fun F' H' g => ⟨q, od, ws, ev, g.h _ _ hq, k F' H' g⟩⟩
theorem dp_items {apos cpos : Pos} {elts : List Expr} {n : Nat} {tpos : Pos} (he : FE X WT G e (M.ok ()) (rV v)) (hbase : attributeBase e "items" X.env (eval e X.env) = eval e X.env := by rfl) (hline : (apos.endLine == cpos.line) = true := by rfl) : DPi X G (.Tuple elts n tpos) (.Call (.Attribute e "items" apos) [] [] cpos) v Iti := ⟨_, pi_items he hbase hline, fun B tl F σ H R q od ws st ev hq k => tE_known st fun F' H' g => ⟨q, od, ws, ev, g.h _ _ hq, k F' H' g⟩⟩
end
/-- a place that lends a dict -/
structure DSl {κ β : Type} (T : KY κ) (Bv : Rf β) (sl : Sl) (d : List (κ × β)) : Prop where
  run : ∀ Y F H v ms, sl.r Y F H v ms → ∃ q ws, v = .ref q ∧ (Rd Y q (.dK ws) ∨ Rd F q (.dK ws)) ∧ Pd T (fun a x => Bv.r a F x) d ws
theorem ds_b {κ β : Type} {T : KY κ} {Bv : Rf β} {d : List (κ × β)} : DSl T Bv (bw (tD T Bv) d) d := ⟨fun Y F H v ms ⟨⟨q, ws, e, h, p⟩, _⟩ => ⟨q, ws, e, .inl h, p⟩⟩
theorem ds_v {κ β : Type} {T : KY κ} {Bv : Rf β} {d : List (κ × β)} : DSl T Bv (sv (fz (tD T Bv)) d) d := ⟨fun Y F H v ms ⟨⟨q, ws, e, h, p⟩, _⟩ => ⟨q, ws, e, .inr h, p⟩⟩
section
variable {ε : Type} {Eh : EH ε} {X : Cx} {W : WX} {tl tl' : List Nat} {ρ b s : Type} {R : ρ → V → Gm} {Gs : s → Gm} {κ β α : Type} {T : KY κ} {Bv : Rf β} {A : Rf α} {f : s → α → Mg ε (Fl ρ s s)} {l : List (κ × β) → List α} {J : Addr → Obj → List (Key × V) → It} {d : List (κ × β)} {sl : Sl} {v : V}
/-- the place's dict is not one's own -/
theorem DSl.sep {B : Bs} {G : Gm} {F H : Hp} {σ : St} {ms : Nat → List Addr} {tl : List Nat} {j : Nat} (hd : DSl T Bv sl d) (st : Stt B tl G F H σ) (z : SlOk B G F H σ ms) (hG : G[j]? = some (some (pn v sl))) :
    ∃ q ws, v = .ref q ∧ Rd H q (.dK ws) ∧ Pd T (fun a x => Bv.r a F x) d ws ∧ ∀ i, q ∉ ms i := by
  obtain ⟨w, h1, rfl, h2⟩ := z.has j _ hG
  obtain ⟨q, ws, e, h, p⟩ := hd.run _ _ _ _ _ h2
  refine ⟨q, ws, e, ?_, p, fun i hm => ?_⟩
  · rcases h with h | h
    · exact Rd.ex st.yh h
    · exact Rd.ex st.fh h
  · rcases h with h | h
    · cases w : G[i]? with
      | none => rw [z.non i (fun s e => by rw [w] at e; cases e)] at hm; cases hm
      | some o =>
        cases o with
        | none => rw [z.non i (fun s e => by rw [w] at e; cases e)] at hm; cases hm
        | some s =>
          cases o : s.own with
          | false =>
            obtain ⟨v, _, h⟩ := z.has i s w
            rw [s.no o h] at hm
            cases hm
          | true =>
            have := st.frs z w o q hm
            rcases h with h | ⟨o, h⟩ <;> rw [this] at h <;> cases h
    · have := (z.mem i q hm).1
      rcases h with h | ⟨o, h⟩ <;> rw [this] at h <;> cases h
/-- the dict locked already -/
theorem ps_forDc {ei : Expr} {pos : Pos} {tg : Expr} {body : List Stmt} {G : Gm} {kk : Nat} {G2 : s × α → Gm} {x0 : s} {Gb : b → Gm} (j : Nat) (hJ : DIt T Bv A l J) (hd : DSl T Bv sl d) (hi : DPi X G tg ei v J) (hGj : G[j]? = some (some (pn v sl))) (hG : Imp G (Gs x0))
    (hg : FG X tl' (fun z : s × α => Gs z.1) tg A (fun z => z.2) G2) (hb : ∀ W', Cok X W' kk → ∀ x a, FS X W' Eh tl' (G2 (x, a)) body (f x a) R Gs Gs) (ht : ∀ i ∈ tl', i ∈ tl) (hs : ∀ x, foldedSetIterable ei X.env x = pure x) (hp : PassesOwn (model X.prog X.w) X.A X.env X.xe) (hc : X.calm = true) :
    PS X (.For tg ei body [] pos) (fun D σ H => ∃ W', Cok X W' kk ∧ ∃ B F q od ws, ToldS X.K W' Eh tl G (forL f (l d) x0) R Gb Gs D σ H B F ∧ v = .ref q ∧ H q = some (.frz od (.dK ws)) ∧ Pd T (fun a x => Bv.r a F x) d ws ∧ ∃ ms, SlOk B G F H σ ms ∧ ∀ i, q ∉ ms i) := by
  obtain ⟨ti, hpi, hti⟩ := hi
  refine PS.weak (ps_for hp hc hpi hg (pss_ex (α := {W' // Cok X W' kk} × (s × α)) (t := fun y => tFS X.K y.1.1 Eh tl' (G2 y.2) (f y.2.1 y.2.2) R Gs Gs) fun y => hb y.1.1 y.1.2 y.2.1 y.2.2) hs) fun D σ H ⟨W', C', B, F, q, od, ws, T0, ev, hq, pd, ms, z, hn⟩ => ?_
  refine hti B tl F σ H _ q od ws T0.st ev hq fun F1 H1 g1 => ?_
  have z1 := z.grow g1
  have st1 := T0.st.grow g1
  have hX : ∀ x ∈ ownAt G ms, B.H0 x = none ∨ x ∈ B.X0 := fun x hx => by
    obtain ⟨i, sl, e, o, h⟩ := mem_ownAt hx
    exact z.own i sl e o x h
  have hqX : q ∉ ownAt G ms := fun hx => by
    obtain ⟨i, sl, e, o, h⟩ := mem_ownAt hx
    exact hn i h
  have stB : Stt ⟨B.Hd, ownAt G ms, F1, H1, σ⟩ tl' G F1 H1 σ := ⟨(Gr.refl g1.fh).x _, fun a o ha => ⟨st1.yh a o ha, fun hx => by
    obtain ⟨i, sl, e, o', h⟩ := mem_ownAt hx
    have := st1.frs z1 e o' a h
    rw [show B.Hd a = some o from ha] at this
    cases this⟩, fun _ _ => rfl, rfl, st1.len, ms, ⟨z1.has, z1.non, z1.mem, fun j t e ho x hx => .inr (ownAt_mem e ho hx), z1.sep⟩⟩
  have st2 := hG _ _ _ _ _ stB
  have T1 : ToldS X.K W' Eh tl G (forL f (l d) x0) R Gb Gs D σ H1 B F1 := ⟨st1, T0.ne, T0.ret, T0.nx, T0.bk, T0.ct, T0.er⟩
  have lc1 := T1.lc hX ht
  have hlen : (l d).length = ws.length := (hJ.len d).trans pd.len
  have stand : ∀ x F' H' σ', Stt ⟨B.Hd, ownAt G ms, F1, H1, σ⟩ tl' (Gs x) F' H' σ' → H' q = some (.frz od (.dK ws)) ∧ Pd T (fun a x => Bv.r a F' x) d ws := fun x F' H' σ' st => ⟨st.g.h q _ hqX (g1.h _ _ hq), pd.imp fun _ _ h => Bv.st (Bv.st h g1.f) st.g.f⟩
  generalize (⟨B.Hd, ownAt G ms, F1, H1, σ⟩ : Bs) = B' at st2 lc1 stand
  refine ⟨fun i m σ H => m = (l d).length - i ∧ i ≤ (l d).length ∧ ∃ F x, Stt B' tl' (Gs x) F H σ ∧ Lc X.K W' Eh tl' (forL (b := b) f ((l d).drop i) x) R Gs D B', ⟨_, rfl, Nat.zero_le _, F1, x0, st2, lc1⟩, ?_⟩
  rintro i m σ H ⟨rfl, hi, F, x, st, lc⟩
  obtain ⟨hq2, pd2⟩ := stand x F H σ st
  by_cases hlt : i < (l d).length
  · refine .inr ⟨hJ.go q od ws i H hq2 (by omega), fun σ' H' => ∃ F y, Stt B' tl' (Gs y) F H' σ' ∧ Lc X.K W' Eh tl' (forL (b := b) f ((l d).drop (i + 1)) y) R Gs D B', fun σ' H' h => ⟨_, by omega, rfl, hlt, h⟩, fun u H' yl => ?_⟩
    obtain ⟨a, F', h1, g2, h3⟩ := hJ.yld q od ws i F H u H' d st.fh pd2 yl
    obtain ⟨zz, B3, F3, q1, q2, q3⟩ := for_turn (G2 := G2) h1 (fun y σ' F' H' st' lc' => (⟨F', y, st', lc'⟩ : ∃ F y, Stt B' tl' (Gs y) F H' σ' ∧ Lc X.K W' Eh tl' (forL (b := b) f ((l d).drop (i + 1)) y) R Gs D B')) (st.grow g2) lc h3
    exact ⟨zz, B3, F3, q1, q2, fun σ' h => by
      obtain ⟨y, hy⟩ := q3 σ' h
      exact ⟨(⟨W', C'⟩, y), hy⟩⟩
  · refine .inl ⟨hJ.stop q od ws i H hq2 (by omega), ?_⟩
    have e : (l d).drop i = [] := List.drop_eq_nil_of_le (by omega)
    rw [e] at lc
    exact lc.nx x rfl σ F H st
/-- over a dict that is lent, or frozen -/
theorem ps_forD {ei : Expr} {pos : Pos} {tg : Expr} {body : List Stmt} {G : Gm} {kk : Nat} {G2 : s × α → Gm} {x0 : s} {Gb : b → Gm} (j : Nat) (C : Cok X W kk) (hJ : DIt T Bv A l J) (hd : DSl T Bv sl d) (hi : DPi X G tg ei v J) (hGj : G[j]? = some (some (pn v sl))) (hG : Imp G (Gs x0))
    (hg : FG X tl' (fun z : s × α => Gs z.1) tg A (fun z => z.2) G2) (hb : ∀ W', Cok X W' kk → ∀ x a, FS X W' Eh tl' (G2 (x, a)) body (f x a) R Gs Gs) (ht : ∀ i ∈ tl', i ∈ tl := by decide) (hs : ∀ x, foldedSetIterable ei X.env x = pure x := by intro _; rfl) :
    PS X (.For tg ei body [] pos) (tFS X.K W Eh tl G (forL f (l d) x0) R Gb Gs) := by
  have core := ps_forDc (b := b) (pos := pos) (Gb := Gb) j hJ hd hi hGj hG hg hb ht hs C.hp C.calm
  refine PS.weak (ps_or core (ps_lockX core)) fun D σ H ⟨B, F, T0⟩ => ?_
  obtain ⟨ms, z⟩ := T0.st.sl
  obtain ⟨q, ws, ev, hrd, pd, hn⟩ := hd.sep T0.st z hGj
  rcases hrd with hq | ⟨od, hq⟩
  · refine .inr ⟨q, .dK ws, hq, trivial, fun od hnf => ?_⟩
    have hu : Dly (.dK ws) := trivial
    refine ⟨lkW W q od (.dK ws), C.lock hnf, ⟨lkH q od (.dK ws) B.Hd, ownAt G ms, lkH q od (.dK ws) F, lkH q od (.dK ws) H, σ⟩, lkH q od (.dK ws) F, q, od, ws, ?_, ev, upd_same, ?_, ms, ?_⟩
    · rw [← lk_upd (by rw [hq]; exact fun w => nomatch w)]
      have un : ∀ {G' : Gm} {F' H' : Hp} {σ' : St}, Stt ⟨lkH q od (.dK ws) B.Hd, ownAt G ms, lkH q od (.dK ws) F, lkH q od (.dK ws) H, σ⟩ tl G' F' H' σ' → H' q = some (.frz od (.dK ws)) ∧ Stt B tl G' (ulH q (.dK ws) F') (upd H' q (.dK ws)) σ' := fun st' => T0.st.unlock z hu hq hn (fun _ h => h) st'
      exact ⟨T0.st.lock z hu hq hn, T0.ne, fun r e v σ' F' H' st' => ⟨(un st').1, T0.ret r e v σ' _ _ (un st').2⟩, fun x e σ' F' H' st' => ⟨(un st').1, T0.nx x e σ' _ _ (un st').2⟩, fun x e σ' F' H' st' => ⟨(un st').1, T0.bk x e σ' _ _ (un st').2⟩, fun x e σ' F' H' st' => ⟨(un st').1, T0.ct x e σ' _ _ (un st').2⟩,
        fun e er σ' F' H' st' => ⟨(un st').1, T0.er e er σ' _ _ (un st').2⟩⟩
    · refine pd.imp fun a x h => Bv.sx h (lk_xs hu fun o ho => ?_)
      have := T0.st.fh q o ho
      rw [hq] at this
      exact (Option.some.inj this).symm
    · rw [← lk_upd (by rw [hq]; exact fun w => nomatch w)]
      obtain ⟨z1⟩ : Nonempty (SlOk ⟨lkH q od (.dK ws) B.Hd, ownAt G ms, lkH q od (.dK ws) F, lkH q od (.dK ws) H, σ⟩ G (lkH q od (.dK ws) F) (lkH q od (.dK ws) H) σ ms) := by
        have hF : ∀ o, F q = some o → o = .dK ws := fun o h => by
          have := T0.st.fh q o h
          rw [hq] at this
          exact (Option.some.inj this).symm
        have hY : ∀ o, B.Hd q = some o → o = .dK ws := fun o h => by
          have := T0.st.yh q o h
          rw [hq] at this
          exact (Option.some.inj this).symm
        exact ⟨⟨fun i s e => by
          obtain ⟨v, h1, h2⟩ := z.has i s e
          exact ⟨v, h1, s.st h2 (lk_xs hu hY) (lk_xs hu hF) fun x hx o ho => by
            rw [lk_ne (fun w => hn i (by rw [← w]; exact hx))]; exact ho⟩, z.non, fun i x hx => by
          obtain ⟨h1, h2⟩ := z.mem i x hx
          exact ⟨lk_none h1, lk_nt h2⟩, fun j t e ho x hx => .inr (ownAt_mem e ho hx), z.sep⟩⟩
      exact ⟨z1, hn⟩
  · exact .inl ⟨W, C, B, F, q, od, ws, T0, ev, hq, pd, ms, z, hn⟩
end
end LK
namespace LK
open PySem L2
/-! ### one's own thing is lent while a statement runs -/
def YF (s : Sl) : Prop := ∀ Y Y' F H v ms, s.r Y F H v ms → s.r Y' F H v ms
/-- G ahead of the statement, G1 behind it, G2 what is told -/
inductive Bk0 : Gm → Gm → Gm → Prop where
  | nil : Bk0 [] [] []
  | skip {x y : Option Sl} {G G1 G2 : Gm} (t : Bk0 G G1 G2) : Bk0 (x :: G) (y :: G1) (none :: G2)
  | yf {x : Option Sl} {s : Sl} {G G1 G2 : Gm} (h : YF s) (t : Bk0 G G1 G2) : Bk0 (x :: G) (some s :: G1) (some s :: G2)
  | same {α : Type} {w : V} {T : Th α} {a : α} {G G1 G2 : Gm} (t : Bk0 G G1 G2) : Bk0 (some (pn w (bw T a)) :: G) (some (pn w (bw T a)) :: G1) (some (pn w (bw T a)) :: G2)
/-- .. the lent thing, at place j, is one's own again -/
inductive Bk1 (s0 : Sl) : Nat → Gm → Gm → Gm → Prop where
  | back {y : Option Sl} {G G1 G2 : Gm} (t : Bk0 G G1 G2) : Bk1 s0 0 (some s0 :: G) (y :: G1) (some s0 :: G2)
  | skip {j : Nat} {x y : Option Sl} {G G1 G2 : Gm} (t : Bk1 s0 j G G1 G2) : Bk1 s0 (j + 1) (x :: G) (y :: G1) (none :: G2)
  | yf {j : Nat} {x : Option Sl} {s : Sl} {G G1 G2 : Gm} (h : YF s) (t : Bk1 s0 j G G1 G2) : Bk1 s0 (j + 1) (x :: G) (some s :: G1) (some s :: G2)
  | same {j : Nat} {α : Type} {w : V} {T : Th α} {a : α} {G G1 G2 : Gm} (t : Bk1 s0 j G G1 G2) : Bk1 s0 (j + 1) (some (pn w (bw T a)) :: G) (some (pn w (bw T a)) :: G1) (some (pn w (bw T a)) :: G2)
def BkAt (G G1 : Gm) (i : Nat) (s : Sl) : Prop := G1[i]? = some (some s) ∧ (YF s ∨ ∃ (α : Type) (w : V) (T : Th α) (a : α), s = pn w (bw T a) ∧ G[i]? = some (some s))
theorem BkAt.up {x y : Option Sl} {G G1 : Gm} {i : Nat} {s : Sl} (h : BkAt G G1 i s) : BkAt (x :: G) (y :: G1) (i + 1) s := ⟨by simpa using h.1, h.2.imp id fun ⟨α, w, T, a, e, q⟩ => ⟨α, w, T, a, e, by simpa using q⟩⟩
theorem Bk0.at_ {G G1 G2 : Gm} (h : Bk0 G G1 G2) : G1.length = G2.length ∧ ∀ i s, G2[i]? = some (some s) → BkAt G G1 i s := by
  induction h with
  | nil => exact ⟨rfl, fun i s e => by simp at e⟩
  | skip _ ih =>
    refine ⟨congrArg (· + 1) ih.1, fun i s e => ?_⟩
    cases i with
    | zero => simp at e
    | succ i => exact (ih.2 i s (by simpa using e)).up
  | yf h _ ih =>
    refine ⟨congrArg (· + 1) ih.1, fun i s e => ?_⟩
    cases i with
    | zero =>
      simp at e
      subst e
      exact ⟨rfl, .inl h⟩
    | succ i => exact (ih.2 i s (by simpa using e)).up
  | same _ ih =>
    refine ⟨congrArg (· + 1) ih.1, fun i s e => ?_⟩
    cases i with
    | zero =>
      simp at e
      subst e
      exact ⟨rfl, .inr ⟨_, _, _, _, rfl, rfl⟩⟩
    | succ i => exact (ih.2 i s (by simpa using e)).up
theorem Bk1.at_ {s0 : Sl} {j : Nat} {G G1 G2 : Gm} (h : Bk1 s0 j G G1 G2) : G1.length = G2.length ∧ G2[j]? = some (some s0) ∧ ∀ i s, G2[i]? = some (some s) → i ≠ j → BkAt G G1 i s := by
  induction h with
  | back t =>
    refine ⟨congrArg (· + 1) t.at_.1, rfl, fun i s e h => ?_⟩
    cases i with
    | zero => exact absurd rfl h
    | succ i => exact (t.at_.2 i s (by simpa using e)).up
  | skip _ ih =>
    refine ⟨congrArg (· + 1) ih.1, by simpa using ih.2.1, fun i s e h => ?_⟩
    cases i with
    | zero => simp at e
    | succ i => exact (ih.2.2 i s (by simpa using e) (fun q => h (by rw [q]))).up
  | yf h _ ih =>
    refine ⟨congrArg (· + 1) ih.1, by simpa using ih.2.1, fun i s e q => ?_⟩
    cases i with
    | zero =>
      simp at e
      subst e
      exact ⟨rfl, .inl h⟩
    | succ i => exact (ih.2.2 i s (by simpa using e) (fun z => q (by rw [z]))).up
  | same _ ih =>
    refine ⟨congrArg (· + 1) ih.1, by simpa using ih.2.1, fun i s e q => ?_⟩
    cases i with
    | zero =>
      simp at e
      subst e
      exact ⟨rfl, .inr ⟨_, _, _, _, rfl, rfl⟩⟩
    | succ i => exact (ih.2.2 i s (by simpa using e) (fun z => q (by rw [z]))).up
theorem Bk0.none : ∀ {G G1 : Gm} {n : Nat}, G.length = n → G1.length = n → Bk0 G G1 (List.replicate n none)
  | [], [], n, e, _ => by subst e; exact .nil
  | [], _ :: _, n, e, e1 => by subst e; simp at e1
  | _ :: _, [], n, e, e1 => by subst e; simp at e1
  | x :: G, y :: G1, n, e, e1 => by
    subst e
    exact .skip (Bk0.none rfl (by simpa using e1))
/-- the two forms together -/
def Bk (s0 : Sl) (j : Nat) (G G1 G2 : Gm) : Prop := Bk0 G G1 G2 ∨ Bk1 s0 j G G1 G2
section
variable {B : Bs} {tl : List Nat} {G G1 G2 : Gm} {F H F' H' : Hp} {σ σ' : St} {α : Type} {T : Th α} {a : α} {v : V} {j : Nat}
def Hdj (Y F H : Hp) (m : List Addr) : Hp := fun x => if x ∈ m then H x else (match F x with
  | some o => some o
  | none => Y x)
theorem Hdj_cases {Y F H : Hp} {m : List Addr} {x : Addr} {o : HO} (h : Hdj Y F H m x = some o) : (x ∈ m ∧ H x = some o) ∨ (x ∉ m ∧ (F x = some o ∨ Y x = some o)) := by
  have h : (if x ∈ m then H x else (match F x with
    | some o => some o
    | none => Y x)) = some o := h
  by_cases e : x ∈ m
  · rw [if_pos e] at h; exact .inl ⟨e, h⟩
  · rw [if_neg e] at h
    cases w : F x with
    | none => rw [w] at h; exact .inr ⟨e, .inr h⟩
    | some o' => rw [w] at h; exact .inr ⟨e, .inl h⟩
theorem SlOk.own_of {B : Bs} {G : Gm} {F H : Hp} {σ : St} {ms : Nat → List Addr} (z : SlOk B G F H σ ms) {i : Nat} {x : Addr} (h : x ∈ ms i) : ∃ s, G[i]? = some (some s) ∧ s.own = true := by
  cases w : G[i]? with
  | none => rw [z.non i (fun s e => by rw [w] at e; cases e)] at h; cases h
  | some o =>
    cases o with
    | none => rw [z.non i (fun s e => by rw [w] at e; cases e)] at h; cases h
    | some s =>
      cases o : s.own with
      | true => exact ⟨s, rfl, o⟩
      | false =>
        obtain ⟨v, _, q⟩ := z.has i s w
        rw [s.no o q] at h
        cases h
theorem Stt.lend {ms : Nat → List Addr} (st : Stt B tl G F H σ) (z : SlOk B G F H σ ms) (hG : G[j]? = some (some (pn v (ob T a)))) : Stt ⟨Hdj B.Hd F H (ms j), ownAt (G.set j none) ms, F, H, σ⟩ tl (G.set j (some (pn v (bw T a)))) F H σ := by
  have hl : j < G.length := (List.getElem?_eq_some_iff.mp hG).1
  have hY : ∀ x ∈ ms j, B.Hd x = none := st.frs z hG rfl
  have xH : Ex (Hdj B.Hd F H (ms j)) H := fun x o h => by
    rcases Hdj_cases h with ⟨_, h⟩ | ⟨_, h | h⟩
    · exact h
    · exact st.fh x o h
    · exact st.yh x o h
  have xY : Ex B.Hd (Hdj B.Hd F H (ms j)) := fun x o h => by
    have e : x ∉ ms j := fun e => by rw [hY x e] at h; cases h
    show (if x ∈ ms j then H x else (match F x with
      | some o => some o
      | none => B.Hd x)) = some o
    rw [if_neg e]
    cases w : F x with
    | none => exact h
    | some o' =>
      have h1 := st.fh x o' w
      have h2 := st.yh x o h
      rw [h1] at h2
      exact h2
  have xF : Ex F (Hdj B.Hd F H (ms j)) := fun x o h => by
    have e : x ∉ ms j := fun e => by rw [(z.mem j x e).1] at h; cases h
    show (if x ∈ ms j then H x else (match F x with
      | some o => some o
      | none => B.Hd x)) = some o
    rw [if_neg e, h]
  have gne : ∀ {i : Nat} {s : Sl}, i ≠ j → (G.set j (some (pn v (bw T a))))[i]? = some (some s) → G[i]? = some (some s) := fun {i s} h e => by
    rw [List.getElem?_set_ne (Ne.symm h)] at e; exact e
  have gj : ∀ {s : Sl}, (G.set j (some (pn v (bw T a))))[j]? = some (some s) → s = pn v (bw T a) := fun {s} e => by
    rw [List.getElem?_set_self hl] at e; cases e; rfl
  let nm : Nat → List Addr := fun i => if i = j then [] else ms i
  have nmj : nm j = [] := if_pos rfl
  have nmn : ∀ {i}, i ≠ j → nm i = ms i := fun h => if_neg h
  refine ⟨(Gr.refl st.fh).x _, fun x o ha => ⟨xH x o ha, fun hx => ?_⟩, fun _ _ => rfl, rfl, by rw [List.length_set]; exact st.len, nm, ⟨fun i s e => ?_, fun i e => ?_, fun i x hx => ?_, fun i s e o x hx => ?_, fun i s e o x hx i' hi hm => ?_⟩⟩
  · obtain ⟨i, sl, e, o', h⟩ := mem_ownAt hx
    have hij : i ≠ j := fun q => by subst q; rw [List.getElem?_set_self hl] at e; cases e
    rw [List.getElem?_set_ne (Ne.symm hij)] at e
    rcases Hdj_cases ha with ⟨q, _⟩ | ⟨_, q | q⟩
    · exact z.sep i sl e o' x h j (Ne.symm hij) q
    · rw [(z.mem i x h).1] at q; cases q
    · rw [st.frs z e o' x h] at q; cases q
  · by_cases h : i = j
    · subst h
      cases gj e
      obtain ⟨w, h1, rfl, h2⟩ := z.has i _ hG
      exact ⟨w, h1, rfl, T.ord h2 (fun x hx o ho => by show (if x ∈ ms i then H x else _) = some o; rw [if_pos hx]; exact ho) xF, nmj⟩
    · obtain ⟨w, h1, h2⟩ := z.has i s (gne h e)
      refine ⟨w, h1, ?_⟩
      rw [nmn h]
      exact s.st h2 xY.xs (XS.refl _) fun _ _ _ ho => ho
  · by_cases h : i = j
    · subst h
      exact nmj
    · rw [nmn h]
      exact z.non i fun s q => e s (by rw [List.getElem?_set_ne (Ne.symm h)]; exact q)
  · by_cases h : i = j
    · subst h
      rw [nmj] at hx; cases hx
    · rw [nmn h] at hx
      exact z.mem i x hx
  · by_cases h : i = j
    · subst h
      rw [nmj] at hx; cases hx
    · rw [nmn h] at hx
      exact .inr (ownAt_mem (G := G.set j none) (by rw [List.getElem?_set_ne (Ne.symm h)]; exact gne h e) o hx)
  · by_cases h : i = j
    · subst h
      rw [nmj] at hx; cases hx
    · rw [nmn h] at hx
      by_cases h' : i' = j
      · subst h'
        rw [nmj] at hm; cases hm
      · rw [nmn h'] at hm
        exact z.sep i s (gne h e) o x hx i' hi hm
theorem Stt.unlend {ms : Nat → List Addr} (st : Stt B tl G F H σ) (z : SlOk B G F H σ ms) (hG : G[j]? = some (some (pn v (ob T a)))) (hj : j < σ.length → j ∉ tl) (hb : Bk (pn v (ob T a)) j G G1 G2)
    (st' : Stt ⟨Hdj B.Hd F H (ms j), ownAt (G.set j none) ms, F, H, σ⟩ tl G1 F' H' σ') : Stt B tl G2 F' H' σ' := by
  have hl : j < G.length := (List.getElem?_eq_some_iff.mp hG).1
  have hX : ∀ x ∈ ownAt (G.set j none) ms, (B.H0 x = none ∨ x ∈ B.X0) ∧ x ∉ ms j := fun x hx => by
    obtain ⟨i, sl, e, o', h⟩ := mem_ownAt hx
    have hij : i ≠ j := fun q => by subst q; rw [List.getElem?_set_self hl] at e; cases e
    rw [List.getElem?_set_ne (Ne.symm hij)] at e
    exact ⟨z.own i sl e o' x h, fun q => z.sep i sl e o' x h j (Ne.symm hij) q⟩
  have g' : GrX (ownAt (G.set j none) ms) F H F' H' := st'.g
  obtain ⟨ms', z'⟩ := st'.sl
  have hlen : G1.length = G2.length := by
    rcases hb with hb | hb
    · exact hb.at_.1
    · exact hb.at_.1
  have hat : ∀ i s, G2[i]? = some (some s) → (i = j ∧ s = pn v (ob T a)) ∨ BkAt G G1 i s := fun i s e => by
    rcases hb with hb | hb
    · exact .inr (hb.at_.2 i s e)
    · by_cases h : i = j
      · subst h
        rw [hb.at_.2.1] at e
        cases e
        exact .inl ⟨rfl, rfl⟩
      · exact .inr (hb.at_.2.2 i s e h)
  have hold : ∀ x ∈ ms j, H' x = H x ∧ F' x = none := fun x hx => by
    obtain ⟨h1, h2⟩ := z.mem j x hx
    refine ⟨?_, g'.no x h1 h2⟩
    cases w : H x with
    | none => exact absurd w h2.ne
    | some o => exact g'.h x o (fun q => (hX x q).2 hx) w
  have new : ∀ i x, x ∈ ms' i → x ∉ ms j := fun i x hx q => by
    obtain ⟨s, e, o⟩ := z'.own_of hx
    rcases z'.own i s e o x hx with h | h
    · exact (z.mem j x q).2.ne h
    · exact (hX x h).2 q
  -- which place has the lent thing again
  by_cases hback : G2[j]? = some (some (pn v (ob T a))) ∧ ∀ i s, G2[i]? = some (some s) → i ≠ j → BkAt G G1 i s
  · let nm : Nat → List Addr := fun i => if i = j then ms j else (match G2[i]? with
      | some (some _) => ms' i
      | _ => [])
    have nmj : nm j = ms j := if_pos rfl
    have nmn : ∀ {i s}, i ≠ j → G2[i]? = some (some s) → nm i = ms' i := fun {i s} h e => by
      show (if i = j then ms j else _) = _
      rw [if_neg h, e]
    have nms : ∀ {i x}, i ≠ j → x ∈ nm i → x ∈ ms' i ∧ ∃ s, G2[i]? = some (some s) := fun {i x} h hx => by
      have hx : x ∈ (if i = j then ms j else (match G2[i]? with
        | some (some _) => ms' i
        | _ => [])) := hx
      rw [if_neg h] at hx
      split at hx
      · exact ⟨hx, _, by assumption⟩
      · cases hx
    refine ⟨st.g.into g' fun x hx => (hX x hx).1, st.bh, fun i hi => (st'.fr i hi).trans (st.fr i hi), st'.ls.trans st.ls, by rw [← hlen]; exact st'.len, nm, ⟨fun i s e => ?_, fun i e => ?_, fun i x hx => ?_, fun i s e o x hx => ?_, fun i s e o x hx i' hi hm => ?_⟩⟩
    · by_cases h : i = j
      · subst h
        rw [hback.1] at e
        cases e
        obtain ⟨w, h1, rfl, h2⟩ := z.has i _ hG
        refine ⟨w, fun hi => ?_, rfl, ?_⟩
        · have hi' : i < σ.length := by rw [← show σ'.length = σ.length from st'.ls]; exact hi
          exact (st'.fr i (hj hi')).trans (h1 hi')
        · rw [nmj]
          exact T.ost h2 g'.f.xs fun x hx o ho => by rw [(hold x hx).1]; exact ho
      · obtain ⟨e1, hs⟩ := hback.2 i s e h
        obtain ⟨w, h1, h2⟩ := z'.has i s e1
        refine ⟨w, h1, ?_⟩
        rw [nmn h e]
        rcases hs with hs | ⟨α', w', T', a', rfl, e0⟩
        · exact hs _ _ _ _ _ _ h2
        · obtain ⟨rfl, _, hm⟩ := h2
          obtain ⟨w0, _, rfl, h0, _⟩ := z.has i _ e0
          exact ⟨rfl, T'.rst h0 g'.f.xs (XS.refl _), hm⟩
    · have h : i ≠ j := fun q => by subst q; exact e _ hback.1
      show (if i = j then ms j else _) = []
      rw [if_neg h]
      split
      · rename_i s q
        exact absurd q (e s)
      · rfl
    · by_cases h : i = j
      · subst h
        rw [nmj] at hx
        obtain ⟨h1, h2⟩ := hold x hx
        obtain ⟨o, q1, q2⟩ := (z.mem _ x hx).2
        exact ⟨h2, o, by rw [h1]; exact q1, q2⟩
      · exact z'.mem i x (nms h hx).1
    · by_cases h : i = j
      · subst h
        rw [nmj] at hx
        exact z.own _ _ hG rfl x hx
      · obtain ⟨hx, _⟩ := nms h hx
        obtain ⟨e1, _⟩ := hback.2 i s e h
        rcases z'.own i s e1 o x hx with q | q
        · exact .inl (Kn.free st.g.st q)
        · exact (hX x q).1
    · by_cases h : i = j
      · subst h
        rw [nmj] at hx
        exact new i' x (nms hi hm).1 hx
      · obtain ⟨hx1, _⟩ := nms h hx
        obtain ⟨e1, _⟩ := hback.2 i s e h
        by_cases h' : i' = j
        · subst h'
          rw [nmj] at hm
          exact new i x hx1 hm
        · exact z'.sep i s e1 o x hx1 i' hi (nms h' hm).1
  · have hall : ∀ i s, G2[i]? = some (some s) → BkAt G G1 i s := by
      rcases hb with hb | hb
      · exact hb.at_.2
      · exact absurd hb.at_.2 hback
    let nm : Nat → List Addr := fun i => match G2[i]? with
      | some (some _) => ms' i
      | _ => []
    have nmn : ∀ {i s}, G2[i]? = some (some s) → nm i = ms' i := fun {i s} e => by
      show (match G2[i]? with
        | some (some _) => ms' i
        | _ => []) = _
      rw [e]
    have nms : ∀ {i x}, x ∈ nm i → x ∈ ms' i ∧ ∃ s, G2[i]? = some (some s) := fun {i x} hx => by
      have hx : x ∈ (match G2[i]? with
        | some (some _) => ms' i
        | _ => []) := hx
      split at hx
      · exact ⟨hx, _, by assumption⟩
      · cases hx
    refine ⟨st.g.into g' fun x hx => (hX x hx).1, st.bh, fun i hi => (st'.fr i hi).trans (st.fr i hi), st'.ls.trans st.ls, by rw [← hlen]; exact st'.len, nm, ⟨fun i s e => ?_, fun i e => ?_, fun i x hx => z'.mem i x (nms hx).1, fun i s e o x hx => ?_, fun i s e o x hx i' hi hm => z'.sep i s (hall i s e).1 o x (nms hx).1 i' hi (nms hm).1⟩⟩
    · obtain ⟨e1, hs⟩ := hall i s e
      obtain ⟨w, h1, h2⟩ := z'.has i s e1
      refine ⟨w, h1, ?_⟩
      rw [nmn e]
      rcases hs with hs | ⟨α', w', T', a', rfl, e0⟩
      · exact hs _ _ _ _ _ _ h2
      · obtain ⟨rfl, _, hm⟩ := h2
        obtain ⟨w0, _, rfl, h0, _⟩ := z.has i _ e0
        exact ⟨rfl, T'.rst h0 g'.f.xs (XS.refl _), hm⟩
    · show (match G2[i]? with
        | some (some _) => ms' i
        | _ => []) = []
      split
      · rename_i s q
        exact absurd q (e s)
      · rfl
    · rcases z'.own i s (hall i s e).1 o x (nms hx).1 with q | q
      · exact .inl (Kn.free st.g.st q)
      · exact (hX x q).1
end
section
variable {ε : Type} {Eh Eh1 : EH ε} {X : Cx} {W : WX} {G : Gm} {tl : List Nat} {ρ b s : Type} {R R1 : ρ → V → Gm} {Gb Gb1 : b → Gm} {N N1 : s → Gm} {α : Type} {T : Th α} {a : α} {v : V}
theorem forL_nobk {ε α ρ b s : Type} {f : s → α → Mg ε (Fl ρ s s)} : ∀ (as : List α) (x : s) (y : b), forL (b := b) f as x ≠ M.ok (.bk y) ∧ forL (b := b) f as x ≠ M.ok (.ct y)
  | [], x, y => ⟨(fun z => nomatch z), (fun z => nomatch z)⟩
  | a :: r, x, y => by
    show Mg.bind (f x a) _ ≠ _ ∧ Mg.bind (f x a) _ ≠ _
    cases e : f x a with
    | none => exact ⟨(fun z => nomatch z), (fun z => nomatch z)⟩
    | some o =>
      cases o with
      | error e => exact ⟨(fun z => nomatch z), (fun z => nomatch z)⟩
      | ok o =>
        cases o with
        | ret v => exact ⟨(fun z => nomatch z), (fun z => nomatch z)⟩
        | bk z => exact ⟨(fun z => nomatch z), (fun z => nomatch z)⟩
        | nx z => exact forL_nobk r z y
        | ct z => exact forL_nobk r z y
/-- the thing at place j is lent through a statement -/
theorem ps_lend {st : Stmt} {m : Mg ε (Fl ρ b s)} (j : Nat) (hG : G[j]? = some (some (pn v (ob T a)))) (h : PS X st (tFS X.K W Eh1 tl (G.set j (some (pn v (bw T a)))) m R1 Gb1 N1)) (hc : ∀ e, Eh1.cls e = Eh.cls e)
    (hR : ∀ r w, Bk (pn v (ob T a)) j G (R1 r w) (R r w)) (nb : ∀ x, m ≠ M.ok (.bk x) ∧ m ≠ M.ok (.ct x)) (hN : ∀ x, Bk (pn v (ob T a)) j G (N1 x) (N x)) (hE : ∀ e, Bk (pn v (ob T a)) j G (Eh1.G e) (Eh.G e)) (hj : j < X.N.length → j ∉ tl := by decide) :
    PS X st (tFS X.K W Eh tl G m R Gb N) := ⟨fun pins s' σ H D I ⟨B, F, T0⟩ => h.run pins s' σ H D I (by
  obtain ⟨ms, z⟩ := T0.st.sl
  have hj' : j < σ.length → j ∉ tl := by rw [I.len]; exact hj
  refine ⟨⟨Hdj B.Hd F H (ms j), ownAt (G.set j none) ms, F, H, σ⟩, F, T0.st.lend z hG, T0.ne, ?_, ?_, ?_, ?_, ?_⟩
  · exact fun r e w σ' F' H' st' => T0.ret r e w σ' F' H' (T0.st.unlend z hG hj' (hR r w) st')
  · exact fun x e σ' F' H' st' => T0.nx x e σ' F' H' (T0.st.unlend z hG hj' (hN x) st')
  · exact fun x e => absurd e (nb x).1
  · exact fun x e => absurd e (nb x).2
  · intro e q σ' F' H' st'
    have := T0.er e q σ' F' H' (T0.st.unlend z hG hj' (hE e) st')
    rw [← hc e] at this
    exact this)⟩
end
/-! ### statements with expressions that change things -/
section
variable {ε : Type} {Eh : EH ε} {X : Cx} {W : WX} {G : Gm} {tl : List Nat} {ρ b s : Type} {R : ρ → V → Gm} {Gb : b → Gm} {N : s → Gm} {α β γ : Type}
theorem ToldS.tellX {K : PySem.W.Frag} {ma : Mg ε α} {f : α → Mg ε (Fl ρ b s)} {D : Ends} {σ : St} {H : Hp} {B : Bs} {F : Hp} {N1 : α → V → Gm} {P : α → V → Hp → Hp → Prop} (T : ToldS K W Eh tl G (ma.bind f) R Gb N D σ H B F)
    (k : ∀ a v F1 H1, ma = M.ok a → Ex F F1 → ToldS K W Eh tl (N1 a v) (f a) R Gb N D σ H1 B F1 → P a v F1 H1) : ToldX K W Eh tl G ma N1 P σ H B F := by
  refine ⟨T.st, ?_, fun a e v F1 H1 x st => k a v F1 H1 e x (T.rest e st), ?_⟩
  · intro e
    exact T.ne (by rw [e]; rfl)
  · rintro e rfl F1 H1 st
    exact T.er e rfl σ F1 H1 st
theorem fx_expr {e : Expr} {pos : Pos} {rest : List Stmt} {m : Mg ε α} {A : α → Hp → V → Prop} {N1 : α → V → Gm} {f : α → Mg ε (Fl ρ b s)} (he : FX X W Eh tl G e m A N1) (hr : ∀ a v, FS X W Eh tl (N1 a v) rest (f a) R Gb N) (hs : swapsWith e none pos.line X.env = pure false := by rfl) :
    FS X W Eh tl G (.Expr e pos :: rest) (m.bind f) R Gb N := PSs.weak (pss_cons (ps_expr he hs) (pss_ex fun z : α × V => hr z.1 z.2)) fun D σ H ⟨B, F, D1⟩ =>
  ⟨B, F, D1.tellX fun a v F1 H1 ea x D2 r => ⟨(a, v), B, F1, D2⟩⟩
/-- x = e, the answer frozen -/
theorem fx_set (i : Nat) {x : Str} {e : Expr} {pos pos' : Pos} {rest : List Stmt} {m : Mg ε α} {A : Rf α} {N1 : α → Gm} {f : α → Mg ε (Fl ρ b s)} (nd : X.N.Nodup) (he : FX X W Eh tl G e m A.r (fun a _ => N1 a)) (hr : ∀ a, FS X W Eh tl ((N1 a).set i (some (sv A a))) rest (f a) R Gb N)
    (hl : ∀ a, i < (N1 a).length := by exact fun _ => Nat.le_of_ble_eq_true rfl) (hi : X.N[i]? = some x := by rfl) (hm : i ∈ tl := by decide) (hx : Loc X.env.scope x := by first | exact Or.inl rfl | exact Or.inr rfl) (hs : swapsWith e (some (.Name x pos')) pos.line X.env = pure false := by rfl) (hf : X.fn x = true ∨ X.env.scope.names.lookup x = some .local := by first | exact .inl rfl | exact .inr rfl | assumption) :
    FS X W Eh tl G (.Assign [.Name x pos'] e pos :: rest) (m.bind f) R Gb N := PSs.weak (pss_cons (ps_set nd hi hx he hs hf) (pss_ex hr)) fun D σ H ⟨B, F, D1⟩ =>
  ⟨B, F, D1.tellX (N1 := fun a _ => N1 a) fun a v F1 H1 ea x D2 r => ⟨a, B, F1, D2.rest (ma := (M.ok a : Mg ε α)) (f := f) (p := fun e => e) rfl (D2.st.set (T := sv A a) (mv := []) (Gr.refl D2.st.fh) hm (hl a) ⟨r, rfl⟩ fun x hx => nomatch hx)⟩⟩
/-- a thing moves from a place beyond the slots into a slot -/
theorem Stt.move {B : Bs} {F H : Hp} {σ : St} {i g : Nat} {v : V} {s : Sl} (st : Stt B tl G F H σ) (hg : G[g]? = some (some (pn v s))) (hn : σ.length ≤ g) (hm : i ∈ tl) (hi : i < σ.length) : Stt B tl ((G.set i (some (pn v s))).set g none) F H (σ.set i (some v)) := by
  obtain ⟨ms, z⟩ := st.sl
  have hgl : g < G.length := (List.getElem?_eq_some_iff.mp hg).1
  have hil : i < G.length := Nat.lt_of_lt_of_le hi st.len
  have hne : i ≠ g := by omega
  have get : ∀ {k t}, ((G.set i (some (pn v s))).set g none)[k]? = some (some t) → k ≠ g ∧ ((k = i ∧ t = pn v s) ∨ (k ≠ i ∧ G[k]? = some (some t))) := fun {k t} e => by
    by_cases h : k = g
    · subst h
      rw [List.getElem?_set_self (by rw [List.length_set]; exact hgl)] at e
      cases e
    · rw [List.getElem?_set_ne (Ne.symm h)] at e
      by_cases h' : k = i
      · subst h'
        rw [List.getElem?_set_self hil] at e
        cases e
        exact ⟨h, .inl ⟨rfl, rfl⟩⟩
      · rw [List.getElem?_set_ne (Ne.symm h')] at e
        exact ⟨h, .inr ⟨h', e⟩⟩
  let nm : Nat → List Addr := fun k => if k = g then [] else if k = i then ms g else ms k
  have nmg : nm g = [] := if_pos rfl
  have nmi : nm i = ms g := by show (if i = g then [] else if i = i then ms g else ms i) = _; rw [if_neg hne, if_pos rfl]
  have nmk : ∀ {k}, k ≠ g → k ≠ i → nm k = ms k := fun {k} h h' => by show (if k = g then [] else if k = i then ms g else ms k) = _; rw [if_neg h, if_neg h']
  refine ⟨st.g, st.bh, fun k hk => ?_, by rw [List.length_set]; exact st.ls, by rw [List.length_set, List.length_set, List.length_set]; exact st.len, nm, ⟨fun k t e => ?_, fun k e => ?_, fun k x hx => ?_, fun k t e o x hx => ?_, fun k t e o x hx k' hk' hm' => ?_⟩⟩
  · rw [List.getElem?_set_ne (fun q => hk (by rw [← q]; exact hm))]
    exact st.fr k hk
  · obtain ⟨h, ⟨rfl, rfl⟩ | ⟨h', e⟩⟩ := get e
    · obtain ⟨w, _, rfl, h2⟩ := z.has g _ hg
      refine ⟨w, fun _ => List.getElem?_set_self hi, rfl, ?_⟩
      rw [nmi]
      exact h2
    · obtain ⟨w, h1, h2⟩ := z.has k t e
      refine ⟨w, fun hl => ?_, ?_⟩
      · rw [List.getElem?_set_ne (Ne.symm h')]
        exact h1 (by rw [List.length_set] at hl; exact hl)
      · rw [nmk h h']
        exact h2
  · by_cases h : k = g
    · subst h
      exact nmg
    · by_cases h' : k = i
      · subst h'
        exact absurd (by rw [List.getElem?_set_ne (Ne.symm h), List.getElem?_set_self hil]) (e (pn v s))
      · rw [nmk h h']
        exact z.non k fun t q => e t (by rw [List.getElem?_set_ne (Ne.symm h), List.getElem?_set_ne (Ne.symm h')]; exact q)
  · by_cases h : k = g
    · subst h
      rw [nmg] at hx; cases hx
    · by_cases h' : k = i
      · subst h'
        rw [nmi] at hx
        exact z.mem g x hx
      · rw [nmk h h'] at hx
        exact z.mem k x hx
  · obtain ⟨h, ⟨rfl, rfl⟩ | ⟨h', e⟩⟩ := get e
    · rw [nmi] at hx
      exact z.own g _ hg o x hx
    · rw [nmk h h'] at hx
      exact z.own k t e o x hx
  · have back : ∀ {k' x}, x ∈ nm k' → ∃ k0, x ∈ ms k0 ∧ ((k' = i ∧ k0 = g) ∨ (k' ≠ i ∧ k' ≠ g ∧ k0 = k')) := fun {k' x} hx => by
      by_cases h : k' = g
      · subst h
        rw [nmg] at hx; cases hx
      · by_cases h' : k' = i
        · subst h'
          rw [nmi] at hx
          exact ⟨g, hx, .inl ⟨rfl, rfl⟩⟩
        · rw [nmk h h'] at hx
          exact ⟨k', hx, .inr ⟨h', h, rfl⟩⟩
    obtain ⟨k0, h1, h2⟩ := back hx
    obtain ⟨k1, h3, h4⟩ := back hm'
    obtain ⟨hkg, hk⟩ := get e
    have hG0 : G[k0]? = some (some t) := by
      rcases hk with ⟨rfl, rfl⟩ | ⟨h', e⟩
      · rcases h2 with ⟨_, rfl⟩ | ⟨q, _, _⟩
        · exact hg
        · exact absurd rfl q
      · rcases h2 with ⟨q, _⟩ | ⟨_, _, rfl⟩
        · exact absurd q h'
        · exact e
    refine z.sep k0 t hG0 o x h1 k1 (fun q => hk' ?_) h3
    rcases h2 with ⟨a1, a2⟩ | ⟨a1, a2, a3⟩ <;> rcases h4 with ⟨b1, b2⟩ | ⟨b1, b2, b3⟩ <;> omega
/-- x = e, the answer one's own: it stands at place g and moves to x -/
theorem fx_setO (i g : Nat) {x : Str} {e : Expr} {pos pos' : Pos} {rest : List Stmt} {m : Mg ε α} {N1 : α → V → Gm} {S : α → Sl} {f : α → Mg ε (Fl ρ b s)} (nd : X.N.Nodup) (he : FX X W Eh tl G e m (fun _ _ _ => True) N1) (hg : ∀ a v, (N1 a v)[g]? = some (some (pn v (S a)))) (hr : ∀ a v, FS X W Eh tl (((N1 a v).set i (some (pn v (S a)))).set g none) rest (f a) R Gb N)
    (hgn : X.N.length ≤ g := by exact Nat.le_of_ble_eq_true rfl) (hi : X.N[i]? = some x := by rfl) (hm : i ∈ tl := by decide) (hx : Loc X.env.scope x := by first | exact Or.inl rfl | exact Or.inr rfl) (hs : swapsWith e (some (.Name x pos')) pos.line X.env = pure false := by rfl) (hf : X.fn x = true ∨ X.env.scope.names.lookup x = some .local := by first | exact .inl rfl | exact .inr rfl | assumption) :
    FS X W Eh tl G (.Assign [.Name x pos'] e pos :: rest) (m.bind f) R Gb N := ⟨fun pins s' σ H D I ⟨B, F, D1⟩ => (pss_cons (ps_set nd hi hx he hs hf) (pss_ex fun z : α × V => hr z.1 z.2)).run pins s' σ H D I
  ⟨B, F, D1.tellX fun a v F1 H1 ea x D2 r => ⟨(a, v), B, F1, D2.rest (ma := (M.ok a : Mg ε α)) (f := f) (p := fun e => e) rfl (D2.st.move (hg a v) (by rw [I.len]; exact hgn) hm (by rw [I.len]; exact (List.getElem?_eq_some_iff.mp hi).1))⟩⟩⟩
/-- return e, the answer frozen; g: its place -/
theorem fx_ret (g : Nat) {e : Expr} {pos : Pos} {m : Mg ε α} {A : Rf α} {N1 : α → Gm} {mk : α → ρ} (he : FX X W Eh tl G e m A.r (fun a _ => N1 a)) (hR : ∀ a v, Imp ((N1 a).set g (some (pn v (sv A a)))) (R (mk a) v)) (hg : X.N.length ≤ g := by exact Nat.le_of_ble_eq_true rfl) (hl : ∀ a, g < (N1 a).length := by exact fun _ => Nat.le_of_ble_eq_true rfl) :
    FS X W Eh tl G [.Return (some e) pos] (m.bind fun a => M.ok (Fl.ret (b := b) (s := s) (mk a))) R Gb N := ⟨fun pins s' σ H D I ⟨B, F, D1⟩ => (pss_one (ps_ret he)).run pins s' σ H D I
  ⟨B, F, D1.tellX (N1 := fun a _ => N1 a) fun a v F1 H1 ea x D2 r => D2.ret (mk a) rfl v σ F1 H1 (hR a v _ _ _ _ _ (D2.st.ghost (T := pn v (sv A a)) (mv := []) (Gr.refl D2.st.fh) (by rw [I.len]; exact hg) (hl a) ⟨rfl, r, rfl⟩ fun x hx => nomatch hx))⟩⟩
/-- .. one's own, where it stands -/
theorem fx_retO {e : Expr} {pos : Pos} {m : Mg ε α} {N1 : α → V → Gm} {mk : α → ρ} (he : FX X W Eh tl G e m (fun _ _ _ => True) N1) (hR : ∀ a v, Imp (N1 a v) (R (mk a) v)) :
    FS X W Eh tl G [.Return (some e) pos] (m.bind fun a => M.ok (Fl.ret (b := b) (s := s) (mk a))) R Gb N := PSs.weak (pss_one (ps_ret he)) fun D σ H ⟨B, F, D1⟩ =>
  ⟨B, F, D1.tellX fun a v F1 H1 ea x D2 r => D2.ret (mk a) rfl v σ F1 H1 (hR a v _ _ _ _ _ D2.st)⟩
/-! tests that change things -/
def tXT (K : PySem.W.Frag) (W : WX) (Eh : EH ε) (tl : List Nat) (G : Gm) (m : Mg ε α) (tb : α → Bool) (N : α → Gm) : TT := fun σ H Q => ∃ B F, ToldX K W Eh tl G m (fun a _ => N a) (fun a _ _ H' => Q (tb a) H') σ H B F
abbrev FXT (X : Cx) (W : WX) (Eh : EH ε) (tl : List Nat) (G : Gm) (e : Expr) (m : Mg ε α) (tb : α → Bool) (N : α → Gm) : Prop := PT X e (tXT X.K W Eh tl G m tb N)
theorem fxt_val {e : Expr} {m : Mg ε α} {tb : α → Bool} {N1 : α → Gm} (h : FX X W Eh tl G e m (fun a _ v => v = .bl (tb a)) (fun a _ => N1 a)) (he : ∀ whole, isTrue e X.env whole = (do let v ← whole; standAt e.pos; holding [v] (truthy v)) := by intro _; rfl) : FXT X W Eh tl G e m tb N1 :=
  PT.weak (pt_val h he) fun σ H Q ⟨B, F, T⟩ => ⟨B, F, T.st, T.ne, fun a e v F' H' x st ev => ⟨tb a, ev, T.ok a e v F' H' x st⟩, T.er⟩
theorem fxt_not {e : Expr} {pos : Pos} {m : Mg ε α} {tb : α → Bool} {N1 : α → Gm} (h : FXT X W Eh tl G e m tb N1) : FXT X W Eh tl G (.UnaryOp .Not e pos) m (fun a => !tb a) N1 := PT.weak (pt_not h) fun σ H Q ⟨B, F, T⟩ => ⟨B, F, T.st, T.ne, T.ok, T.er⟩
theorem ToldS.testX {K : PySem.W.Frag} {ma : Mg ε α} {tb : α → Bool} {f : α → Mg ε (Fl ρ b s)} {D : Ends} {σ : St} {H : Hp} {B : Bs} {F : Hp} {N1 : α → Gm} {P : Bool → Hp → Prop} (T : ToldS K W Eh tl G (ma.bind f) R Gb N D σ H B F)
    (k : ∀ a F1 H1, ma = M.ok a → ToldS K W Eh tl (N1 a) (f a) R Gb N D σ H1 B F1 → P (tb a) H1) : tXT K W Eh tl G ma tb N1 σ H P := ⟨B, F, T.tellX (N1 := fun a _ => N1 a) fun a v F1 H1 e x D2 => k a F1 H1 e D2⟩
theorem fx_ifend {c : Expr} {a d : List Stmt} {pos : Pos} {mc : Mg ε α} {tb : α → Bool} {N1 : α → Gm} {ma md : α → Mg ε (Fl ρ b s)} (hc : FXT X W Eh tl G c mc tb N1) (ha : ∀ x, FS X W Eh tl (N1 x) a (ma x) R Gb N) (hd : ∀ x, FS X W Eh tl (N1 x) d (md x) R Gb N) : FS X W Eh tl G [.If c a d pos] (mc.bind fun x => if tb x = true then ma x else md x) R Gb N :=
  PSs.weak (pss_one (ps_if hc (pss_ex ha) (pss_ex hd))) fun D σ H ⟨B, F, T⟩ => T.testX fun x F1 H1 _ T1 => by
    cases q : tb x with
    | true => rw [q] at T1; exact ⟨x, B, F1, T1⟩
    | false => rw [q] at T1; exact ⟨x, B, F1, T1⟩
theorem fx_if1 {c : Expr} {a rest : List Stmt} {st : Stmt} {pos : Pos} {mc : Mg ε α} {tb : α → Bool} {N1 : α → Gm} {ma mr : α → Mg ε (Fl ρ b s)} (hc : FXT X W Eh tl G c mc tb N1) (ha : ∀ x (N' : s → Gm), FS X W Eh tl (N1 x) a (ma x) R Gb N') (hr : ∀ x, FS X W Eh tl (N1 x) (st :: rest) (mr x) R Gb N) :
    FS X W Eh tl G (.If c a [] pos :: st :: rest) (mc.bind fun x => if tb x = true then ma x else mr x) R Gb N :=
  PSs.weak (pss_cons (ps_if hc (pss_ex fun x => ha x fun _ => [some slF]) pss_nil) (pss_ex hr)) fun D σ H ⟨B, F, T⟩ => by
    unfold tSeq tIfS
    refine T.testX fun x F1 H1 _ T1 => ?_
    cases q : tb x with
    | true => rw [q] at T1; exact ⟨x, B, F1, T1.st, T1.ne, T1.ret, fun y e σ' F' H' st => st.never.elim, T1.bk, T1.ct, T1.er⟩
    | false => rw [q] at T1; exact ⟨x, B, F1, T1⟩
theorem px_ifj {c : Expr} {a d : List Stmt} {pos : Pos} {mc : Mg ε α} {tb : α → Bool} {N1 : α → Gm} {ma md : α → Mg ε (Fl ρ b s)} (hc : FXT X W Eh tl G c mc tb N1) (ha : ∀ x, FS X W Eh tl (N1 x) a (ma x) R Gb N) (hd : ∀ x, FS X W Eh tl (N1 x) d (md x) R Gb N) : PS X (.If c a d pos) (tFS X.K W Eh tl G (mc.bind fun x => if tb x = true then ma x else md x) R Gb N) :=
  PS.weak (ps_if hc (pss_ex ha) (pss_ex hd)) fun D σ H ⟨B, F, T⟩ => T.testX fun x F1 H1 _ T1 => by
    cases q : tb x with
    | true => rw [q] at T1; exact ⟨x, B, F1, T1⟩
    | false => rw [q] at T1; exact ⟨x, B, F1, T1⟩
/-! a pure expression as one that changes things -/
theorem fx_pure {e : Expr} {p : Er → ε} {m : M α} {A : Rf α} (h : FE X W G e m A.up) (hp : Pay Eh G p := by exact pay0 rfl) : FX X W Eh tl G e (m.bindP p fun a => M.ok a) A.r (fun _ _ => G) :=
  PE.weak h fun σ H Q ⟨B, F, T⟩ => ⟨B, tl, F, T.tellE hp fun a F1 H1 ea g T1 v r => T1.ok a rfl v F1 H1 (Ex.refl _) T1.st r⟩
end
end LK
namespace LK
open PySem L2
theorem bindP_ok {ε1 ε α β : Type} (p : ε1 → ε) (a : α) (f : α → Mg ε β) : Mg.bindP p (M.ok a) f = f a := rfl
theorem bindP_err {ε1 ε α β : Type} (p : ε1 → ε) (e : ε1) (f : α → Mg ε β) : Mg.bindP p (M.err e) f = M.err (p e) := rfl
/-! ### a thing moves from a slot to a place beyond the slots -/
theorem Stt.shift {B : Bs} {tl : List Nat} {G : Gm} {F H : Hp} {σ : St} {i g : Nat} {v : V} {s : Sl} (st : Stt B tl G F H σ) (hi : G[i]? = some (some (pn v s))) (hn : σ.length ≤ g) (hgl : g < G.length) (hne : i ≠ g) : Stt B tl ((G.set g (some (pn v s))).set i none) F H σ := by
  obtain ⟨ms, z⟩ := st.sl
  have hil : i < G.length := (List.getElem?_eq_some_iff.mp hi).1
  have get : ∀ {k t}, ((G.set g (some (pn v s))).set i none)[k]? = some (some t) → k ≠ i ∧ ((k = g ∧ t = pn v s) ∨ (k ≠ g ∧ G[k]? = some (some t))) := fun {k t} e => by
    by_cases h : k = i
    · subst h
      rw [List.getElem?_set_self (by rw [List.length_set]; exact hil)] at e
      cases e
    · rw [List.getElem?_set_ne (Ne.symm h)] at e
      by_cases h' : k = g
      · subst h'
        rw [List.getElem?_set_self hgl] at e
        cases e
        exact ⟨h, .inl ⟨rfl, rfl⟩⟩
      · rw [List.getElem?_set_ne (Ne.symm h')] at e
        exact ⟨h, .inr ⟨h', e⟩⟩
  let nm : Nat → List Addr := fun k => if k = i then [] else if k = g then ms i else ms k
  have nmi : nm i = [] := if_pos rfl
  have nmg : nm g = ms i := by show (if g = i then [] else if g = g then ms i else ms g) = _; rw [if_neg (Ne.symm hne), if_pos rfl]
  have nmk : ∀ {k}, k ≠ i → k ≠ g → nm k = ms k := fun {k} h h' => by show (if k = i then [] else if k = g then ms i else ms k) = _; rw [if_neg h, if_neg h']
  refine ⟨st.g, st.bh, st.fr, st.ls, by rw [List.length_set, List.length_set]; exact st.len, nm, ⟨fun k t e => ?_, fun k e => ?_, fun k x hx => ?_, fun k t e o x hx => ?_, fun k t e o x hx k' hk' hm' => ?_⟩⟩
  · obtain ⟨h, ⟨rfl, rfl⟩ | ⟨h', e⟩⟩ := get e
    · obtain ⟨w, _, rfl, h2⟩ := z.has i _ hi
      refine ⟨w, fun hl => absurd hl (by omega), rfl, ?_⟩
      rw [nmg]
      exact h2
    · obtain ⟨w, h1, h2⟩ := z.has k t e
      refine ⟨w, h1, ?_⟩
      rw [nmk h h']
      exact h2
  · by_cases h : k = i
    · subst h
      exact nmi
    · by_cases h' : k = g
      · subst h'
        exact absurd (by rw [List.getElem?_set_ne (Ne.symm h), List.getElem?_set_self hgl]) (e (pn v s))
      · rw [nmk h h']
        exact z.non k fun t q => e t (by rw [List.getElem?_set_ne (Ne.symm h), List.getElem?_set_ne (Ne.symm h')]; exact q)
  · by_cases h : k = i
    · subst h
      rw [nmi] at hx; cases hx
    · by_cases h' : k = g
      · subst h'
        rw [nmg] at hx
        exact z.mem i x hx
      · rw [nmk h h'] at hx
        exact z.mem k x hx
  · obtain ⟨h, ⟨rfl, rfl⟩ | ⟨h', e⟩⟩ := get e
    · rw [nmg] at hx
      exact z.own i _ hi o x hx
    · rw [nmk h h'] at hx
      exact z.own k t e o x hx
  · have back : ∀ {k' x}, x ∈ nm k' → ∃ k0, x ∈ ms k0 ∧ ((k' = g ∧ k0 = i) ∨ (k' ≠ i ∧ k' ≠ g ∧ k0 = k')) := fun {k' x} hx => by
      by_cases h : k' = i
      · subst h
        rw [nmi] at hx; cases hx
      · by_cases h' : k' = g
        · subst h'
          rw [nmg] at hx
          exact ⟨i, hx, .inl ⟨rfl, rfl⟩⟩
        · rw [nmk h h'] at hx
          exact ⟨k', hx, .inr ⟨h, h', rfl⟩⟩
    obtain ⟨k0, h1, h2⟩ := back hx
    obtain ⟨k1, h3, h4⟩ := back hm'
    obtain ⟨hki, hk⟩ := get e
    have hG0 : G[k0]? = some (some t) := by
      rcases hk with ⟨rfl, rfl⟩ | ⟨h', e⟩
      · rcases h2 with ⟨_, rfl⟩ | ⟨_, q, _⟩
        · exact hi
        · exact absurd rfl q
      · rcases h2 with ⟨q, _⟩ | ⟨_, _, rfl⟩
        · exact absurd q h'
        · exact e
    refine z.sep k0 t hG0 o x h1 k1 (fun q => hk' ?_) h3
    rcases h2 with ⟨a1, a2⟩ | ⟨a1, a2, a3⟩ <;> rcases h4 with ⟨b1, b2⟩ | ⟨b1, b2, b3⟩ <;> omega
section
variable {ε : Type} {Eh : EH ε} {X : Cx} {W : WX} {G : Gm} {tl : List Nat} {ρ b s : Type} {R : ρ → V → Gm} {Gb : b → Gm} {N : s → Gm} {α : Type}
/-- return x, x one's own thing -/
theorem fs_retM (i g : Nat) {e : Expr} {pos : Pos} {q : V} {sl : Sl} {r : ρ} {p : Er → ε} (h : FE X W G e (M.ok ()) (rV q)) (hG : G[i]? = some (some (pn q sl))) (hR : Imp ((G.set g (some (pn q sl))).set i none) (R r q)) (hg : X.N.length ≤ g := by exact Nat.le_of_ble_eq_true rfl) (hl : g < G.length := by exact Nat.le_of_ble_eq_true rfl) (hne : i ≠ g := by decide) (hp : Pay Eh G p := by exact pay0 rfl) :
    FS X W Eh tl G [.Return (some e) pos] (M.ok (Fl.ret (b := b) (s := s) r)) R Gb N := by
  refine ⟨fun pins s' σ H D I ⟨B, F, T'⟩ => (pss_one (ps_ret h)).run pins s' σ H D I ?_⟩
  have T1 : ToldS X.K W Eh tl G ((M.ok () : M Unit).bindP p fun _ => M.ok (Fl.ret (b := b) (s := s) r)) R Gb N D σ H B F := T'
  refine ⟨B, tl, F, T1.tellE hp fun a F1 H1 e g1 v rv => ?_⟩
  cases (show v = q from rv)
  exact T'.ret r rfl _ σ F1 H1 (hR _ _ _ _ _ ((T'.st.grow g1).shift hG (by rw [I.len]; exact hg) hl hne))
theorem fv_ret (g : Nat) {e : Expr} {pos : Pos} {p : Er → ε} {a : α} {A : Rl α} {T : α → Sl} {mk : α → ρ} (h : FE X W G e (M.ok a) A) (ht : Takes1 A T) (hR : ∀ a v, Imp (G.set g (some (pn v (T a)))) (R (mk a) v)) (hg : X.N.length ≤ g := by exact Nat.le_of_ble_eq_true rfl) (hl : g < G.length := by exact Nat.le_of_ble_eq_true rfl) (hp : Pay Eh G p := by exact pay0 rfl) :
    FS X W Eh tl G [.Return (some e) pos] (M.ok (Fl.ret (b := b) (s := s) (mk a))) R Gb N := fs_ret g h ht hR hg hl hp
theorem fv_ifend {c : Expr} {a d : List Stmt} {pos : Pos} {p : Er → ε} {x : Bool} {ma md : Mg ε (Fl ρ b s)} (hc : FT X W G c (M.ok x)) (ha : FS X W Eh tl G a ma R Gb N) (hd : FS X W Eh tl G d md R Gb N) (hp : Pay Eh G p := by exact pay0 rfl) : FS X W Eh tl G [.If c a d pos] (if x = true then ma else md) R Gb N := fs_ifend hc ha hd hp
theorem fv_if1 {c : Expr} {a rest : List Stmt} {st : Stmt} {pos : Pos} {p : Er → ε} {x : Bool} {ma mr : Mg ε (Fl ρ b s)} (hc : FT X W G c (M.ok x)) (ha : ∀ N' : s → Gm, FS X W Eh tl G a ma R Gb N') (hr : FS X W Eh tl G (st :: rest) mr R Gb N) (hp : Pay Eh G p := by exact pay0 rfl) :
    FS X W Eh tl G (.If c a [] pos :: st :: rest) (if x = true then ma else mr) R Gb N := fs_if1 hc ha hr hp
theorem pv_ifj {c : Expr} {a d : List Stmt} {pos : Pos} {p : Er → ε} {x : Bool} {ma md : Mg ε (Fl ρ b s)} (hc : FT X W G c (M.ok x)) (ha : FS X W Eh tl G a ma R Gb N) (hd : FS X W Eh tl G d md R Gb N) (hp : Pay Eh G p := by exact pay0 rfl) : PS X (.If c a d pos) (tFS X.K W Eh tl G (if x = true then ma else md) R Gb N) := ps_ifj hc ha hd hp
end
section
variable {ε : Type} {Eh : EH ε} {X : Cx} {W : WX} {tl tl' : List Nat} {ρ b s : Type} {R : ρ → V → Gm} {Gs : s → Gm} {α : Type} {A : Rf α} {f : s → α → Mg ε (Fl ρ s s)}
theorem pv_forF {γ : Type} {e : Expr} {pos : Pos} {tg : Expr} {body : List Stmt} {G : Gm} {kk : Nat} {p : Er → ε} {c : γ} {Rs : Rl γ} {l : γ → List α} {as : List α} {G2 : s × α → Gm} {x0 : s} {Gb : b → Gm} (C : Cok X W kk) (he : FE X W G e (M.ok c) Rs) (hS : Src X.K A Gs Rs l) (hG : Imp G (Gs x0)) (hg : FG X tl' (fun z : s × α => Gs z.1) tg A (fun z => z.2) G2)
    (hb : ∀ x a, FS X W Eh tl' (G2 (x, a)) body (f x a) R Gs Gs) (hl : l c = as := by rfl) (ht : ∀ i ∈ tl', i ∈ tl := by decide) (hs : ∀ x, foldedSetIterable e X.env x = pure x := by intro _; rfl) (hp : Pay Eh G p := by exact pay0 rfl) : PS X (.For tg e body [] pos) (tFS X.K W Eh tl G (forL f as x0) R Gb Gs) := by
  rw [← hl]
  exact ps_forF C he hS hG hg hb ht hs hp
theorem pv_forR {e : Expr} {p cpos pos : Pos} {tg : Expr} {body : List Stmt} {G : Gm} {kk : Nat} {pp : Er → ε} {n : Int} {f : s → Int → Mg ε (Fl ρ s s)} {G2 : s × Int → Gm} {x0 : s} {Gb : b → Gm} (C : Cok X W kk) (hm : X.mg "range" = none) (he : FE X W G e (M.ok n) fInt.up) (hG : Imp G (Gs x0)) (hg : FG X tl' (fun z : s × Int => Gs z.1) tg fInt (fun z => z.2) G2)
    (hb : ∀ x a, FS X W Eh tl' (G2 (x, a)) body (f x a) R Gs Gs) (ht : ∀ i ∈ tl', i ∈ tl := by decide) (hgl : Gl X "range" := by rfl) (hst : starEach [e] X.env = [(false, eval e X.env)] := by rfl) (hs : ∀ x, foldedSetIterable (.Call (.Name "range" p) [e] [] cpos) X.env x = pure x := by intro _; rfl) (hp : Pay Eh G pp := by exact pay0 rfl) :
    PS X (.For tg (.Call (.Name "range" p) [e] [] cpos) body [] pos) (tFS X.K W Eh tl G (M.need (-(2 ^ 62) ≤ n ∧ n < 2 ^ 62) (forL f (rngL n) x0)) R Gb Gs) := ps_forR C hm he hG hg hb ht hgl hst hs hp
theorem pl_forR {e : Expr} {p cpos pos : Pos} {tg : Expr} {body : List Stmt} {G : Gm} {kk : Nat} {pp : Er → ε} {n : Int} {f : s → Int → Mg ε (Fl ρ s s)} {G2 : s × Int → Gm} {x0 : s} {Gb : b → Gm} (C : Cok X W kk) (hm : X.mg "range" = none) (he : FE X W G e (M.ok n) fInt.up) (hn : -(2 ^ 62) ≤ n ∧ n < 2 ^ 62) (hG : Imp G (Gs x0)) (hg : FG X tl' (fun z : s × Int => Gs z.1) tg fInt (fun z => z.2) G2)
    (hb : ∀ x a, FS X W Eh tl' (G2 (x, a)) body (f x a) R Gs Gs) (ht : ∀ i ∈ tl', i ∈ tl := by decide) (hgl : Gl X "range" := by rfl) (hst : starEach [e] X.env = [(false, eval e X.env)] := by rfl) (hs : ∀ x, foldedSetIterable (.Call (.Name "range" p) [e] [] cpos) X.env x = pure x := by intro _; rfl) (hp : Pay Eh G pp := by exact pay0 rfl) :
    PS X (.For tg (.Call (.Name "range" p) [e] [] cpos) body [] pos) (tFS X.K W Eh tl G (forL f (rngL n) x0) R Gb Gs) := by
  have h := pv_forR (pos := pos) (p := p) (cpos := cpos) (Gb := Gb) C hm he hG hg hb ht hgl hst hs hp
  rw [M.need_pos hn] at h
  exact h
theorem pv_forS {e : Expr} {pos : Pos} {tg : Expr} {body : List Stmt} {G : Gm} {kk : Nat} {p : Er → ε} {l : List Nat} {f : s → List Nat → Mg ε (Fl ρ s s)} {G2 : s × List Nat → Gm} {x0 : s} {Gb : b → Gm} (C : Cok X W kk) (he : FE X W G e (M.ok l) fTxt.up) (hG : Imp G (Gs x0)) (hg : FG X tl' (fun z : s × List Nat => Gs z.1) tg fTxt (fun z => z.2) G2)
    (hb : ∀ x a, FS X W Eh tl' (G2 (x, a)) body (f x a) R Gs Gs) (ht : ∀ i ∈ tl', i ∈ tl := by decide) (hs : ∀ x, foldedSetIterable e X.env x = pure x := by intro _; rfl) (hp : Pay Eh G p := by exact pay0 rfl) : PS X (.For tg e body [] pos) (tFS X.K W Eh tl G (forL f (signs l) x0) R Gb Gs) := ps_forS C he hG hg hb ht hs hp
end
end LK
namespace LK
open PySem L2
/-- a part of what is told -/
def Rf.on {α β : Type} (f : α → β) (A : Rf β) : Rf α := ⟨fun a F v => A.r (f a) F v, fun h x => A.sx h x⟩
theorem noS {G : Gm} {i : Nat} (h : (match G[i]? with
  | some (some _) => false
  | _ => true) = true) : ∀ t, G[i]? ≠ some (some t) := fun t e => by
  rw [e] at h
  cases h
/-- None or a value, compared -/
def dOpt {K : PySem.W.Frag} {α : Type} {A : Rf α} (D : Dt K A) (nz : ∀ a, PyData.eqv .none (D.d a) = false ∧ PyData.eqv (D.d a) .none = false) : Dt K (fOpt A) := ⟨fun o => match o with
  | none => .none
  | some a => D.d a, D.n, fun {a F H v} h x => by
    cases a with
    | none => cases (show v = V.non from h); exact .non
    | some a => exact D.at_ h.1 x, fun {a F v} h => by
    cases a with
    | none => exact ⟨rfl, Nat.zero_le _⟩
    | some a => exact D.ok h.1, fun a b => by
    cases a with
    | none =>
      cases b with
      | none => exact ⟨fun _ => rfl, fun _ => rfl⟩
      | some b => exact ⟨fun h => (by rw [(nz b).1] at h; cases h), fun h => (by cases h)⟩
    | some a =>
      cases b with
      | none => exact ⟨fun h => (by rw [(nz a).2] at h; cases h), fun h => (by cases h)⟩
      | some b => exact ⟨fun h => (by rw [(D.eq a b).mp h]), fun h => (D.eq a b).mpr (Option.some.inj h)⟩⟩
section
variable {ε : Type} {Eh : EH ε} {X : Cx} {W : WX} {G : Gm} {tl : List Nat} {k : Nat} {α ε1 ρ β : Type} {par : α → (Nat → V) → List Sl} {mir : α → Mg ε1 ρ} {res : ρ → Sl} {outs : ρ → (Nat → V) → List (V × Sl)} {cls : ε1 → Er} {outsE : ε1 → (Nat → V) → List (V × Sl)} {m : M β} {g : β → α} {w : Nat → V} {ks kt kte : List Nat} {κ : List (Option Nat)} {p : Er → ε} {q : ε1 → ε} {mm : Mg ε ρ} {par' : β → List Sl}
theorem fx_call' {j : Nat} {ps : List Str} {x : Str} {pp pos : Pos} {e : Expr} {es : List Expr} {A : ρ → Hp → V → Prop} {Ar : Ra β} (C : Cok X W k)
    (h : Cal X.prog X.w X.K X.mg X.base x ps j (spG X.K par mir res outs cls outsE)) (hj : j ≤ k) (ha : FA X W G (e :: es) m Ar) (hag : Ags G ks Ar par' κ) (hb : Beh Eh G X.N.length ks kt kte κ w outs cls outsE q) (hres : ∀ r Y F H v ms, (res r).r Y F H v ms → A r F v)
    (hg : Gl X x := by rfl) (hdb : (x == ("__debug__" : Str)) = false := by decide) (he : starEach (e :: es) X.env = (false, eval e X.env) :: starEach es X.env := by rfl) (hpl : (backTo pos (starEach es X.env)).any (·.1) = false := by rfl) (hp : Pay Eh G p := by exact pay0 rfl) (hm : (m.bindP p fun a => (mir (g a)).bindP q fun r => M.ok r) = mm := by rfl) (hpar : ∀ b, par (g b) w = par' b := by exact fun _ => rfl) :
    FX X W Eh tl G (.Call (.Name x pp) (e :: es) [] pos) mm A (fun r _ => setK G kt (outs r w)) := by
  rw [← hm]
  have hag : Ags G ks Ar (fun b => par (g b) w) κ := by rw [funext hpar]; exact hag
  exact fx_call C h hj ha hag hb hres hp hg hdb he hpl
theorem fxv_call {j : Nat} {ps : List Str} {x : Str} {pp pos : Pos} {e : Expr} {es : List Expr} {A : ρ → Hp → V → Prop} {Ar : Ra β} {a : β} (C : Cok X W k)
    (h : Cal X.prog X.w X.K X.mg X.base x ps j (spG X.K par mir res outs cls outsE)) (hj : j ≤ k) (ha : FA X W G (e :: es) (M.ok a) Ar) (hag : Ags G ks Ar par' κ) (hb : Beh Eh G X.N.length ks kt kte κ w outs cls outsE q) (hres : ∀ r Y F H v ms, (res r).r Y F H v ms → A r F v)
    (hg : Gl X x := by rfl) (hdb : (x == ("__debug__" : Str)) = false := by decide) (he : starEach (e :: es) X.env = (false, eval e X.env) :: starEach es X.env := by rfl) (hpl : (backTo pos (starEach es X.env)).any (·.1) = false := by rfl) (hp : Pay Eh G p := by exact pay0 rfl) (hm : ((mir (g a)).bindP q fun r => M.ok r) = mm := by rfl) (hpar : ∀ b, par (g b) w = par' b := by exact fun _ => rfl) :
    FX X W Eh tl G (.Call (.Name x pp) (e :: es) [] pos) mm A (fun r _ => setK G kt (outs r w)) := by
  rw [← hm]
  have hag : Ags G ks Ar (fun b => par (g b) w) κ := by rw [funext hpar]; exact hag
  exact fx_call C h hj ha hag hb hres hp hg hdb he hpl
theorem fx_callO' {j g0 : Nat} {ps : List Str} {x : Str} {pp pos : Pos} {e : Expr} {es : List Expr} {Ar : Ra β} (C : Cok X W k)
    (h : Cal X.prog X.w X.K X.mg X.base x ps j (spG X.K par mir res outs cls outsE)) (hj : j ≤ k) (ha : FA X W G (e :: es) m Ar) (hag : Ags G ks Ar par' κ) (hb : Beh Eh G X.N.length ks kt kte κ w outs cls outsE q) (hg0 : X.N.length ≤ g0 ∧ g0 < G.length ∧ g0 ∉ kt)
    (hg : Gl X x := by rfl) (hdb : (x == ("__debug__" : Str)) = false := by decide) (he : starEach (e :: es) X.env = (false, eval e X.env) :: starEach es X.env := by rfl) (hpl : (backTo pos (starEach es X.env)).any (·.1) = false := by rfl) (hp : Pay Eh G p := by exact pay0 rfl) (hm : (m.bindP p fun a => (mir (g a)).bindP q fun r => M.ok r) = mm := by rfl) (hpar : ∀ b, par (g b) w = par' b := by exact fun _ => rfl) :
    FX X W Eh tl G (.Call (.Name x pp) (e :: es) [] pos) mm (fun _ _ _ => True) (fun r v => setK G (g0 :: kt) ((v, res r) :: outs r w)) := by
  rw [← hm]
  have hag : Ags G ks Ar (fun b => par (g b) w) κ := by rw [funext hpar]; exact hag
  exact fx_callO C h hj ha hag hb hg0 hp hg hdb he hpl
theorem fxv_callO {j g0 : Nat} {ps : List Str} {x : Str} {pp pos : Pos} {e : Expr} {es : List Expr} {Ar : Ra β} {a : β} (C : Cok X W k)
    (h : Cal X.prog X.w X.K X.mg X.base x ps j (spG X.K par mir res outs cls outsE)) (hj : j ≤ k) (ha : FA X W G (e :: es) (M.ok a) Ar) (hag : Ags G ks Ar par' κ) (hb : Beh Eh G X.N.length ks kt kte κ w outs cls outsE q) (hg0 : X.N.length ≤ g0 ∧ g0 < G.length ∧ g0 ∉ kt)
    (hg : Gl X x := by rfl) (hdb : (x == ("__debug__" : Str)) = false := by decide) (he : starEach (e :: es) X.env = (false, eval e X.env) :: starEach es X.env := by rfl) (hpl : (backTo pos (starEach es X.env)).any (·.1) = false := by rfl) (hp : Pay Eh G p := by exact pay0 rfl) (hm : ((mir (g a)).bindP q fun r => M.ok r) = mm := by rfl) (hpar : ∀ b, par (g b) w = par' b := by exact fun _ => rfl) :
    FX X W Eh tl G (.Call (.Name x pp) (e :: es) [] pos) mm (fun _ _ _ => True) (fun r v => setK G (g0 :: kt) ((v, res r) :: outs r w)) := by
  rw [← hm]
  have hag : Ags G ks Ar (fun b => par (g b) w) κ := by rw [funext hpar]; exact hag
  exact fx_callO C h hj ha hag hb hg0 hp hg hdb he hpl
end
end LK
namespace LK
open PySem L2
/-! ### things of classes -/
/-- a field's content -/
structure Ce where
  rd : Hp → Hp → V → Prop
  ow : Hp → Hp → V → List Addr → Prop
  rst : ∀ {F X v F' X'}, rd F X v → XS F F' → XS X X' → rd F' X' v
  ost : ∀ {F H v ms F' H'}, ow F H v ms → XS F F' → (∀ x ∈ ms, ∀ o, H x = some o → H' x = some o) → ow F' H' v ms
  ord : ∀ {F H v ms X}, ow F H v ms → (∀ x ∈ ms, ∀ o, H x = some o → X x = some o) → Ex F X → rd F X v
def ce {α : Type} (T : Th α) (a : α) : Ce := ⟨T.rd a, T.ow a, T.rst, T.ost, T.ord⟩
abbrev Fs : Type := List (Str × Ce)
inductive RdA (F X : Hp) : Fs → List (Str × V) → Prop where
  | nil : RdA F X [] []
  | cons {f : Str} {c : Ce} {v : V} {cs : Fs} {fs : List (Str × V)} (h : c.rd F X v) (t : RdA F X cs fs) : RdA F X ((f, c) :: cs) ((f, v) :: fs)
inductive OwA (F H : Hp) : Fs → List (Str × V) → List Addr → Prop where
  | nil : OwA F H [] [] []
  | cons {f : Str} {c : Ce} {v : V} {cs : Fs} {fs : List (Str × V)} {m ms : List Addr} (h : c.ow F H v m) (t : OwA F H cs fs ms) (d : ∀ x ∈ m, x ∉ ms) : OwA F H ((f, c) :: cs) ((f, v) :: fs) (m ++ ms)
theorem RdA.st {F X F' X' : Hp} {cs : Fs} {fs : List (Str × V)} (h : RdA F X cs fs) (xf : XS F F') (xx : XS X X') : RdA F' X' cs fs := by
  induction h with
  | nil => exact .nil
  | cons h _ ih => exact .cons (Ce.rst _ h xf xx) ih
theorem OwA.st {F H F' H' : Hp} {cs : Fs} {fs : List (Str × V)} {ms : List Addr} (h : OwA F H cs fs ms) (xf : XS F F') (k : ∀ x ∈ ms, ∀ o, H x = some o → H' x = some o) : OwA F' H' cs fs ms := by
  induction h with
  | nil => exact .nil
  | cons h _ d ih => exact .cons (Ce.ost _ h xf fun x hx => k x (List.mem_append.mpr (.inl hx))) (ih fun x hx => k x (List.mem_append.mpr (.inr hx))) d
theorem OwA.rd {F H X : Hp} {cs : Fs} {fs : List (Str × V)} {ms : List Addr} (h : OwA F H cs fs ms) (k : ∀ x ∈ ms, ∀ o, H x = some o → X x = some o) (xf : Ex F X) : RdA F X cs fs := by
  induction h with
  | nil => exact .nil
  | cons h _ d ih => exact .cons (Ce.ord _ h (fun x hx => k x (List.mem_append.mpr (.inl hx))) xf) (ih fun x hx => k x (List.mem_append.mpr (.inr hx)))
/-- an instance of the class at C -/
def tB (C : Addr) : Th Fs := ⟨fun l F X v => ∃ p dx fs, v = .ref p ∧ X p = some (.ins C dx fs) ∧ RdA F X l fs,
  fun l F H v ms => ∃ p dx fs m, v = .ref p ∧ H p = some (.ins C dx fs) ∧ OwA F H l fs m ∧ p ∉ m ∧ ms = p :: m,
  fun ⟨p, dx, fs, e, h, q⟩ x y => ⟨p, dx, fs, e, ins_xs y h, q.st x y⟩,
  fun ⟨p, dx, fs, m, e, h, q, n, em⟩ x k => ⟨p, dx, fs, m, e, k p (by rw [em]; exact List.mem_cons_self) _ h, q.st x fun y hy => k y (by rw [em]; exact List.mem_cons_of_mem _ hy), n, em⟩,
  fun ⟨p, dx, fs, m, e, h, q, n, em⟩ k x => ⟨p, dx, fs, e, k p (by rw [em]; exact List.mem_cons_self) _ h, q.rd (fun y hy => k y (by rw [em]; exact List.mem_cons_of_mem _ hy)) x⟩⟩
abbrev bx (C : Addr) (l : Fs) : Sl := ob (tB C) l
theorem RdA.look {F X : Hp} {f : Str} {c : Ce} : ∀ {cs : Fs} {fs : List (Str × V)}, RdA F X cs fs → cs.lookup f = some c → ∃ v, fs.lookup f = some v ∧ c.rd F X v
  | _, _, .nil, h => by cases h
  | _, _, @RdA.cons _ _ g c' v cs fs h t, e => by
    rw [List.lookup_cons] at e ⊢
    cases q : f == g with
    | true => rw [q] at e; cases e; exact ⟨v, rfl, h⟩
    | false => rw [q] at e; exact t.look e
theorem RdA.keys {F X : Hp} : ∀ {cs : Fs} {fs : List (Str × V)}, RdA F X cs fs → fs.map (·.1) = cs.map (·.1)
  | _, _, .nil => rfl
  | _, _, .cons _ t => by rw [List.map_cons, List.map_cons, t.keys]
theorem OwA.keys {F H : Hp} {cs : Fs} {fs : List (Str × V)} {ms : List Addr} (h : OwA F H cs fs ms) : fs.map (·.1) = cs.map (·.1) := by
  induction h with
  | nil => rfl
  | cons _ _ _ ih => rw [List.map_cons, List.map_cons, ih]
theorem look_none {α β : Type} {f : Str} : ∀ {cs : List (Str × α)} {fs : List (Str × β)}, fs.map (·.1) = cs.map (·.1) → cs.lookup f = none → fs.lookup f = none
  | [], [], _, _ => rfl
  | [], _ :: _, h, _ => by simp at h
  | _ :: _, [], h, _ => by simp at h
  | (g, c) :: cs, (g', v) :: fs, h, e => by
    simp only [List.map_cons, List.cons.injEq] at h
    rw [h.1]
    rw [List.lookup_cons] at e ⊢
    cases q : f == g with
    | true => rw [q] at e; cases e
    | false => rw [q] at e; exact look_none h.2 e
def putC (f : Str) (c : Ce) : Fs → Fs
  | [] => [(f, c)]
  | (g, x) :: r => if g = f then (g, c) :: r else (g, x) :: putC f c r
/-- a field is written -/
theorem OwA.put {F H : Hp} {f : Str} {c : Ce} {v : V} {m : List Addr} (hc : c.ow F H v m) : ∀ {cs : Fs} {fs : List (Str × V)} {ms : List Addr}, OwA F H cs fs ms → (∀ x ∈ m, x ∉ ms) → ∃ ms', OwA F H (putC f c cs) (putF f v fs) ms' ∧ ∀ x ∈ ms', x ∈ ms ∨ x ∈ m
  | _, _, _, .nil, _ => ⟨m ++ [], .cons hc .nil (fun _ _ z => nomatch z), fun x hx => .inr (by simpa using hx)⟩
  | _, _, _, @OwA.cons _ _ g c' v' cs fs mg mr h t d, n => by
    unfold putC putF
    by_cases e : g = f
    · rw [if_pos e, if_pos e]
      refine ⟨m ++ mr, .cons hc t (fun x hx z => n x hx (List.mem_append.mpr (.inr z))), fun x hx => ?_⟩
      rcases List.mem_append.mp hx with z | z
      · exact .inr z
      · exact .inl (List.mem_append.mpr (.inr z))
    · rw [if_neg e, if_neg e]
      obtain ⟨ms', o, k⟩ := OwA.put hc t fun x hx z => n x hx (List.mem_append.mpr (.inr z))
      refine ⟨mg ++ ms', .cons h o (fun x hx z => ?_), fun x hx => ?_⟩
      · rcases k x z with q | q
        · exact d x hx q
        · exact n x q (List.mem_append.mpr (.inl hx))
      · rcases List.mem_append.mp hx with z | z
        · exact .inl (List.mem_append.mpr (.inl z))
        · rcases k x z with q | q
          · exact .inl (List.mem_append.mpr (.inr q))
          · exact .inr q
/-- one field's content taken out: its value stays -/
theorem OwA.take {F H : Hp} {f : Str} {α : Type} {T : Th α} {a : α} : ∀ {cs : Fs} {fs : List (Str × V)} {ms : List Addr}, OwA F H cs fs ms → cs.lookup f = some (ce T a) → ∃ v m ms', fs.lookup f = some v ∧ T.ow a F H v m ∧ OwA F H (putC f (ce (tF fVal) v) cs) fs ms' ∧ (∀ x, x ∈ ms ↔ x ∈ m ∨ x ∈ ms') ∧ ∀ x ∈ m, x ∉ ms'
  | _, _, _, .nil, h => by cases h
  | _, _, _, @OwA.cons _ _ g c' v' cs fs mg mr h t d, e => by
    rw [List.lookup_cons] at e ⊢
    unfold putC
    cases q : f == g with
    | true =>
      rw [q] at e
      cases e
      have eg : g = f := (eq_of_beq q).symm
      refine ⟨v', mg, [] ++ mr, rfl, h, by rw [if_pos eg]; exact .cons ⟨rfl, rfl⟩ t (fun _ z => nomatch z), fun x => by simp, fun x hx z => d x hx (by simpa using z)⟩
    | false =>
      rw [q] at e
      have eg : ¬ g = f := fun z => by rw [z, beq_self_eq_true] at q; cases q
      obtain ⟨v, m, ms', h1, h2, h3, h4, h5⟩ := OwA.take t e
      refine ⟨v, m, mg ++ ms', h1, h2, by rw [if_neg eg]; exact .cons h h3 (fun x hx z => d x hx ((h4 x).mpr (.inr z))), fun x => ?_, fun x hx z => ?_⟩
      · rw [List.mem_append, List.mem_append, h4 x]
        constructor
        · rintro (z | z | z)
          · exact .inr (.inl z)
          · exact .inl z
          · exact .inr (.inr z)
        · rintro (z | z | z)
          · exact .inr (.inl z)
          · exact .inl z
          · exact .inr (.inr z)
      · rcases List.mem_append.mp z with z | z
        · exact d x z ((h4 x).mpr (.inl hx))
        · exact h5 x hx z
/-- .. and given back -/
theorem OwA.back {F H : Hp} {f : Str} {c : Ce} {v : V} {m : List Addr} (hc : c.ow F H v m) : ∀ {cs : Fs} {fs : List (Str × V)} {ms : List Addr}, OwA F H cs fs ms → cs.lookup f = some (ce (tF fVal) v) → (∀ x ∈ m, x ∉ ms) → ∃ ms', OwA F H (putC f c cs) fs ms' ∧ ∀ x, x ∈ ms' ↔ x ∈ ms ∨ x ∈ m
  | _, _, _, .nil, h, _ => by cases h
  | _, _, _, @OwA.cons _ _ g c' v' cs fs mg mr h t d, e, n => by
    rw [List.lookup_cons] at e
    unfold putC
    cases q : f == g with
    | true =>
      rw [q] at e
      cases e
      obtain ⟨ev, em⟩ := h
      cases (show v' = v from ev)
      have em : mg = [] := em
      subst em
      have eg : g = f := (eq_of_beq q).symm
      rw [if_pos eg]
      exact ⟨m ++ mr, .cons hc t (fun x hx z => n x hx (by simpa using z)), fun x => by simp [or_comm]⟩
    | false =>
      rw [q] at e
      have eg : ¬ g = f := fun z => by rw [z, beq_self_eq_true] at q; cases q
      rw [if_neg eg]
      obtain ⟨ms', o, k⟩ := OwA.back hc t e fun x hx z => n x hx (List.mem_append.mpr (.inr z))
      refine ⟨mg ++ ms', .cons h o (fun x hx z => ?_), fun x => ?_⟩
      · rcases (k x).mp z with q | q
        · exact d x hx q
        · exact n x q (List.mem_append.mpr (.inl hx))
      · rw [List.mem_append, List.mem_append, k x, or_assoc]
/-! ### a field is read -/
/-- what a field hands on -/
structure CeG {α : Type} (c : Ce) (x : α) (R : Rl α) : Prop where
  run : ∀ F H v H0, c.rd F H v → R.r x H0 F H v
theorem cg_v {α : Type} {A : Rf α} {x : α} : CeG (ce (tF A) x) x A.up := ⟨fun F H v H0 h => h⟩
theorem cg_b {α : Type} {T : Th α} {x : α} : CeG (ce T x) x (nw T) := ⟨fun F H v H0 h => h⟩
theorem cg_V {v0 : V} : CeG (ce (tF fVal) v0) () (rV v0) := ⟨fun F H v H0 h => h⟩
section
variable {X : Cx} {W : WX} {G : Gm} {C : Addr} {l : Fs} {o : Expr} {f : Str} {pos : Pos} {α : Type} {c : Ce} {x : α} {R : Rl α}
theorem fe_fld (he : FE X W G o (M.ok l) (nw (tB C))) (hl : l.lookup f = some c) (hc : CeG c x R) (cC : Cls X.K C) (cN : NoAttr X.K C f) (hb : attributeBase o f X.env (eval o X.env) = eval o X.env := by rfl) : FE X W G (.Attribute o f pos) (M.ok x) R :=
  PE.weak (pe_fld he hb) fun σ H Q ⟨B, tl, F, T⟩ => by
    have T' : Told X.K W G ((M.ok l : M Fs).bind fun _ => M.ok x) (fun a F' H' => ∀ v, R.r a H F' H' v → Q v H') σ H B tl F := T
    refine ⟨B, tl, F, T'.seq fun a F1 H1 ea g1 T1 v rv => ?_⟩
    cases M.ok_inj ea
    obtain ⟨p, dx, fs, ev, hp, hr⟩ := rv
    obtain ⟨w, h1, h2⟩ := hr.look hl
    exact ⟨p, C, dx, fs, w, ev, hp, cC, cN, h1, T1.ok x rfl F1 H1 (Gr.refl g1.fh) w (hc.run F1 H1 w H h2)⟩
end
/-! ### a field is opened, closed -/
section
variable {B : Bs} {tl : List Nat} {G : Gm} {F H F' H' : Hp} {σ : St}
/-- two places are told anew in the same heap -/
theorem Stt.two {ms : Nat → List Addr} {k g : Nat} {t1 t2 : Option Sl} (st : Stt B tl G F H σ) (z : SlOk B G F H σ ms) (mk mg : List Addr) (hne : k ≠ g) (hk : k < G.length) (hg : g < G.length)
    (h1 : match t1 with
      | some s => ∃ v, (k < σ.length → σ[k]? = some (some v)) ∧ s.r B.Hd F H v mk
      | none => mk = [])
    (h2 : match t2 with
      | some s => ∃ v, (g < σ.length → σ[g]? = some (some v)) ∧ s.r B.Hd F H v mg
      | none => mg = [])
    (ok : ∀ x, x ∈ mk ∨ x ∈ mg → ∃ j t, (j = k ∨ j = g) ∧ G[j]? = some (some t) ∧ t.own = true ∧ x ∈ ms j) (dj : ∀ x ∈ mk, x ∉ mg) : Stt B tl ((G.set k t1).set g t2) F H σ := by
  have hkl : k < (G.set k t1).length := by rw [List.length_set]; exact hk
  have hgl : g < (G.set k t1).length := by rw [List.length_set]; exact hg
  have gk : ((G.set k t1).set g t2)[k]? = some t1 := by rw [List.getElem?_set_ne (Ne.symm hne), List.getElem?_set_self hk]
  have gg : ((G.set k t1).set g t2)[g]? = some t2 := List.getElem?_set_self hgl
  have gn : ∀ {j}, j ≠ k → j ≠ g → ((G.set k t1).set g t2)[j]? = G[j]? := fun a b => by rw [List.getElem?_set_ne (Ne.symm b), List.getElem?_set_ne (Ne.symm a)]
  let nm : Nat → List Addr := fun j => if j = k then mk else if j = g then mg else ms j
  have nk : nm k = mk := if_pos rfl
  have ng : nm g = mg := by show (if g = k then mk else if g = g then mg else ms g) = _; rw [if_neg (Ne.symm hne), if_pos rfl]
  have nn : ∀ {j}, j ≠ k → j ≠ g → nm j = ms j := fun {j} a b => by show (if j = k then mk else if j = g then mg else ms j) = _; rw [if_neg a, if_neg b]
  have inn : ∀ {j x}, x ∈ nm j → (x ∈ mk ∧ j = k) ∨ (x ∈ mg ∧ j = g) ∨ (x ∈ ms j ∧ j ≠ k ∧ j ≠ g) := fun {j x} hx => by
    by_cases a : j = k
    · subst a; rw [nk] at hx; exact .inl ⟨hx, rfl⟩
    · by_cases b : j = g
      · subst b; rw [ng] at hx; exact .inr (.inl ⟨hx, rfl⟩)
      · rw [nn a b] at hx; exact .inr (.inr ⟨hx, a, b⟩)
  have kg : ∀ {x}, x ∈ mk ∨ x ∈ mg → (F x = none ∧ NT H x) ∧ (B.H0 x = none ∨ x ∈ B.X0) ∧ ∀ i, i ≠ k → i ≠ g → x ∉ ms i := fun {x} hx => by
    obtain ⟨j, t, hj, e, o, hm⟩ := ok x hx
    refine ⟨z.mem j x hm, z.own j t e o x hm, fun i a b => z.sep j t e o x hm i fun q => ?_⟩
    rcases hj with hj | hj
    · exact a (q.trans hj)
    · exact b (q.trans hj)
  refine ⟨st.g, st.bh, st.fr, st.ls, by rw [List.length_set, List.length_set]; exact st.len, nm, ⟨fun j s e => ?_, fun j e => ?_, fun j x hx => ?_, fun j s e o x hx => ?_, fun j s e o x hx j' hj' hm => ?_⟩⟩
  · by_cases a : j = k
    · subst a
      rw [gk] at e
      cases e
      rw [nk]
      exact h1
    · by_cases b : j = g
      · subst b
        rw [gg] at e
        cases e
        rw [ng]
        exact h2
      · rw [gn a b] at e
        rw [nn a b]
        exact z.has j s e
  · by_cases a : j = k
    · subst a
      rw [nk]
      cases t1 with
      | none => exact h1
      | some s => exact absurd gk (e s)
    · by_cases b : j = g
      · subst b
        rw [ng]
        cases t2 with
        | none => exact h2
        | some s => exact absurd gg (e s)
      · rw [nn a b]
        exact z.non j fun s q => e s (by rw [gn a b]; exact q)
  · rcases inn hx with ⟨hx, _⟩ | ⟨hx, _⟩ | ⟨hx, _, _⟩
    · exact (kg (.inl hx)).1
    · exact (kg (.inr hx)).1
    · exact z.mem j x hx
  · rcases inn hx with ⟨hx, _⟩ | ⟨hx, _⟩ | ⟨hx, a, b⟩
    · exact (kg (.inl hx)).2.1
    · exact (kg (.inr hx)).2.1
    · rw [gn a b] at e
      exact z.own j s e o x hx
  · rcases inn hx with ⟨hx, ej⟩ | ⟨hx, ej⟩ | ⟨hx, a, b⟩ <;> rcases inn hm with ⟨hm, ej'⟩ | ⟨hm, ej'⟩ | ⟨hm, a', b'⟩
    · exact hj' (ej'.trans ej.symm)
    · exact dj x hx hm
    · exact (kg (.inl hx)).2.2 j' a' b' hm
    · exact dj x hm hx
    · exact hj' (ej'.trans ej.symm)
    · exact (kg (.inr hx)).2.2 j' a' b' hm
    · exact (kg (.inl hm)).2.2 j a b hx
    · exact (kg (.inr hm)).2.2 j a b hx
    · rw [gn a b] at e
      exact z.sep j s e o x hx j' hj' hm
theorem Stt.openF {k g : Nat} {q : V} {C : Addr} {l : Fs} {f : Str} {α : Type} {T : Th α} {a : α} (st : Stt B tl G F H σ) (hG : G[k]? = some (some (pn q (bx C l)))) (hl : l.lookup f = some (ce T a)) (hg : G[g]? = some none) (hn : σ.length ≤ g) :
    ∃ w, Stt B tl ((G.set k (some (pn q (bx C (putC f (ce (tF fVal) w) l))))).set g (some (pn w (ob T a)))) F H σ := by
  obtain ⟨ms, z⟩ := st.sl
  obtain ⟨u, h1, rfl, p, dx, fs, m, e, hp, ho, pn_, em⟩ := z.has k _ hG
  obtain ⟨w, m1, m2, h2, h3, h4, h5, h6⟩ := ho.take hl
  have hne : k ≠ g := fun z => by rw [z, hg] at hG; cases hG
  refine ⟨w, st.two z (p :: m2) m1 hne (List.getElem?_eq_some_iff.mp hG).1 (List.getElem?_eq_some_iff.mp hg).1 ⟨u, h1, rfl, p, dx, fs, m2, e, hp, h4, fun z => pn_ ((h5 p).mpr (.inr z)), rfl⟩ ⟨w, fun q => absurd q (by omega), rfl, h3⟩ (fun x hx => ⟨k, _, .inl rfl, hG, rfl, ?_⟩) fun x hx hm => ?_⟩
  · rw [em]
    rcases hx with hx | hx
    · rcases List.mem_cons.mp hx with z | z
      · exact z ▸ List.mem_cons_self
      · exact List.mem_cons_of_mem _ ((h5 x).mpr (.inr z))
    · exact List.mem_cons_of_mem _ ((h5 x).mpr (.inl hx))
  · rcases List.mem_cons.mp hx with z | z
    · subst z
      exact pn_ ((h5 _).mpr (.inl hm))
    · exact h6 x hm z
theorem Stt.closeF {k g : Nat} {q w : V} {C : Addr} {l : Fs} {f : Str} {α : Type} {T : Th α} {a : α} (st : Stt B tl G F H σ) (hG : G[k]? = some (some (pn q (bx C l)))) (hl : l.lookup f = some (ce (tF fVal) w)) (hg : G[g]? = some (some (pn w (ob T a)))) (hne : k ≠ g) :
    Stt B tl ((G.set k (some (pn q (bx C (putC f (ce T a) l))))).set g none) F H σ := by
  obtain ⟨ms, z⟩ := st.sl
  obtain ⟨u, h1, rfl, p, dx, fs, m, e, hp, ho, pn_, em⟩ := z.has k _ hG
  obtain ⟨u2, _, rfl, h3⟩ := z.has g _ hg
  have dis : ∀ x ∈ ms g, x ∉ ms k := fun x hx => z.sep g _ hg rfl x hx k hne
  obtain ⟨m', h4, h5⟩ := ho.back (f := f) (c := ce T a) h3 hl fun x hx hm => dis x hx (by rw [em]; exact List.mem_cons_of_mem _ hm)
  refine st.two z (p :: m') [] hne (List.getElem?_eq_some_iff.mp hG).1 (List.getElem?_eq_some_iff.mp hg).1 ⟨u, h1, rfl, p, dx, fs, m', e, hp, h4, fun q => ?_, rfl⟩ rfl (fun x hx => ?_) (fun x hx hm => nomatch hm)
  · rcases (h5 p).mp q with q | q
    · exact pn_ q
    · exact dis p q (by rw [em]; exact List.mem_cons_self)
  · rcases hx with hx | hx
    · rcases List.mem_cons.mp hx with y | y
      · exact ⟨k, _, .inl rfl, hG, rfl, by rw [em, y]; exact List.mem_cons_self⟩
      · rcases (h5 x).mp y with y | y
        · exact ⟨k, _, .inl rfl, hG, rfl, by rw [em]; exact List.mem_cons_of_mem _ y⟩
        · exact ⟨g, _, .inr rfl, hg, rfl, y⟩
    · exact nomatch hx
theorem Imp.close {k g : Nat} {q w : V} {C : Addr} {l : Fs} {f : Str} {α : Type} {T : Th α} {a : α} (hG : G[k]? = some (some (pn q (bx C l)))) (hl : l.lookup f = some (ce (tF fVal) w)) (hg : G[g]? = some (some (pn w (ob T a)))) (hne : k ≠ g := by decide) :
    Imp G ((G.set k (some (pn q (bx C (putC f (ce T a) l))))).set g none) := fun _ _ _ _ _ st => st.closeF hG hl hg hne
end
section
variable {ε : Type} {Eh : EH ε} {X : Cx} {W : WX} {G : Gm} {tl : List Nat} {ρ b s : Type} {R : ρ → V → Gm} {Gb : b → Gm} {N : s → Gm}
/-- the thing in a field is told at a place of its own -/
theorem fs_open {sts : List Stmt} {m : Mg ε (Fl ρ b s)} {q : V} {C : Addr} {l : Fs} {α : Type} {T : Th α} {a : α} (k g : Nat) (f : Str) (hG : G[k]? = some (some (pn q (bx C l)))) (hl : l.lookup f = some (ce T a)) (hg : G[g]? = some none) (h : ∀ w, FS X W Eh tl ((G.set k (some (pn q (bx C (putC f (ce (tF fVal) w) l))))).set g (some (pn w (ob T a)))) sts m R Gb N) (hn : X.N.length ≤ g := by exact Nat.le_of_ble_eq_true rfl) : FS X W Eh tl G sts m R Gb N :=
  ⟨fun pins s' σ H D I ⟨B, F, T1⟩ => by
    obtain ⟨w, st⟩ := T1.st.openF hG hl hg (by rw [I.len]; exact hn)
    exact (h w).run pins s' σ H D I ⟨B, F, st, T1.ne, T1.ret, T1.nx, T1.bk, T1.ct, T1.er⟩⟩
/-- what a field takes -/
structure TakesC {α : Type} (R : Rl α) (c : α → Ce) : Prop where
  run : ∀ a H0 F H v, R.r a H0 F H v → ∃ ms, (c a).ow F H v ms ∧ ∀ x ∈ ms, H0 x = none ∧ F x = none ∧ NT H x
theorem tc_v {α : Type} {A : Rf α} : TakesC A.up (ce (tF A)) := ⟨fun a H0 F H v h => ⟨[], ⟨h, rfl⟩, fun x hx => nomatch hx⟩⟩
theorem tc_o {α : Type} {T : Th α} : TakesC (ro T) (ce T) := ⟨fun a H0 F H v h => h⟩
theorem RdA.len {F X : Hp} {cs : Fs} {fs : List (Str × V)} (h : RdA F X cs fs) : fs.length = cs.length := by
  have := congrArg List.length h.keys
  simpa using this
theorem OwA.len {F H : Hp} {cs : Fs} {fs : List (Str × V)} {ms : List Addr} (h : OwA F H cs fs ms) : fs.length = cs.length := by
  have := congrArg List.length h.keys
  simpa using this
/-- o.f = e -/
theorem fs_fld {α : Type} (k : Nat) {q : V} {C : Addr} {l : Fs} {o value : Expr} {f : Str} {pos pos' : Pos} {rest : List Stmt} {p : Er → ε} {m : M α} {A : Rl α} {c : α → Ce} {g : α → Mg ε (Fl ρ b s)} (hG : G[k]? = some (some (pn q (bx C l)))) (ho : FE X W G o (M.ok ()) (rV q)) (hv : FE X W G value m A) (ht : TakesC A c)
    (cC : Cls X.K C) (cN : NoAttr X.K C f) (hr : ∀ a, FS X W Eh tl (G.set k (some (pn q (bx C (putC f (c a) l))))) rest (g a) R Gb N) (hl : l.length < 1000 := by exact Nat.lt_of_lt_of_le (Nat.lt_of_sub_pos (by decide)) (Nat.le_refl _))
    (hs : swapsWith value (some (.Attribute o f pos')) pos.line X.env = pure false := by rfl) (hp : Pay Eh G p := by exact pay0 rfl) :
    FS X W Eh tl G (.Assign [.Attribute o f pos'] value pos :: rest) (m.bindP p g) R Gb N :=
  PSs.weak (pss_cons (ps_fld ho hv hs) (pss_ex hr)) fun D σ H ⟨B, F, T0⟩ => by
    refine ⟨B, tl, F, T0.tellE hp fun a F1 H1 ea g1 v rv => ?_⟩
    have T1 := T0.rest ea (T0.st.grow g1)
    have T1' : ToldS X.K W Eh tl G ((M.ok () : M Unit).bindP p fun _ => g a) R Gb N D σ H1 B F1 := T1
    refine ⟨B, tl, F1, T1'.tellE hp fun _ F2 H2 _ g2 vo ro' => ?_⟩
    have T2 := T1'.rest (a := ()) rfl (T1.st.grow g2)
    cases (show vo = q from ro')
    obtain ⟨ms0, z0⟩ := T0.st.sl
    have z2 := z0.grow (g1.trans g2)
    obtain ⟨mv, h1, h2⟩ := ht.run a H F1 H1 v rv
    have h1' : (c a).ow F2 H2 v mv := (c a).ost h1 g2.f.xs fun x _ o ho => g2.h x o ho
    obtain ⟨u, hu, rfl, p0, dx, fs, m0, e, hp0, how, hpn, em⟩ := z2.has k _ hG
    subst e
    have old : ∀ x ∈ ms0 k, H x ≠ none := fun x hx => (z0.mem k x hx).2.ne
    have dis : ∀ x ∈ mv, x ∉ m0 := fun x hx hm => old x (by rw [em]; exact List.mem_cons_of_mem _ hm) (h2 x hx).1
    have hpm : p0 ∉ mv := fun hx => old p0 (by rw [em]; exact List.mem_cons_self) (h2 p0 hx).1
    obtain ⟨hF, hH⟩ := z2.mem k p0 (by rw [em]; exact List.mem_cons_self)
    have stay : ∀ x, x ≠ p0 → ∀ o, H2 x = some o → upd H2 p0 (.ins C dx (putF f v fs)) x = some o := fun x hx o ho => by rw [upd_ne hx]; exact ho
    obtain ⟨m', h4, h5⟩ := (how.put (f := f) (c := c a) h1' dis)
    have h6 : ∀ x ∈ m', x ≠ p0 := fun x hx q => by
      subst q
      rcases h5 _ hx with y | y
      · exact hpn y
      · exact hpm y
    refine ⟨p0, C, dx, fs, rfl, hp0, cC, cN, by rw [how.len]; exact hl, a, B, F2, ?_⟩
    refine T2.rest (p := p) (ma := (M.ok () : M Unit)) (f := fun _ => g a) (a := ()) rfl (G1 := G.set k (some (pn (.ref p0) (bx C (putC f (c a) l))))) ?_
    have gx : GrX (ms0 k) F H F2 (upd H2 p0 (.ins C dx (putF f v fs))) := ((g1.trans g2).x _).trans ((GrX.at T2.st.fh hF).mono fun x hx => by rw [List.mem_singleton.mp hx, em]; exact List.mem_cons_self)
    refine T0.st.mut (mv := p0 :: m') z0 hG rfl hu gx ⟨rfl, p0, dx, putF f v fs, m', rfl, upd_same, h4.st (XS.refl _) (fun x hx => stay x (h6 x hx)), fun q => h6 _ q rfl, rfl⟩ (fun y hy => ?_)
    rcases List.mem_cons.mp hy with hy | hy
    · subst hy
      exact ⟨.inl (by rw [em]; exact List.mem_cons_self), hF, NT.up⟩
    · rcases h5 y hy with q | q
      · have hm : y ∈ ms0 k := by rw [em]; exact List.mem_cons_of_mem _ q
        obtain ⟨a1, a2⟩ := z2.mem k y hm
        exact ⟨.inl hm, a1, a2.un (h6 y hy)⟩
      · obtain ⟨a1, a2, a3⟩ := h2 y q
        exact ⟨.inr a1, g2.no y a2 a3, (g2.h.nt a3).un (h6 y hy)⟩
end
end LK
/-! ### sorted of tuples of numbers and texts -/
namespace LK
open PySem L2
inductive At where
  | i (n : Int)
  | t (l : List Nat)
  deriving DecidableEq
def At.v : At → V
  | .i n => .int n
  | .t l => .str (S l)
def At.kd : At → Bool
  | .i _ => true
  | .t _ => false
def At.lt : At → At → Bool
  | .i a, .i b => decide (a < b)
  | .t a, .t b => decide (a < b)
  | .i _, .t _ => true
  | .t _, .i _ => false
theorem At.irr (a : At) : At.lt a a = false := by
  cases a with
  | i n => exact decide_eq_false (Int.lt_irrefl n)
  | t l => exact decide_eq_false (List.lt_irrefl l)
theorem At.tri (a b : At) : a = b ∨ At.lt a b = true ∨ At.lt b a = true := by
  cases a with
  | i n =>
    cases b with
    | i m =>
      rcases Int.lt_trichotomy n m with h | h | h
      · exact .inr (.inl (decide_eq_true h))
      · exact .inl (by rw [h])
      · exact .inr (.inr (decide_eq_true h))
    | t m => exact .inr (.inl rfl)
  | t n =>
    cases b with
    | i m => exact .inr (.inr rfl)
    | t m =>
      by_cases h1 : n < m
      · exact .inr (.inl (decide_eq_true h1))
      · by_cases h2 : m < n
        · exact .inr (.inr (decide_eq_true h2))
        · exact .inl (by rw [List.le_antisymm (List.not_lt.mp h2) (List.not_lt.mp h1)])
theorem At.asym {a b : At} (h : At.lt a b = true) : At.lt b a = false := by
  cases a with
  | i n =>
    cases b with
    | i m =>
      have h := of_decide_eq_true (show decide (n < m) = true from h)
      exact decide_eq_false (by omega)
    | t m => rfl
  | t n =>
    cases b with
    | i m => cases h
    | t m =>
      have h := of_decide_eq_true (show decide (n < m) = true from h)
      exact decide_eq_false (List.lt_asymm h)
theorem At.trans {a b c : At} (h : At.lt a b = true) (k : At.lt b c = true) : At.lt a c = true := by
  cases a with
  | i n =>
    cases b with
    | i m =>
      cases c with
      | i o =>
        have h := of_decide_eq_true (show decide (n < m) = true from h)
        have k := of_decide_eq_true (show decide (m < o) = true from k)
        exact decide_eq_true (Int.lt_trans h k)
      | t o => rfl
    | t m =>
      cases c with
      | i o => cases k
      | t o => rfl
  | t n =>
    cases b with
    | i m => cases h
    | t m =>
      cases c with
      | i o => cases k
      | t o =>
        have h := of_decide_eq_true (show decide (n < m) = true from h)
        have k := of_decide_eq_true (show decide (m < o) = true from k)
        exact decide_eq_true (List.lt_trans h k)
def ltA : List At → List At → Bool
  | [], [] => false
  | [], _ :: _ => true
  | _ :: _, [] => false
  | x :: xs, y :: ys => if x = y then ltA xs ys else At.lt x y
theorem ltA_cons {x y : At} {xs ys : List At} : ltA (x :: xs) (y :: ys) = if x = y then ltA xs ys else At.lt x y := rfl
theorem ltA_tri : ∀ a b : List At, a = b ∨ ltA a b = true ∨ ltA b a = true
  | [], [] => .inl rfl
  | [], _ :: _ => .inr (.inl rfl)
  | _ :: _, [] => .inr (.inr rfl)
  | x :: xs, y :: ys => by
    rw [ltA_cons, ltA_cons]
    by_cases h : x = y
    · subst h
      rw [if_pos rfl, if_pos rfl]
      rcases ltA_tri xs ys with e | e | e
      · exact .inl (by rw [e])
      · exact .inr (.inl e)
      · exact .inr (.inr e)
    · rw [if_neg h, if_neg (Ne.symm h)]
      rcases At.tri x y with e | e | e
      · exact absurd e h
      · exact .inr (.inl e)
      · exact .inr (.inr e)
theorem ltA_irr : ∀ a : List At, ltA a a = false
  | [] => rfl
  | x :: xs => by rw [ltA_cons, if_pos rfl]; exact ltA_irr xs
theorem ltA_asym : ∀ {a b : List At}, ltA a b = true → ltA b a = false
  | [], [], _ => rfl
  | [], _ :: _, _ => rfl
  | _ :: _, [], h => by cases h
  | x :: xs, y :: ys, h => by
    rw [ltA_cons] at h ⊢
    by_cases e : x = y
    · subst e
      rw [if_pos rfl] at h ⊢
      exact ltA_asym h
    · rw [if_neg e] at h
      rw [if_neg (Ne.symm e)]
      exact At.asym h
theorem ltA_trans : ∀ {a b c : List At}, ltA a b = true → ltA b c = true → ltA a c = true
  | [], [], _, h, _ => by cases h
  | [], _ :: _, [], _, k => by cases k
  | [], _ :: _, _ :: _, _, _ => rfl
  | _ :: _, [], _, h, _ => by cases h
  | _ :: _, _ :: _, [], _, k => by cases k
  | x :: xs, y :: ys, z :: zs, h, k => by
    rw [ltA_cons] at h k ⊢
    by_cases e : x = y
    · subst e
      rw [if_pos rfl] at h
      by_cases e2 : x = z
      · subst e2
        rw [if_pos rfl] at k ⊢
        exact ltA_trans h k
      · rw [if_neg e2] at k ⊢
        exact k
    · rw [if_neg e] at h
      by_cases e2 : y = z
      · subst e2
        rw [if_neg e]
        exact h
      · rw [if_neg e2] at k
        have := At.trans h k
        by_cases e3 : x = z
        · subst e3
          rw [At.asym h] at k
          cases k
        · rw [if_neg e3]
          exact this
theorem ltA_swo : SrtO.Swo ltA := ⟨fun x y h => ltA_asym h, fun x y z h1 h2 => by
  cases q : ltA z x with
  | false => rfl
  | true =>
    rcases ltA_tri x y with e | e | e
    · subst e; rw [q] at h2; cases h2
    · rw [ltA_trans q e] at h2; cases h2
    · rw [e] at h1; cases h1⟩
/-! the machine's comparison -/
def AtV : At → Value → Prop
  | .i n, u => ∃ t, u = .int n t
  | .t l, u => ∃ t, u = .str (S l) t
theorem atV_rel {a : At} {u : Value} (h : RelV a.v u) : AtV a u := by
  cases a with
  | i n => exact h
  | t l => exact h
def Ats : List At → List Value → Prop
  | [], [] => True
  | a :: as, u :: us => AtV a u ∧ Ats as us
  | _, _ => False
theorem ats_of : ∀ {as : List At} {us : List Value}, Vals (as.map At.v) us → Ats as us
  | [], _, .nil => trivial
  | a :: as, _, .cons r t => ⟨atV_rel r, ats_of t⟩
theorem ats_len : ∀ {as : List At} {us : List Value}, Ats as us → as.length = us.length
  | [], [], _ => rfl
  | _ :: _, _ :: _, h => congrArg (· + 1) (ats_len h.2)
  | [], _ :: _, h => h.elim
  | _ :: _, [], h => h.elim
theorem S_beq {a b : List Nat} : ((S a : Str) == S b) = decide (a = b) := by
  by_cases h : a = b
  · subst h
    simp
  · rw [decide_eq_false h]
    exact beq_eq_false_iff_ne.mpr fun e => h (S_inj e)
section
variable {prog : Program} {w : World} {A : Around} {s : Shared} {E : Value → Shared → Prop}
theorem one_at {c : Bool} {a b : At} {u v : Value} {Q : Bool → Shared → Prop} (ha : AtV a u) (hb : AtV b v) (hk : a.kd = b.kd) (h : Q (At.lt a b) s) : wpAny (model prog w) A (PyProof.Rows.oneLt' c u v) Q E s := by
  cases a with
  | i n =>
    obtain ⟨t, rfl⟩ := ha
    cases b with
    | i m =>
      obtain ⟨t', rfl⟩ := hb
      cases c with
      | true => exact PyProof.Rows.oneLt_int h
      | false => exact PySem.W.kat_one _ _ (PyProof.Rows.lt_int h)
    | t m => cases hk
  | t n =>
    obtain ⟨t, rfl⟩ := ha
    cases b with
    | i m => cases hk
    | t m =>
      obtain ⟨t', rfl⟩ := hb
      have h' : Q (decide ((S n).cps.toList < (S m).cps.toList)) s := by rw [S_cps, S_cps]; exact h
      cases c with
      | true => exact PyProof.Rows.oneLt_str h'
      | false => exact PySem.W.kat_one _ _ (PyProof.Rows.lt_str h')
theorem eq_at {a b : At} {u v : Value} {Q : Bool → Shared → Prop} (ha : AtV a u) (hb : AtV b v) (hk : a.kd = b.kd) (h : Q (decide (a = b)) s) : wpAny (model prog w) A (eqBool u v) Q E s := by
  cases a with
  | i n =>
    obtain ⟨t, rfl⟩ := ha
    cases b with
    | i m =>
      obtain ⟨t', rfl⟩ := hb
      refine SeqAt.EqAt.int_int n t m t' prog w _ _ ?_
      have : (n == m) = decide (At.i n = At.i m) := by
        by_cases e : n = m
        · subst e; simp
        · rw [decide_eq_false (fun z => e (At.i.inj z))]; exact beq_eq_false_iff_ne.mpr e
      rw [this]
      exact h
    | t m => cases hk
  | t n =>
    obtain ⟨t, rfl⟩ := ha
    cases b with
    | i m => cases hk
    | t m =>
      obtain ⟨t', rfl⟩ := hb
      refine SeqAt.EqAt.str_str (S n) t (S m) t' prog w _ _ ?_
      have : ((S n : Str) == S m) = decide (At.t n = At.t m) := by
        rw [S_beq]
        by_cases e : n = m
        · subst e; simp
        · rw [decide_eq_false e, decide_eq_false (fun z => e (At.t.inj z))]
      rw [this]
      exact h
theorem lex_run {b : Bool} {Q : Bool → Shared → Prop} : ∀ (as bs : List At) (us vs : List Value) (i : Nat), Ats as us → Ats bs vs → as.map At.kd = bs.map At.kd → Q (ltA as bs) s → PySem.W.KatLex prog w A b false Q (us.zip vs) i s
  | [], [], [], [], i, _, _, _, h => h
  | [], [], _ :: _, _, i, h, _, _, _ => h.elim
  | [], [], [], _ :: _, i, _, h, _, _ => h.elim
  | [], _ :: _, _, _, i, _, _, h, _ => by simp at h
  | _ :: _, [], _, _, i, _, _, h, _ => by simp at h
  | _ :: _, _ :: _, [], _, i, h, _, _, _ => h.elim
  | _ :: _, _ :: _, _ :: _, [], i, _, h, _, _ => h.elim
  | a :: as, c :: cs, u :: us, v :: vs, i, ha, hb, hk, h => by
    simp only [List.map_cons, List.cons.injEq] at hk
    rw [ltA_cons] at h
    show PySem.W.KatLex prog w A b false Q ((u, v) :: us.zip vs) i s
    refine PySem.W.kat_cons (eq_at ha.1 hb.1 hk.1 ?_)
    by_cases e : a = c
    · rw [decide_eq_true e]
      rw [if_pos e] at h
      exact PySem.W.kat_yes (lex_run as cs us vs (i + 1) ha.2 hb.2 hk.2 h)
    · rw [decide_eq_false e]
      rw [if_neg e] at h
      exact PySem.W.kat_no (one_at ha.1 hb.1 hk.1 h)
/-- a tuple of these -/
def IsAts (h : Heap) (v : Value) (l : List At) : Prop := ∃ a o us n, v = .ref a ∧ h.get? a = some o ∧ o.cls = .type "tuple" ∧ o.data = .seq us n ∧ Ats l us.toList
theorem IsAts.keeps {h h' : Heap} {v : Value} {l : List At} (p : IsAts h v l) (k : ∀ b o, h.get? b = some o → o.cls = .type "tuple" → h'.get? b = some o) : IsAts h' v l := by
  obtain ⟨a, o, us, n, e, ho, hc, hd, hi⟩ := p
  exact ⟨a, o, us, n, e, k _ _ ho hc, hc, hd, hi⟩
theorem ats_cmp {vs : List Value} {k : Value → List At} (hp : ∀ v ∈ vs, IsAts s.heap v (k v)) (hk : ∀ v ∈ vs, ∀ u ∈ vs, (k v).map At.kd = (k u).map At.kd) (b : Bool) : SrtO.Cmp prog w A s (PyProof.Rows.tuples' b) (fun p => p.1 ∈ vs) (SrtO.lt2 fun v u => ltA (k v) (k u)) := by
  intro p q hm hm'
  have h1 := hp _ hm
  have h2 := hp _ hm'
  have h3 := hk _ hm _ hm'
  show wpAny (model prog w) A (PyProof.Rows.keyLt' (PyProof.Rows.tuples' b) p.1 q.1) (fun r s' => s' = s ∧ r = ltA (k p.1) (k q.1)) (fun _ _ => False) s
  generalize k p.1 = x at h1 h3 ⊢
  generalize k q.1 = y at h2 h3 ⊢
  obtain ⟨a, o, us, n, e, ho, hc, hd, hi⟩ := h1
  obtain ⟨a', o', us', n', e', ho', hc', hd', hi'⟩ := h2
  rw [e, e']
  refine PySem.W.kat_lt ho hd ho' hd' ?_
  have hz : decide (us.size < us'.size) = false := decide_eq_false (by
    have l1 := ats_len hi
    have l2 := ats_len hi'
    have l3 : x.length = y.length := by simpa using congrArg List.length h3
    rw [← Array.length_toList, ← Array.length_toList]
    omega)
  rw [hz]
  exact lex_run x y us.toList us'.toList 0 hi hi' h3 ⟨rfl, rfl⟩
theorem ats_firsts {h : Heap} {k : Value → List At} {c : Bool} : ∀ {vs : List Value}, (∀ v ∈ vs, IsAts h v (k v)) → (∀ v ∈ vs, ∃ a r, k v = a :: r ∧ a.kd = c) → ∃ fs : List Value, PySem.W.KatTups h vs fs ∧ fs.length = vs.length ∧ ∀ f ∈ fs, ∃ a : At, AtV a f ∧ a.kd = c
  | [], _, _ => ⟨[], PySem.W.KatTups.nil, rfl, fun _ hm => by simp at hm⟩
  | v :: vs, hp, hf => by
    obtain ⟨fs, h1, h2, h3⟩ := ats_firsts (vs := vs) (fun v' hm => hp v' (List.mem_cons_of_mem _ hm)) (fun v' hm => hf v' (List.mem_cons_of_mem _ hm))
    obtain ⟨a, o, us, n, e, ho, hc, hd, hi⟩ := hp v List.mem_cons_self
    obtain ⟨x, r, ek, ec⟩ := hf v List.mem_cons_self
    rw [ek] at hi
    cases q : us.toList with
    | nil => rw [q] at hi; exact hi.elim
    | cons f us' =>
      rw [q] at hi
      subst e
      refine ⟨f :: fs, PySem.W.KatTups.cons ho hc hd ?_ h1, by rw [List.length_cons, List.length_cons, h2], fun g hm => ?_⟩
      · rw [← Array.getElem?_toList, q]; rfl
      · rcases List.mem_cons.mp hm with rfl | hm
        · exact ⟨x, hi.1, ec⟩
        · exact h3 g hm
theorem ats_sortable {a : Addr} {vs : List Value} {k : Value → List At} {c : Bool} (h0 : 0 < vs.length) (hp : ∀ v ∈ vs, IsAts s.heap v (k v)) (hk : ∀ v ∈ vs, ∀ u ∈ vs, (k v).map At.kd = (k u).map At.kd) (hf : ∀ v ∈ vs, ∃ a r, k v = a :: r ∧ a.kd = c) (ha : ∀ o, s.heap.get? a = some o → o.cls ≠ .type "tuple") : SrtO.SortableO prog w A s a vs fun v u => ltA (k v) (k u) := by
  intro h' keep
  have hp' : ∀ v ∈ vs, IsAts h' v (k v) := fun v hm => (hp v hm).keeps fun b o e c => keep b o (fun z => by subst z; exact ha o e c) e
  obtain ⟨fs, h1, h2, h3⟩ := ats_firsts (c := c) hp' hf
  refine ⟨PyProof.Rows.tuples' true, fun Q E hq => ?_, ats_cmp hp' hk true⟩
  cases c with
  | true =>
    refine PySem.W.kat_kind (T := .type "int") h1 (by omega) (fun f hm => ?_) (by rfl) ?_
    · obtain ⟨x, hx, hc⟩ := h3 f hm
      cases x with
      | i n => obtain ⟨t, rfl⟩ := hx; exact PySem.W.Looks.now
      | t n => cases hc
    · have e : (Value.type "int" != Value.type "tuple") = true := by first | decide +kernel | rfl | decide
      rw [e]
      exact hq
  | false =>
    refine PySem.W.kat_kind (T := .type "str") h1 (by omega) (fun f hm => ?_) (by rfl) ?_
    · obtain ⟨x, hx, hc⟩ := h3 f hm
      cases x with
      | i n => cases hc
      | t n => obtain ⟨t, rfl⟩ := hx; exact PySem.W.Looks.now
    · have e : (Value.type "str" != Value.type "tuple") = true := by first | decide +kernel | rfl | decide
      rw [e]
      exact hq
theorem sorted_ats {l : Addr} {vs : List Value} {k : Value → List At} {c : Bool} {Q : Value → Shared → Prop} (hl : s.heap.IsList l vs.toArray) (hz : vs.length ≤ sizeLine) (hp : ∀ v ∈ vs, IsAts s.heap v (k v)) (hk : ∀ v ∈ vs, ∀ u ∈ vs, (k v).map At.kd = (k u).map At.kd) (hf : ∀ v ∈ vs, ∃ a r, k v = a :: r ∧ a.kd = c)
    (h : ∀ (h' : Heap) (d : Addr) (out : List Value), SrtO.Srtd (fun v u => ltA (k v) (k u)) out → SrtO.Stb (fun v u => ltA (k v) (k u)) out vs → (∀ b o, s.heap.get? b = some o → h'.get? b = some o) → s.heap.objs.size ≤ d → (∃ n, h'.get? d = some (PyProof.Rows.seqObj "list" out.toArray n)) → Q (.ref d) { s with heap := h' }) :
    wpAny (model prog w) A (call (.builtin "sorted") [.ref l]) Q E s := by
  refine SrtO.sorted_ord (ltv := fun v u => ltA (k v) (k u)) ⟨fun x y h => ltA_swo.asym _ _ h, fun x y z h1 h2 => ltA_swo.tr _ _ _ h1 h2⟩ hl hz (fun h2 h₁ a ha kk => ?_) fun out hs hb => ?_
  · refine ats_sortable (s := { s with heap := h₁ }) (by omega) (fun v hm => (hp v hm).keeps fun b o e _ => (kk b o e).2) hk hf fun o e => ?_
    have e' : some o = some (PyProof.Rows.seqObj "list" vs.toArray 0) := e.symm.trans ha
    cases e'
    intro c
    exact absurd (Value.type.inj c) (by decide)
  · exact h _ _ out hs hb (fun b o e => PyProof.Rows.sortedAll_old e) (Nat.le_succ _) (PyProof.Rows.sortedAll_at s.heap vs out.toArray)
end
/-- sorted(xs), the items tuples of one form -/
def rSortA (K : PySem.W.Frag) : List V → Hp → VK → Prop := fun vs H Q => ∃ (a : Addr) (zs : List (V × List At)) (c : Bool), vs = [V.ref a] ∧ SqL K H a (zs.map (·.1)) ∧ (∀ z ∈ zs, ∃ t, z.1 = V.ref t ∧ SqT K H t (z.2.map At.v)) ∧
  (∀ z ∈ zs, ∀ y ∈ zs, z.2.map At.kd = y.2.map At.kd) ∧ (∀ z ∈ zs, ∃ a r, z.2 = a :: r ∧ a.kd = c) ∧
  ∀ (zs' : List (V × List At)) (p : Addr), zs'.Perm zs → zs'.Pairwise (fun x y => ltA y.2 x.2 = false) → H p = none → Q (.ref p) (upd H p (.lst (zs'.map (·.1))))
theorem at_inj : ∀ {xs ys : List At}, xs.map At.v = ys.map At.v → xs = ys
  | [], [], _ => rfl
  | [], _ :: _, h => by simp at h
  | _ :: _, [], h => by simp at h
  | x :: xs, y :: ys, h => by
    simp only [List.map_cons, List.cons.injEq] at h
    rw [at_inj h.2]
    cases x with
    | i n =>
      cases y with
      | i m => cases h.1; rfl
      | t m => cases h.1
    | t n =>
      cases y with
      | i m => cases h.1
      | t m =>
        have : S n = S m := V.str.inj h.1
        rw [S_inj this]
theorem zip_back : ∀ {zs : List (V × List At)} {us : List Value} {k : Value → List At}, Vals (zs.map (·.1)) us → (∀ u ∈ us, ∀ z ∈ zs, z.1 = backV u → k u = z.2) → (∀ z ∈ zs, ∃ t, z.1 = V.ref t) → zs = us.map fun u => (backV u, k u)
  | [], _, k, .nil, _, _ => rfl
  | z :: zs, u :: us, k, .cons r t, h, q => by
    obtain ⟨a, ea⟩ := q z List.mem_cons_self
    have r : RelV z.1 u := r
    rw [ea] at r
    have eu : u = Value.ref a := r
    rw [List.map_cons, ← zip_back t (fun u hu z hz => h u (List.mem_cons_of_mem _ hu) z (List.mem_cons_of_mem _ hz)) fun z hz => q z (List.mem_cons_of_mem _ hz)]
    have e1 : z.1 = backV u := by rw [ea, eu]; rfl
    rw [h u List.mem_cons_self z List.mem_cons_self e1, ← e1]
theorem cr_sortA {X : Cx} : CallR X (.builtin "sorted") (rSortA X.K) := by
  intro pins s σ H vs us Q I r h
  obtain ⟨a, zs, c, rfl, hs, hx, hk, hf, q⟩ := h
  obtain ⟨its, rv, hl, hz⟩ := I.list hs
  obtain ⟨u, rfl, ru⟩ := vals1 r
  obtain rfl : u = Value.ref a := ru
  have hrf : ∀ z ∈ zs, ∃ t, z.1 = V.ref t := fun z hm => by
    obtain ⟨t, e, _⟩ := hx z hm
    exact ⟨t, e⟩
  obtain ⟨e1, e2⟩ := refs_back rv fun x m => by
    obtain ⟨z, hm, rfl⟩ := List.mem_map.mp m
    exact hrf z hm
  let k : Value → List At := fun u => Classical.epsilon fun l => ∃ z ∈ zs, z.1 = backV u ∧ l = z.2
  have hku : ∀ u, ∀ z ∈ zs, z.1 = backV u → k u = z.2 := fun u z hm e => by
    have hex : ∃ l, ∃ z ∈ zs, z.1 = backV u ∧ l = z.2 := ⟨z.2, z, hm, e, rfl⟩
    obtain ⟨z', hm', e', ek⟩ := Classical.epsilon_spec hex
    show Classical.epsilon _ = _
    rw [ek]
    obtain ⟨t, et, ht⟩ := hx z hm
    obtain ⟨t', et', ht'⟩ := hx z' hm'
    rw [e, ← e', et'] at et
    cases et
    exact at_inj (I.tuple_inj ht' ht)
  have hzs : zs = its.map fun u => (backV u, k u) := zip_back rv (fun u _ z hm e => hku u z hm e) hrf
  have hmem : ∀ u ∈ its, (backV u, k u) ∈ zs := fun u hu => by rw [hzs]; exact List.mem_map.mpr ⟨u, hu, rfl⟩
  refine sorted_ats (k := k) (c := c) hl.isList (by rw [← rv.length]; exact hz) (fun v hv => ?_) (fun v hv u hu => hk _ (hmem v hv) _ (hmem u hu)) (fun v hv => hf _ (hmem v hv)) fun h' d out h1 h2 kp hd hn => ?_
  · obtain ⟨t, e, ht⟩ := hx _ (hmem v hv)
    obtain ⟨t1, e1'⟩ := e2 v hv
    have e : V.ref t1 = V.ref t := by rw [← e, e1']; rfl
    obtain ⟨its2, r2, ⟨o, ho, hc, n, hdd⟩, _⟩ := I.tuple ht
    exact ⟨t, o, its2.toArray, n, e1'.trans (congrArg Value.ref (V.ref.inj e)), ho, hc, hdd, by simpa using ats_of r2⟩
  · have h3 : ∀ u ∈ out, ∃ a, u = Value.ref a := fun u hu => e2 u (h2.perm.mem_iff.mp hu)
    obtain ⟨n, hn⟩ := hn
    have hb : (out.map fun u => (backV u, k u)).Perm zs := by
      rw [hzs]
      exact h2.perm.map _
    have hm : (out.map fun u => (backV u, k u)).map (·.1) = out.map backV := by rw [List.map_map]; rfl
    refine ⟨.ref d, upd H d (.lst (out.map backV)), I.laid (t' := s.toks) kp hd ⟨?_, out, n, vals_back h3, hn⟩, rfl, ?_⟩
    · rw [← hm, List.length_map, hb.length_eq, ← List.length_map (f := (·.1)) (as := zs)]
      exact hz
    · rw [← hm]
      exact q _ d hb (List.pairwise_map.mpr h1) (I.hok.fresh hd)
/-! the mirror -/
structure EncT {α : Type} (T : Tv α) (enc : α → List At) : Prop where
  run : ∀ a F vs, T.r a F vs → vs = (enc a).map At.v
  kd : ∀ a b, (enc a).map At.kd = (enc b).map At.kd
  inj : ∀ a b, enc a = enc b → a = b
structure EncA {α : Type} (A : Rf α) (f : α → At) : Prop where
  run : ∀ a F v, A.r a F v → v = (f a).v
  kd : ∀ a b, (f a).kd = (f b).kd
  inj : ∀ a b, f a = f b → a = b
theorem ea_i : EncA fInt At.i := ⟨fun a F v h => h, fun _ _ => rfl, fun a b h => At.i.inj h⟩
theorem ea_t : EncA fTxt At.t := ⟨fun a F v h => h.1, fun _ _ => rfl, fun a b h => At.t.inj h⟩
theorem en_1 {α : Type} {A : Rf α} {f : α → At} (h : EncA A f) : EncT (tv1 A) (fun a => [f a]) := ⟨fun a F vs ⟨x, e, r⟩ => by subst e; rw [h.run _ _ _ r]; rfl, fun a b => by
  show [(f a).kd] = [(f b).kd]
  rw [h.kd a b], fun a b e => h.inj _ _ (List.cons.inj e).1⟩
theorem en_c {α β : Type} {A : Rf α} {T : Tv β} {f : α → At} {g : β → List At} (h : EncA A f) (t : EncT T g) : EncT (tvc A T) (fun a => f a.1 :: g a.2) := ⟨fun a F vs ⟨x, r, e, h1, h2⟩ => by
  subst e
  rw [h.run _ _ _ h1, t.run _ _ _ h2]
  rfl, fun a b => by
  show (f a.1).kd :: (g a.2).map At.kd = (f b.1).kd :: (g b.2).map At.kd
  rw [h.kd a.1 b.1, t.kd a.2 b.2], fun a b e => by
  have e := List.cons.inj e
  exact Prod.ext (h.inj _ _ e.1) (t.inj _ _ e.2)⟩
def leE {α : Type} (enc : α → List At) (a b : α) : Bool := !ltA (enc b) (enc a)
def sortE {α : Type} (enc : α → List At) (l : List α) : List α := l.mergeSort (leE enc)
section
variable {α : Type} {enc : α → List At}
theorem leE_trans (a b c : α) (h1 : leE enc a b = true) (h2 : leE enc b c = true) : leE enc a c = true := by
  unfold leE at *
  rw [Bool.not_eq_true'] at *
  exact ltA_swo.tr _ _ _ h1 h2
theorem leE_total (a b : α) : (leE enc a b || leE enc b a) = true := by
  unfold leE
  cases q : ltA (enc b) (enc a) with
  | false => rfl
  | true => rw [ltA_asym q]; rfl
theorem leE_anti (hi : ∀ a b, enc a = enc b → a = b) {a b : α} (h1 : leE enc a b = true) (h2 : leE enc b a = true) : a = b := by
  unfold leE at h1 h2
  rw [Bool.not_eq_true'] at h1 h2
  rcases ltA_tri (enc a) (enc b) with e | e | e
  · exact hi a b e
  · rw [e] at h2; cases h2
  · rw [e] at h1; cases h1
theorem sortE_perm (l : List α) : (sortE enc l).Perm l := List.mergeSort_perm l _
theorem sortE_pw (l : List α) : (sortE enc l).Pairwise fun a b => leE enc a b = true := List.pairwise_mergeSort leE_trans leE_total l
theorem sortE_uniq (hi : ∀ a b, enc a = enc b → a = b) {l m : List α} (hp : m.Perm l) (hs : m.Pairwise fun a b => leE enc a b = true) : m = sortE enc l :=
  List.Perm.eq_of_pairwise (fun a b _ _ h1 h2 => leE_anti hi h1 h2) hs (sortE_pw l) (hp.trans (sortE_perm l).symm)
end
/-- the pairs of a row and its values, rearranged -/
theorem pw_zip {α : Type} {R : α → V → Prop} : ∀ {as : List α} {vs : List V}, Pw R as vs → (as.zip vs).map (·.1) = as ∧ (as.zip vs).map (·.2) = vs ∧ ∀ z ∈ as.zip vs, R z.1 z.2
  | _, _, .nil => ⟨rfl, rfl, fun _ h => nomatch h⟩
  | _, _, .cons h t => by
    obtain ⟨h1, h2, h3⟩ := pw_zip t
    refine ⟨by rw [List.zip_cons_cons, List.map_cons, h1], by rw [List.zip_cons_cons, List.map_cons, h2], fun z hz => ?_⟩
    rw [List.zip_cons_cons] at hz
    rcases List.mem_cons.mp hz with rfl | hz
    · exact h
    · exact h3 z hz
theorem zip_pw {α : Type} {R : α → V → Prop} : ∀ {ps : List (α × V)}, (∀ z ∈ ps, R z.1 z.2) → Pw R (ps.map (·.1)) (ps.map (·.2))
  | [], _ => .nil
  | p :: ps, h => .cons (h p List.mem_cons_self) (zip_pw fun z hz => h z (List.mem_cons_of_mem _ hz))
theorem perm_lift {α β : Type} (f : α → β) : ∀ {m l : List β}, m.Perm l → ∀ (xs : List α), xs.map f = l → ∃ ys : List α, ys.Perm xs ∧ ys.map f = m := by
  intro m l h
  induction h with
  | nil => intro xs e; exact ⟨[], by rw [List.map_eq_nil_iff.mp e], rfl⟩
  | cons x _ ih =>
    intro xs e
    cases xs with
    | nil => simp at e
    | cons y ys =>
      simp only [List.map_cons, List.cons.injEq] at e
      obtain ⟨zs, h1, h2⟩ := ih ys e.2
      exact ⟨y :: zs, h1.cons y, by rw [List.map_cons, h2, e.1]⟩
  | swap x y l =>
    intro xs e
    match xs, e with
    | a :: b :: r, e =>
      simp only [List.map_cons, List.cons.injEq] at e
      exact ⟨b :: a :: r, List.Perm.swap _ _ _, by simp [e.1, e.2.1, e.2.2]⟩
  | trans _ _ ih1 ih2 =>
    intro xs e
    obtain ⟨ys, h1, h2⟩ := ih2 xs e
    obtain ⟨zs, h3, h4⟩ := ih1 ys h2
    exact ⟨zs, h3.trans h1, h4⟩
theorem cl_sortE {K : PySem.W.Frag} {α : Type} {T : Tv α} {enc : α → List At} {as : List α} (hE : EncT T enc) (hne : ∀ a, enc a ≠ []) : CallP (rSortA K) (a1 (bLst K (fTup K T))) (as, ()) (M.ok (sortE enc as)) (ro (tL K (fTup K T))) :=
  ⟨fun e q => (nomatch q), fun F H vs H0 Q x ⟨v, r, e, ⟨p, ws, ev, h, q⟩, h2⟩ c ec k => by
    cases M.ok_inj ec
    cases h2
    subst ev
    subst e
    obtain ⟨z1, z2, z3⟩ := pw_zip q
    let ps := as.zip ws
    have hc : ∃ c, ∀ a, ∃ y r, enc a = y :: r ∧ y.kd = c := by
      by_cases he : Nonempty α
      · obtain ⟨a0⟩ := he
        cases e0 : enc a0 with
        | nil => exact absurd e0 (hne a0)
        | cons y0 r0 =>
          refine ⟨y0.kd, fun a => ?_⟩
          cases ea : enc a with
          | nil => exact absurd ea (hne a)
          | cons y r =>
            have := hE.kd a a0
            rw [ea, e0] at this
            simp only [List.map_cons, List.cons.injEq] at this
            exact ⟨y, r, rfl, this.1⟩
      · exact ⟨true, fun a => absurd ⟨a⟩ he⟩
    obtain ⟨c, hc⟩ := hc
    refine ⟨p, ps.map fun z => (z.2, enc z.1), c, rfl, ?_, fun z hz => ?_, fun z hz y hy => ?_, fun z hz => ?_, fun zs' l hp hs hl => ?_⟩
    · rw [List.map_map]
      show SqL K H p (ps.map (·.2))
      rw [z2]
      exact h
    · obtain ⟨y, hy, rfl⟩ := List.mem_map.mp hz
      obtain ⟨t, ws', e1, e2, e3⟩ := z3 y hy
      refine ⟨t, e1, ?_⟩
      rw [← hE.run _ _ _ e3]
      exact sqT_ex x e2
    · obtain ⟨y1, _, rfl⟩ := List.mem_map.mp hz
      obtain ⟨y2, _, rfl⟩ := List.mem_map.mp hy
      exact hE.kd _ _
    · obtain ⟨y1, _, rfl⟩ := List.mem_map.mp hz
      exact hc _
    · obtain ⟨ps', hp', e'⟩ := perm_lift (fun z : α × V => (z.2, enc z.1)) hp ps rfl
      subst e'
      have es : ps'.map (·.1) = sortE enc as := by
        refine sortE_uniq hE.inj ?_ ?_
        · have := hp'.map (·.1)
          rw [show ps.map (·.1) = as from z1] at this
          exact this
        · refine List.pairwise_map.mpr ((List.pairwise_map.mp hs).imp fun h => ?_)
          unfold leE
          rw [h]
          rfl
      rw [List.map_map]
      refine k (.ref l) F _ (Gr.newM x hl) ⟨[l], ⟨l, _, rfl, upd_same, ?_, rfl⟩, fun y hy => ?_⟩
      · rw [← es]
        exact (zip_pw (R := fun a v => (fTup K T).r a F v) fun z hz => z3 z (hp'.mem_iff.mp hz))
      · cases List.mem_singleton.mp hy
        exact ⟨hl, x.free hl, NT.up⟩⟩
end LK
namespace LK
open PySem L2
theorem Cok.u65 {X : Cx} {W : WX} {k : Nat} (C : Cok X W k) : X.A.units + 65 < cLine := by
  have := C.hr.un
  omega
/-! ### x in xs -/
theorem any_dec {K : PySem.W.Frag} {α : Type} [DecidableEq α] {A : Rf α} (D : Dt K A) (a : α) : ∀ as : List α, (as.map D.d).any (fun z => PyData.eqv z (D.d a)) = decide (a ∈ as)
  | [] => by simp
  | b :: r => by
    rw [List.map_cons, List.any_cons, any_dec D a r, dt_dec]
    by_cases h : b = a
    · subst h; simp
    · rw [decide_eq_false h]
      simp [Ne.symm h]
/-- is it among them -/
def inB {α : Type} [DecidableEq α] (a : α) (as : List α) : Bool := decide (a ∈ as)
theorem inB_iff {α : Type} [DecidableEq α] {a : α} {as : List α} : inB a as = true ↔ a ∈ as := decide_eq_true_iff
theorem inB_eq {α : Type} [DecidableEq α] {a : α} {as : List α} : inB a as = decide (a ∈ as) := rfl
theorem ol_inL {K : PySem.W.Frag} {α : Type} [DecidableEq α] {A : Rf α} (D : Dt K A) {a : α} {as : List α} (hn : D.n + 1 ≤ 64 := by exact Nat.le_of_ble_eq_true rfl) : OpP (rInD K) A.up (bLst K A) a as (M.ok (inB a as)) fBool.up :=
  ⟨fun e q => (nomatch q), fun F H v w H0 Q x ha hb c e k => by
    cases M.ok_inj e
    obtain ⟨h3, h4⟩ := bl_at D x hb
    exact ⟨_, _, D.at_ ha x, h3, dt_shaped D (Nat.le_of_succ_le hn) ha, h4 hn, by rw [any_dec]; exact k _ F H (Gr.refl x) rfl⟩⟩
theorem ol_ninL {K : PySem.W.Frag} {α : Type} [DecidableEq α] {A : Rf α} (D : Dt K A) {a : α} {as : List α} (hn : D.n + 1 ≤ 64 := by exact Nat.le_of_ble_eq_true rfl) : OpP (rNotInD K) A.up (bLst K A) a as (M.ok (!inB a as)) fBool.up :=
  ⟨fun e q => (nomatch q), fun F H v w H0 Q x ha hb c e k => by
    cases M.ok_inj e
    obtain ⟨h3, h4⟩ := bl_at D x hb
    exact ⟨_, _, D.at_ ha x, h3, dt_shaped D (Nat.le_of_succ_le hn) ha, h4 hn, by rw [any_dec]; exact k _ F H (Gr.refl x) rfl⟩⟩
/-! ### xs[i] = e -/
def setL {ε α : Type} (as : List α) (k : Int) (a : α) : Mg ε (List α) := match ixN as.length k with
  | some j => M.ok (as.set j a)
  | none => none
theorem setL_ne {ε α : Type} {as : List α} {k : Int} {a : α} (h : (setL as k a : Mg ε (List α)) ≠ none) : ∃ j, ixN as.length k = some j ∧ (setL as k a : Mg ε (List α)) = M.ok (as.set j a) := by
  unfold setL at *
  split at h
  · rename_i j e
    exact ⟨j, e, rfl⟩
  · exact absurd rfl h
section
variable {ε : Type} {Eh : EH ε} {X : Cx} {W : WX} {G : Gm} {tl : List Nat} {ρ b s : Type} {R : ρ → V → Gm} {Gb : b → Gm} {N : s → Gm}
theorem fs_iset {α : Type} (j : Nat) {q : V} {o i e : Expr} {pos pos' : Pos} {rest : List Stmt} {p : Er → ε} {m : M α} {mi : M Int} {A : Rf α} {as : List α} {g : List α → Mg ε (Fl ρ b s)} (hG : G[j]? = some (some (pn q (ob (tL X.K A) as)))) (ho : FE X W G o (M.ok ()) (rV q)) (hi : FE X W G i mi fInt.up) (he : FE X W G e m A.up)
    (hr : ∀ as', FS X W Eh tl (G.set j (some (pn q (ob (tL X.K A) as')))) rest (g as') R Gb N)
    (hs : swapsWithSole [.Subscript o i pos'] e pos.line X.env = pure false := by rfl) (hw : swappedStores [.Subscript o i pos'] e X.env = pure none := by rfl) (h1 : (assignEach [.Subscript o i pos'] X.env).map (·.2) = [assign (.Subscript o i pos') X.env] := by rfl)
    (ha : ∀ v, assign (.Subscript o i pos') X.env v = (do
      let ov ← holding [v] (eval o X.env)
      let iv ← holding [v, ov] (eval i X.env)
      standAt pos'
      holding [v, ov, iv] (setItem ov iv v)
      release [v, ov, iv] []) := by intro _; rfl) (hp : Pay Eh G p := by exact pay0 rfl) :
    FS X W Eh tl G (.Assign [.Subscript o i pos'] e pos :: rest) (m.bindP p fun a => mi.bindP p fun k => (setL as k a : M (List α)).bindP p g) R Gb N :=
  PSs.weak (pss_cons (ps_asg he (pg_sub ho hi set_list ha) hs hw h1) (pss_ex hr)) fun D σ H ⟨B, F, D0⟩ => by
  refine ⟨B, tl, F, D0.tellE hp fun a F1 H1 ea g1 w rw1 => ?_⟩
  have D1 := D0.rest ea (D0.st.grow g1)
  have D1' : ToldS X.K W Eh tl G ((M.ok () : M Unit).bindP p fun _ => mi.bindP p fun k => (setL as k a : M (List α)).bindP p g) R Gb N D σ H1 B F1 := D1
  refine ⟨B, tl, F1, D1'.tellE hp fun _ F2 H2 _ g2 vo ro' => ?_⟩
  have D2 := D1'.rest (a := ()) rfl (D1.st.grow g2)
  cases (show vo = q from ro')
  refine ⟨B, tl, F2, D2.tellE hp fun k F3 H3 ek g3 vk rk => ?_⟩
  have D3 := D2.rest ek (D2.st.grow g3)
  obtain ⟨jx, e1, e2⟩ := setL_ne (ε := Er) (as := as) (k := k) (a := a) (fun z => D3.ne (by rw [z]; rfl))
  obtain ⟨ms, z⟩ := D3.st.sl
  obtain ⟨v, h1, rfl, qa, vs, rfl, hh, pw, em⟩ := z.has j _ hG
  obtain ⟨hF, hH⟩ := z.mem j qa (by rw [em]; simp)
  refine ⟨qa, vs, k, jx, rfl, rk, hh, by rw [← pw.len]; exact e1, as.set jx a, B, F3, ?_⟩
  have D4 := D3.rest (a := as.set jx a) e2 (G1 := G) D3.st
  refine ⟨D4.st.mut z hG rfl h1 (by rw [em]; exact GrX.at D3.st.fh hF) ⟨rfl, qa, vs.set jx w, rfl, upd_same, Pw.set (R := fun a x => A.r a F3 x) (A.st rw1 (g2.f.trans g3.f)) jx pw, rfl⟩ (fun y hy => ?_), D4.ne, D4.ret, D4.nx, D4.bk, D4.ct, D4.er⟩
  cases List.mem_singleton.mp hy
  exact ⟨.inl (by rw [em]; simp), hF, NT.up⟩
/-! ### methods that change a list -/
structure LMut {α β γ : Type} (K : PySem.W.Frag) (A : Rf α) (r : V → List V → Hp → VK → Prop) (Ar : Ra β) (Rg : Rf γ) (as : List α) (b : β) (m : M (γ × List α)) : Prop where
  ne : ∀ e, m ≠ M.err e
  run : ∀ F H H0 l vs ws (Q : VK), Ex F H → H0 l ≠ none → H l = some (.lst vs) → Pw (fun a x => A.r a F x) as vs → Ar.r b H0 F H ws → ∀ c, m = M.ok c →
    (∀ z vs', Rg.r c.1 F z → Pw (fun a x => A.r a F x) c.2 vs' → Q z (upd H l (.lst vs'))) → r (.ref l) ws H Q
theorem lm_tell {β γ : Type} {α : Type} (j : Nat) {q : V} {A : Rf α} {as : List α} {p : Er → ε} {b' : β} {mm : M (γ × List α)} {Ar : Ra β} {Rg : Rf γ} {r : V → List V → Hp → VK → Prop} (hG : G[j]? = some (some (pn q (ob (tL X.K A) as)))) (hl : LMut X.K A r Ar Rg as b' mm) {σ : St} {H H2 : Hp} {B : Bs} {F2 : Hp} {Q : VK} {ws : List V}
    (T : ToldX X.K W Eh tl G (mm.bindP p fun c => M.ok c) (fun c _ => G.set j (some (pn q (ob (tL X.K A) c.2)))) (fun c v F' H' => Rg.r c.1 F' v → Q v H') σ H2 B F2) (old : ∀ ms, SlOk B G F2 H2 σ ms → ∀ x ∈ ms j, H x ≠ none) (hw : Ar.r b' H F2 H2 ws) : r q ws H2 Q := by
  obtain ⟨ms, z⟩ := T.st.sl
  obtain ⟨v, h1, rfl, qa, vs, rfl, hh, pw, em⟩ := z.has j _ hG
  obtain ⟨hF, hH⟩ := z.mem j qa (by rw [em]; simp)
  cases e : mm with
  | none => exact absurd (by rw [e]; rfl) T.ne
  | some res =>
    cases res with
    | error er => exact absurd e (hl.ne er)
    | ok c =>
      refine hl.run F2 H2 H qa vs ws Q T.st.fh (old ms z qa (by rw [em]; simp)) hh pw hw c e fun zz vs' hz pw' => ?_
      refine T.ok c (by rw [e]; rfl) zz F2 _ (Ex.refl _) ?_ hz
      refine T.st.mut z hG rfl h1 (by rw [em]; exact GrX.at T.st.fh hF) ⟨rfl, qa, vs', rfl, upd_same, pw', rfl⟩ (fun y hy => ?_)
      cases List.mem_singleton.mp hy
      exact ⟨.inl (by rw [em]; simp), hF, NT.up⟩
theorem fx_lm {α β γ : Type} (j : Nat) {q : V} {id : String} {name : Str} {o e : Expr} {es : List Expr} {apos cpos : Pos} {p : Er → ε} {ma : M β} {A : Rf α} {as : List α} {Ar : Ra β} {Rg : Rf γ} {r : V → List V → Hp → VK → Prop} {mm : β → M (γ × List α)}
    (pa : PlainAttrs "list") (slot : Slot "list" name id) (hty : typeOf (.builtin id) = pure (.type "method_descriptor")) (hm : MtR X id r) (hl : ∀ b, LMut X.K A r Ar Rg as b (mm b)) (hG : G[j]? = some (some (pn q (ob (tL X.K A) as)))) (ho : FE X W G o (M.ok ()) (rV q)) (ha : FA X W G (e :: es) ma Ar)
    (hbase : attributeBase o name X.env (eval o X.env) = eval o X.env := by rfl)
    (hfew : ((backTo cpos (starEach (e :: es) X.env)).all (fun x => !x.1) && (backToKw cpos (keywordEach [] X.env)).all (fun x => x.1.isSome)
      && decide ((e :: es).length + ([] : List Keyword).length + (if ([] : List Keyword).isEmpty then 0 else 1) < 30)) = true := by rfl)
    (hline : (apos.endLine == cpos.line) = true := by rfl) (hs : starEach (e :: es) X.env = (false, eval e X.env) :: starEach es X.env := by rfl) (hplain : (backTo cpos (starEach es X.env)).any (·.1) = false := by rfl) (hp : Pay Eh G p := by exact pay0 rfl) :
    FX X W Eh tl G (.Call (.Attribute o name apos) (e :: es) [] cpos) (ma.bindP p fun b => (mm b).bindP p fun c => M.ok c) (fun c F v => Rg.r c.1 F v) (fun c _ => G.set j (some (pn q (ob (tL X.K A) c.2)))) :=
  PE.weak (pe_bm pa slot hty hm ho ha hbase hfew hline hs hplain) fun σ H Q ⟨B, F, T0⟩ => by
    have T0' : ToldX X.K W Eh tl G ((M.ok () : M Unit).bindP p fun _ => ma.bindP p fun b => (mm b).bindP p fun c => M.ok c) (fun c _ => G.set j (some (pn q (ob (tL X.K A) c.2)))) (fun c v F' H' => Rg.r c.1 F' v → Q v H') σ H B F := T0
    refine ⟨B, tl, F, T0'.tellE hp fun _ F1 H1 _ g1 T1 v rv => ?_⟩
    cases (show v = q from rv)
    obtain ⟨ms, z⟩ := T1.st.sl
    obtain ⟨u, h1, rfl, qa, vs, rfl, hh, pw, em⟩ := z.has j _ hG
    refine ⟨.inl ⟨rfl, vs, .inl (.inl hh)⟩, B, tl, F1, T1.tellE hp fun b F2 H2 eb g2 T2 ws hw => ?_⟩
    refine lm_tell j hG (hl b) T2 (fun ms2 z2 x hx => ?_) hw
    obtain ⟨u2, _, e2, qa2, vs2, e3, _, _, em2⟩ := z2.has j _ hG
    rw [em2] at hx
    cases List.mem_singleton.mp hx
    have : qa = x := V.ref.inj ((e2.symm.trans e3))
    subst this
    exact (z.mem j qa (by rw [em]; simp)).2.ne
theorem fx_lm0 {α γ : Type} (j : Nat) {q : V} {id : String} {name : Str} {o : Expr} {apos cpos : Pos} {p : Er → ε} {A : Rf α} {as : List α} {Rg : Rf γ} {r : V → List V → Hp → VK → Prop} {mm : M (γ × List α)}
    (pa : PlainAttrs "list") (slot : Slot "list" name id) (hty : typeOf (.builtin id) = pure (.type "method_descriptor")) (hm : MtR X id r) (hl : LMut X.K A r ra0 Rg as () mm) (hG : G[j]? = some (some (pn q (ob (tL X.K A) as)))) (ho : FE X W G o (M.ok ()) (rV q))
    (hbase : attributeBase o name X.env (eval o X.env) = eval o X.env := by rfl) (hline : (apos.endLine == cpos.line) = true := by rfl) (hp : Pay Eh G p := by exact pay0 rfl) :
    FX X W Eh tl G (.Call (.Attribute o name apos) [] [] cpos) (mm.bindP p fun c => M.ok c) (fun c F v => Rg.r c.1 F v) (fun c _ => G.set j (some (pn q (ob (tL X.K A) c.2)))) :=
  PE.weak (pe_bm0 pa slot hty hm ho hbase hline) fun σ H Q ⟨B, F, T0⟩ => by
    have T0' : ToldX X.K W Eh tl G ((M.ok () : M Unit).bindP p fun _ => mm.bindP p fun c => M.ok c) (fun c _ => G.set j (some (pn q (ob (tL X.K A) c.2)))) (fun c v F' H' => Rg.r c.1 F' v → Q v H') σ H B F := T0
    refine ⟨B, tl, F, T0'.tellE hp fun _ F1 H1 _ g1 T1 v rv => ?_⟩
    cases (show v = q from rv)
    obtain ⟨ms, z⟩ := T1.st.sl
    obtain ⟨u, h1, rfl, qa, vs, rfl, hh, pw, em⟩ := z.has j _ hG
    refine ⟨.inl ⟨rfl, vs, .inl (.inl hh)⟩, ?_⟩
    refine lm_tell (H := H1) j hG hl T1 (fun ms2 z2 x hx => (z2.mem j x hx).2.ne) rfl
end
/-! the methods -/
def popL {α : Type} (as : List α) : M (α × List α) := match as[as.length - 1]? with
  | some y => M.ok (y, as.dropLast)
  | none => none
theorem Pw.dropLast {α : Type} {R : α → V → Prop} : ∀ {as : List α} {vs : List V}, Pw R as vs → Pw R as.dropLast vs.dropLast
  | _, _, .nil => .nil
  | _, _, .cons h .nil => .nil
  | _, _, .cons h (.cons h2 t) => .cons h (Pw.dropLast (.cons h2 t))
theorem Pw.eraseIdx {α : Type} {R : α → V → Prop} : ∀ {as : List α} {vs : List V} (k : Nat), Pw R as vs → Pw R (as.eraseIdx k) (vs.eraseIdx k)
  | _, _, _, .nil => .nil
  | _, _, 0, .cons h t => t
  | _, _, k + 1, .cons h t => .cons h (t.eraseIdx k)
section
variable {K : PySem.W.Frag} {α : Type} {A : Rf α} {as : List α}
theorem lm_pop : LMut K A rPop ra0 A as () (popL as) := by
  refine ⟨fun e h => ?_, fun F H H0 l vs ws Q x _ hh pw hw c ec k => ?_⟩
  · unfold popL at h
    split at h <;> cases h
  · cases hw
    unfold popL at ec
    split at ec
    · rename_i y ey
      cases M.ok_inj ec
      obtain ⟨v, h1, h2⟩ := pw.get ey
      rw [pw.len] at h1
      exact ⟨l, vs, v, rfl, rfl, hh, h1, k v _ h2 pw.dropLast⟩
    · cases ec
/-- pop(i) -/
def popAtL {α : Type} (as : List α) (i : Int) : M (α × List α) := match seqIndex? i as.length with
  | some k => match as[k]? with
    | some y => M.ok (y, as.eraseIdx k)
    | none => none
  | none => none
theorem lm_popAt {i : Int} : LMut K A rPopAt (a1 fInt.up) A as (i, ()) (M.need (-(2 ^ 63) ≤ i ∧ i < 2 ^ 63) (popAtL as i)) := by
  refine ⟨fun e h => ?_, fun F H H0 l vs ws Q x _ hh pw hw c ec k => ?_⟩
  · unfold M.need at h
    split at h
    · unfold popAtL at h
      split at h
      · split at h <;> cases h
      · cases h
    · cases h
  · obtain ⟨v, r, e, h1, h2⟩ := hw
    cases h2
    cases (show v = V.int i from h1)
    subst e
    obtain ⟨hc, e2⟩ := M.need_ne (m := popAtL as i) (c := -(2 ^ 63) ≤ i ∧ i < 2 ^ 63) (by rw [ec]; exact fun z => nomatch z)
    rw [e2] at ec
    unfold popAtL at ec
    split at ec
    · rename_i j ej
      split at ec
      · rename_i y ey
        cases M.ok_inj ec
        obtain ⟨v, h1, h2⟩ := pw.get ey
        exact ⟨l, vs, i, j, v, rfl, rfl, hh, hc.1, hc.2, by rw [← pw.len]; exact ej, h1, k v _ h2 (pw.eraseIdx j)⟩
      · cases ec
    · cases ec
theorem lm_ext {bs : List α} : LMut K A rExtend (a1 (ro (tL K A))) fUnit as (bs, ()) (M.need (as.length + bs.length ≤ sizeLine) (M.ok ((), as ++ bs))) :=
  ⟨need_err, fun F H H0 l vs ws Q x h0 hh pw hw c ec k => by
    obtain ⟨hc, rfl⟩ := need_ok ec
    obtain ⟨v, r, e, ⟨ms, ⟨p, us, ev, hp, pw2, em⟩, hk⟩, h2⟩ := hw
    cases h2
    subst ev
    subst e
    exact ⟨l, p, vs, us, rfl, rfl, hh, hp, by rw [← pw.len, ← pw2.len]; exact hc, k _ _ rfl (pw.app pw2)⟩⟩
theorem lm_ins {i : Int} {a : α} : LMut K A (fun x vs H Q => ∃ (l : Addr) (xs : List V) (i : Int) (y : V), x = .ref l ∧ vs = [.int i, y] ∧ H l = some (.lst xs) ∧ xs.length < sizeLine ∧ 0 ≤ i ∧ i < 2 ^ 63 ∧ Q .non (upd H l (.lst (xs.take i.toNat ++ [y] ++ xs.drop i.toNat)))) (a2 fInt.up A.up) fUnit as (i, a, ()) (M.need (as.length < sizeLine ∧ 0 ≤ i ∧ i < 2 ^ 63) (M.ok ((), as.take i.toNat ++ [a] ++ as.drop i.toNat))) :=
  ⟨need_err, fun F H H0 l vs ws Q x h0 hh pw hw c ec k => by
    obtain ⟨hc, rfl⟩ := need_ok ec
    obtain ⟨v, r, e, h1, v2, r2, e2, h3, h4⟩ := hw
    cases h4
    cases (show v = V.int i from h1)
    subst e2
    subst e
    exact ⟨l, vs, i, v2, rfl, rfl, hh, by rw [← pw.len]; exact hc.1, hc.2.1, hc.2.2, k _ _ rfl (((pw.take _).app (.cons h3 .nil)).app (pw.drop _))⟩⟩
end
/-! remove, of data at any depth -/
def rRemD (K : PySem.W.Frag) : V → List V → Hp → VK → Prop := fun x xs H Q => ∃ (a : Addr) (vs : List V) (y : V) (d : PyData) (ds : List PyData) (j : Nat) (z : PyData), x = V.ref a ∧ xs = [y] ∧ H a = some (.lst vs) ∧ Dp K H (V.ref a) (.list ds) ∧ Dp K H y d ∧
  SeqAt.shaped (.list ds) = true ∧ SeqAt.shaped d = true ∧ ds[j]? = some z ∧ PyData.eqv z d = true ∧ (∀ (m : Nat) (z' : PyData), m < j → ds[m]? = some z' → PyData.eqv z' d = false) ∧ Q .non (upd H a (.lst (vs.eraseIdx j)))
theorem mt_removeD {X : Cx} (hu : X.A.units + 65 < cLine) : MtR X "list.remove" (rRemD X.K) := by
  intro pins s σ H x xs v us Q I rx rxs h
  obtain ⟨a, vs, y, d, ds, j, z, rfl, rfl, hh, hl, hy, sl, sd, hz, hzj, hno, q⟩ := h
  cases rx
  cases rxs with
  | cons ry rt =>
    rename_i uy ut
    cases rt
    obtain ⟨bs, r1⟩ := Dp.reads I d y uy hy ry
    have hxs : PyData.canLayAll0 ds = true := SeqAt.canLay_of_shaped sl
    have hroom : X.A.units + 1 + min (PyData.depthAll ds) d.depth < cLine := by
      have hd2 : d.depth ≤ 64 := of_decide_eq_true (Bool.and_eq_true_iff.mp sd).2
      omega
    cases hl with
    | lst hs ha =>
      rename_i xs'
      obtain ⟨hz0, its, n, rv, hle, ho⟩ := I.lstM hh
      obtain ⟨its', rv', ⟨⟨cls, dd, data, sls⟩, n', ho', hc', hdn', hdt'⟩, hlen'⟩ := I.list hs
      rw [ho] at ho'
      cases ho'
      have hii : its.toArray = its'.toArray := by cases hdt'; rfl
      have hii : its = its' := by simpa using hii
      subst hii
      obtain ⟨as, h4⟩ := Dp.readsAll I ds _ its ha rv'
      have hn : its.length = ds.length := SeqAt.ReadsAll.length ds its as h4
      have hmap : its.map (SeqAt.readOf s.heap) = ds := SeqAt.readsAll_map ds its as hxs h4
      have hvl := rv.length
      have hsl := sizeLine_eq
      obtain ⟨hjd, _⟩ := List.getElem?_eq_some_iff.mp hz
      have hjl : j < its.length := by omega
      have hj : j < its.toArray.size := by simpa using hjl
      have at_ : ∀ (m : Nat) (hm : m < its.toArray.size) (z' : PyData), ds[m]? = some z' → SeqAt.readOf s.heap its.toArray[m] = z' := by
        intro m hm z' hz'
        have hml : m < its.length := by simpa using hm
        rw [← hmap, List.getElem?_map, List.getElem?_eq_getElem hml] at hz'
        have e1 : SeqAt.readOf s.heap its[m] = z' := Option.some.inj (show some (SeqAt.readOf s.heap its[m]) = some z' from hz')
        simpa using e1
      refine call_meets PySem.F.slot_list_remove ⟨_, ho, rfl⟩ PySem.F.entry_list_remove (PySem.F.args_list_remove_2 _ _)
        (SeqAt.list_removeAt a its.toArray n none #[] uy (fun u => PyData.eqv (SeqAt.readOf s.heap u) d) j hj ?_ ?_ (by rw [List.size_toArray, ← hvl]; exact hz0)) ⟨ho, SeqAt.items_eqAt (vs := its.toArray) (show ReadsAll s.heap its.toArray.toList ds as from h4) r1 hxs (SeqAt.canLay_of_shaped sd) hroom, ?_⟩
      · show PyData.eqv (SeqAt.readOf s.heap its.toArray[j]) d = true
        rw [at_ j hj z hz]
        exact hzj
      · intro m hm hmj
        have hmd : m < ds.length := by omega
        have hz' : ds[m]? = some ds[m] := List.getElem?_eq_getElem hmd
        show PyData.eqv (SeqAt.readOf s.heap its.toArray[m]) d = false
        rw [at_ m hm _ hz']
        exact hno m _ hmj hz'
      · refine ⟨.non, _, I.lset (its' := its.eraseIdx j) hh ho ?_ (rv.eraseIdx j) ?_, rfl, q⟩
        · show its.toArray.eraseIdxIfInBounds j = (its.eraseIdx j).toArray
          rw [List.eraseIdxIfInBounds_toArray]
        · have := List.length_eraseIdx_le vs j
          omega
def remL {α : Type} [DecidableEq α] (as : List α) (a : α) : M (Unit × List α) := if a ∈ as then M.ok ((), as.erase a) else none
theorem erase_at {α : Type} [DecidableEq α] {a : α} : ∀ {as : List α}, a ∈ as → ∃ j, j < as.length ∧ as[j]? = some a ∧ (∀ i, i < j → ∀ b, as[i]? = some b → b ≠ a) ∧ as.eraseIdx j = as.erase a
  | [], h => absurd h (by simp)
  | b :: r, h => by
    by_cases e : b = a
    · subst e
      exact ⟨0, Nat.succ_pos _, rfl, fun i hi => absurd hi (Nat.not_lt_zero _), by rw [List.erase_cons_head]; rfl⟩
    · have hr : a ∈ r := by
        rcases List.mem_cons.mp h with z | z
        · exact absurd z.symm e
        · exact z
      obtain ⟨j, h1, h2, h3, h4⟩ := erase_at hr
      refine ⟨j + 1, Nat.succ_lt_succ h1, h2, fun i hi => ?_, ?_⟩
      · cases i with
        | zero => intro c hc; simp at hc; rw [← hc]; exact e
        | succ i => exact h3 i (Nat.lt_of_succ_lt_succ hi)
      · rw [List.erase_cons_tail (by simpa using e), ← h4]; rfl
theorem lm_rem {K : PySem.W.Frag} {α : Type} [DecidableEq α] {A : Rf α} (D : Dt K A) {as : List α} {a : α} (hn : D.n + 1 ≤ 64 := by exact Nat.le_of_ble_eq_true rfl) : LMut K A (rRemD K) (a1 A.up) fUnit as (a, ()) (remL as a) := by
  refine ⟨fun e h => ?_, fun F H H0 l vs ws Q x _ hh pw hw c ec k => ?_⟩
  · unfold remL at h
    split at h <;> cases h
  · obtain ⟨v, r, e, h1, h2⟩ := hw
    cases h2
    subst e
    unfold remL at ec
    split at ec
    · rename_i hm
      cases M.ok_inj ec
      obtain ⟨j, j1, j2, j3, j4⟩ := erase_at hm
      have hb : (bLst K A).r as H0 F H (.ref l) := ⟨l, vs, rfl, .inl (.inl hh), pw⟩
      obtain ⟨b1, b2⟩ := bl_at D x hb
      refine ⟨l, vs, v, D.d a, as.map D.d, j, D.d a, rfl, rfl, hh, b1, D.at_ h1 x, b2 hn, dt_shaped D (Nat.le_of_succ_le hn) h1, by rw [List.getElem?_map, j2]; rfl, (D.eq a a).mpr rfl, fun m z' hm' hz' => ?_, k _ _ rfl (by rw [← j4]; exact pw.eraseIdx j)⟩
      rw [List.getElem?_map] at hz'
      cases q : as[m]? with
      | none => rw [q] at hz'; cases hz'
      | some b =>
        rw [q] at hz'
        cases hz'
        have := j3 m hm' b q
        rw [dt_dec]
        exact decide_eq_false this
    · cases ec
/-! ### [..] * n -/
def repL {α : Type} (as : List α) (n : Int) : List α := (List.replicate n.toNat as).flatten
theorem pw_rep {α : Type} {R : α → V → Prop} {as : List α} {vs : List V} (h : Pw R as vs) : ∀ n : Nat, Pw R (List.replicate n as).flatten (List.replicate n vs).flatten
  | 0 => .nil
  | n + 1 => by
    rw [List.replicate_succ, List.replicate_succ, List.flatten_cons, List.flatten_cons]
    exact h.app (pw_rep h n)
theorem ol_repL {K : PySem.W.Frag} {α : Type} {A : Rf α} {as : List α} {n : Int} : OpP rRep (ro (tL K A)) fInt.up as n (M.need (-(2 ^ 63) ≤ n ∧ n < 2 ^ 63 ∧ as.length * n.toNat ≤ sizeLine) (M.ok (repL as n))) (ro (tL K A)) :=
  ⟨need_err, fun F H v w H0 Q x ⟨ms, ⟨p, vs, e1, h1, q1, em⟩, hk⟩ hb c ec k => by
    obtain ⟨hc, rfl⟩ := need_ok ec
    cases (show w = V.int n from hb)
    subst e1
    refine ⟨p, n, vs, rfl, rfl, h1, hc.1, hc.2.1, by rw [← q1.len]; exact hc.2.2, fun l hl => ?_⟩
    refine k (.ref l) F _ (Gr.newM x hl) ⟨[l], ⟨l, _, rfl, upd_same, pw_rep q1 _, rfl⟩, fun y hy => ?_⟩
    cases List.mem_singleton.mp hy
    exact ⟨hl, x.free hl, NT.up⟩⟩
end LK
namespace LK
open PySem L2
/-! ### enumerate -/
def enumL {α : Type} (as : List α) : List (Int × α) := as.zipIdx.map fun p => ((p.2 : Int), p.1)
theorem enumL_len {α : Type} (as : List α) : (enumL as).length = as.length := by simp [enumL]
theorem enumL_get {α : Type} {as : List α} {i : Nat} {a : α} (h : as[i]? = some a) : (enumL as)[i]? = some ((i : Int), a) := by
  unfold enumL
  rw [List.getElem?_map, List.getElem?_zipIdx, h]
  simp
section
variable {X : Cx} {W : WX} {G Gw : Gm} {kk : Nat} {α β : Type} {A : Rf α} {E : Rf β}
abbrev fEnum (K : PySem.W.Frag) {α : Type} (A : Rf α) : Rf (Int × α) := fTup K (tvc fInt (tv1 A))
theorem fEnum_at {K : PySem.W.Frag} {F : Hp} {T : Addr} {i : Nat} {x : V} {a : α} (h : A.r a F x) (hT : F T = none) : (fEnum K A).r ((i : Int), a) (upd F T (.tup [.int (i : Nat), x])) (.ref T) :=
  ⟨T, _, rfl, .inl (.inl upd_same), _, _, rfl, rfl, x, rfl, A.st h (Ex.new hT)⟩
theorem tLcE_run {elt tg iter : Expr} {ifs : List Expr} {scope : Scope} {own : List (Str × Nat)} {m : M (List α)} {c : Int × α → M Bool} {f : Int × α → M β} {G2 : Int × α → Gm} (C : Cok X W kk) (d : Imp G Gw) (hw : ∀ i ∈ own.map (·.2), ∀ t, Gw[i]? ≠ some (some t))
    {σ : St} {H : Hp} {Q : VK} (h : tE X.K W G (m.bind fun as => lcL c f (enumL as) []) (ro (tL X.K E)) σ H Q) : tLc (iEnum X.K (tCons (tE X.K W G m (bLst X.K A)) tNil)) (tGt (own.map (·.2)) (fun _ : Int × α => Gw) (fEnum X.K A) (fun z => z) G2) (tTu X.K G2 c) (tEu X.K G2 f E) (own.map (·.2)) σ H Q := by
  obtain ⟨B, tl, F, T⟩ := h
  refine ⟨B, tl, F, T.seq fun as F1 H1 _ g1 T1 v ⟨q, vs, ev, hq, pw⟩ => ?_⟩
  subst ev
  refine ⟨q, vs, rfl, hq, fun D hD => ?_⟩
  have st := T1.st.wipe d hw
  refine lc_it (walk_enum (K := X.K) (a := q) (xs := vs)) (g := tGt (own.map (·.2)) (fun _ : Int × α => Gw) (fEnum X.K A) (fun z => z) G2) (tt := tTu X.K G2 c) (te := tEu X.K G2 f E) (D := D) (Qd := fun H => Q (.ref D) H) (fun i H => ∃ F acc accv, Gr F1 H1 F H ∧ F D = none ∧ H D = some (.lst accv) ∧ Pw (fun b x => E.r b F x) acc accv ∧ lcL c f (enumL as) [] = lcL c f ((enumL as).drop i) acc) ?_ ?_ ?_ ?_
  · exact ⟨F1, [], [], Gr.newM g1.fh hD, g1.fh.free hD, upd_same, .nil, rfl⟩
  · rintro i H _ ⟨F, acc, accv, g, _⟩
    exact sqL_ex g.h hq
  · rintro i x H H' hi ⟨F, acc, accv, g, hF, hDl, pa, el⟩ ⟨Tq, x1, y, ev, hT, eH, e1, hy⟩
    subst ev eH
    cases e1
    obtain ⟨a, ha, hv⟩ := pw.getV hy
    have hne : D ≠ Tq := ne_of_none hDl hT
    have gn : Gr F H (upd F Tq (.tup [.int (i : Nat), y])) (upd H Tq (.tup [.int (i : Nat), y])) := Gr.newF g.fh hT
    refine lc_turn st rfl hD (enumL_get ha) (g.trans gn) (by rw [upd_ne hne]; exact hF) (fEnum_at (A.st hv g.f) (g.fh.free hT)) (by rw [upd_ne hne]; exact hDl) (pa.imp fun _ _ h => E.st h gn.f) (by rw [← el]; exact T1.ne) (te := tEu X.K G2 f E) (tt := tTu X.K G2 c) (fun _ _ _ h => h) (fun _ _ _ h => h) fun F' H' acc' accv' g' h1 h2 h3 h4 => ⟨F', acc', accv', g', h1, h2, h3, el.trans h4⟩
  · rintro H ⟨F, acc, accv, g, hF, hDl, pa, el⟩
    rw [← pw.len, ← enumL_len as, List.drop_length] at el
    refine T1.ok acc el F H g (.ref D) ⟨[D], ⟨D, accv, rfl, hDl, pa, rfl⟩, fun y hy => ?_⟩
    cases List.mem_singleton.mp hy
    exact ⟨g1.h.free hD, hF, .of hDl⟩
theorem fe_lcE {elt e : Expr} {elts : List Expr} {k1 : Nat} {tp p cpos : Pos} {ifs : List Expr} {scope : Scope} {own : List (Str × Nat)} {pos : Pos} {m : M (List α)} {c : Int × α → M Bool} {f : Int × α → M β} {G2 : Int × α → Gm} (C : Cok X W kk) (hm : X.mg "enumerate" = none) (hi : FE X W G e m (bLst X.K A)) (d : Imp G Gw) (hw : ∀ i ∈ own.map (·.2), ∀ t, Gw[i]? ≠ some (some t))
    (ok : BlkOk X.N X.env.scope scope own) (hg : ∀ s H C cl fp, FG (blkX X scope s H C cl fp) (own.map (·.2)) (fun _ : Int × α => Gw) (.Tuple elts k1 tp) (fEnum X.K A) (fun z => z) G2) (ht : ∀ a s H C cl fp, FTs (blkX X scope s H C cl fp) W0 (G2 a) ifs (c a)) (he : ∀ a s H C cl fp, FE (blkX X scope s H C cl fp) W0 (G2 a) elt (f a) E.up)
    (hgl : Gl X "enumerate" := by rfl) (hst : starEach [e] X.env = [(false, eval e X.env)] := by rfl) (hs : ∀ x, foldedSetIterable (.Call (.Name "enumerate" p) [e] [] cpos) X.env x = pure x := by intro _; rfl) : FE X W G (.ListComp elt [⟨.Tuple elts k1 tp, (.Call (.Name "enumerate" p) [e] [] cpos), ifs, 0⟩] scope pos) (m.bind fun as => lcL c f (enumL as) []) (ro (tL X.K E)) :=
  PE.weak (pe_lc (tt := tTu X.K G2 c) (te := tEu X.K G2 f E) C.calm C.nd (pi_enum hgl hm (pa_cons hi pa_nil hst) hst) ok (fun s H C cl fp => hg s H C cl fp) (fun s H C cl fp => ⟨fun pins s1 σ H1 Q I ⟨a, q⟩ => (ht a s H C cl fp).run pins s1 σ H1 Q I q⟩) (fun s H C cl fp => ⟨fun pins s1 σ H1 Q I ⟨a, q⟩ => (he a s H C cl fp).run pins s1 σ H1 Q I q⟩) hs) fun σ H Q h => tLcE_run (elt := elt) (tg := elt) (iter := elt) (ifs := ifs) (scope := scope) C d hw h
theorem fv_lcE {elt e : Expr} {elts : List Expr} {k1 : Nat} {tp p cpos : Pos} {ifs : List Expr} {scope : Scope} {own : List (Str × Nat)} {pos : Pos} {as : List α} {c : Int × α → M Bool} {f : Int × α → M β} {G2 : Int × α → Gm} (C : Cok X W kk) (hm : X.mg "enumerate" = none) (hi : FE X W G e (M.ok as) (bLst X.K A)) (d : Imp G Gw) (hw : ∀ i ∈ own.map (·.2), ∀ t, Gw[i]? ≠ some (some t))
    (ok : BlkOk X.N X.env.scope scope own) (hg : ∀ s H C cl fp, FG (blkX X scope s H C cl fp) (own.map (·.2)) (fun _ : Int × α => Gw) (.Tuple elts k1 tp) (fEnum X.K A) (fun z => z) G2) (ht : ∀ a s H C cl fp, FTs (blkX X scope s H C cl fp) W0 (G2 a) ifs (c a)) (he : ∀ a s H C cl fp, FE (blkX X scope s H C cl fp) W0 (G2 a) elt (f a) E.up)
    (hgl : Gl X "enumerate" := by rfl) (hst : starEach [e] X.env = [(false, eval e X.env)] := by rfl) (hs : ∀ x, foldedSetIterable (.Call (.Name "enumerate" p) [e] [] cpos) X.env x = pure x := by intro _; rfl) : FE X W G (.ListComp elt [⟨.Tuple elts k1 tp, (.Call (.Name "enumerate" p) [e] [] cpos), ifs, 0⟩] scope pos) (lcL c f (enumL as) []) (ro (tL X.K E)) := fe_lcE C hm hi d hw ok hg ht he hgl hst hs
end
/-! ### for over enumerate, reversed -/
section
variable {ε : Type} {Eh : EH ε} {X : Cx} {W : WX} {tl tl' : List Nat} {ρ b s : Type} {R : ρ → V → Gm} {Gs : s → Gm} {α : Type} {A : Rf α}
theorem for_standV {f : s → α → Mg ε (Fl ρ s s)} {D : Ends} {B' : Bs} {as : List α} {q : Addr} {G2 : s × α → Gm} {x0 : s} {F H : Hp} {σ : St} (st : Stt B' tl' (Gs x0) F H σ) (lc : Lc X.K W Eh tl' (forL (b := b) f as.reverse x0) R Gs D B')
    (hs : ∀ x F' H' σ', Stt B' tl' (Gs x) F' H' σ' → ∃ vs, SqL X.K H' q vs ∧ Pw (fun a v => A.r a F' v) as vs) : ∃ W_1 : Nat → Nat → St → Hp → Prop, (∃ m, W_1 0 m σ H) ∧ ∀ i m σ H, W_1 i m σ H →
      ((Itv X.K q as.length).stop i H ∧ D.nx σ H) ∨ ((Itv X.K q as.length).go i H ∧ ∃ N : St → Hp → Prop, (∀ σ' H', N σ' H' → ∃ m', m' < m ∧ W_1 (i + 1) m' σ' H') ∧ ∀ x H', (Itv X.K q as.length).yld i H x H' →
        tGt tl' (fun z : s × α => Gs z.1) A (fun z => z.2) G2 x σ H' fun σ2 H2 => ∃ z : s × α, tFS X.K W Eh tl' (G2 z) (f z.1 z.2) R Gs Gs { D with nx := N, ct := N, bk := D.nx } σ2 H2) := by
  refine ⟨fun i m σ H => m = as.length - i ∧ i ≤ as.length ∧ ∃ F x, Stt B' tl' (Gs x) F H σ ∧ Lc X.K W Eh tl' (forL (b := b) f (as.reverse.drop i) x) R Gs D B', ⟨_, rfl, Nat.zero_le _, F, x0, st, lc⟩, ?_⟩
  rintro i m σ H ⟨rfl, hi, F, x, st, lc⟩
  obtain ⟨vs, hq, pw⟩ := hs x F H σ st
  by_cases hlt : i < as.length
  · have hj : as.length - 1 - i < as.length := by omega
    obtain ⟨v, hv, hr⟩ := pw.get (i := as.length - 1 - i) (List.getElem?_eq_getElem hj)
    refine .inr ⟨⟨hlt, vs, v, hq, hv⟩, fun σ' H' => ∃ F y, Stt B' tl' (Gs y) F H' σ' ∧ Lc X.K W Eh tl' (forL (b := b) f (as.reverse.drop (i + 1)) y) R Gs D B', fun σ' H' h => ⟨_, by omega, rfl, hlt, h⟩, fun u H' ⟨eH, yl⟩ => ?_⟩
    subst eH
    have hu := yl vs hq
    rw [hv] at hu
    cases hu
    have hrev : as.reverse[i]? = some as[as.length - 1 - i] := by
      rw [List.getElem?_reverse hlt, List.getElem?_eq_getElem hj]
    exact for_turn hrev (fun y σ' F' H' st' lc' => ⟨F', y, st', lc'⟩) st lc hr
  · have e : as.reverse.drop i = [] := List.drop_eq_nil_of_le (by rw [List.length_reverse]; omega)
    rw [e] at lc
    exact .inl ⟨by show as.length ≤ i; omega, lc.nx x rfl σ F H st⟩
theorem ps_forV {γ : Type} {e : Expr} {p1 cpos pos : Pos} {tg : Expr} {body : List Stmt} {G : Gm} {kk : Nat} {p : Er → ε} {m : M γ} {Rs : Rl γ} {l : γ → List α} {f : s → α → Mg ε (Fl ρ s s)} {G2 : s × α → Gm} {x0 : s} {Gb : b → Gm} (C : Cok X W kk) (hm : X.mg "reversed" = none) (he : FE X W G e m Rs) (hS : Src X.K A Gs Rs l) (hG : Imp G (Gs x0)) (hg : FG X tl' (fun z : s × α => Gs z.1) tg A (fun z => z.2) G2)
    (hb : ∀ x a, FS X W Eh tl' (G2 (x, a)) body (f x a) R Gs Gs) (ht : ∀ i ∈ tl', i ∈ tl := by decide) (hgl : Gl X "reversed" := by rfl) (hst : starEach [e] X.env = [(false, eval e X.env)] := by rfl) (hs : ∀ x, foldedSetIterable (.Call (.Name "reversed" p1) [e] [] cpos) X.env x = pure x := by intro _; rfl) (hp : Pay Eh G p := by exact pay0 rfl) : PS X (.For tg (.Call (.Name "reversed" p1) [e] [] cpos) body [] pos) (tFS X.K W Eh tl G (m.bindP p fun c => forL f (l c).reverse x0) R Gb Gs) :=
  PS.weak (ps_for C.hp C.calm (pi_reversed hgl hm (pa_cons he pa_nil hst) hst) hg (pss_ex fun z : s × α => hb z.1 z.2) hs) fun D σ H ⟨B, F, T⟩ => by
    refine ⟨B, tl, F, T.tellE hp fun c F1 H1 ea g v rv => ?_⟩
    have T1 := T.rest ea (T.st.grow g)
    have st1 := hG _ _ _ _ _ T1.st
    obtain ⟨Xl, hX, st2⟩ := st1.rebase (tl' := tl')
    obtain ⟨q, rfl, hq⟩ := hS.run c H F1 H1 v _ _ _ _ rv st2
    have lc1 := T1.lc hX ht
    have stand : ∀ x F' H' σ', Stt ⟨B.Hd, Xl, F1, H1, σ⟩ tl' (Gs x) F' H' σ' → ∃ vs, SqL X.K H' q vs ∧ Pw (fun a v => A.r a F' v) (l c) vs := fun x F' H' σ' st => hq _ _ x F' H' σ' st st.g.f
    obtain ⟨vs, h1, pw⟩ := stand x0 F1 H1 σ st2
    exact ⟨q, vs, rfl, h1, by rw [← pw.len]; exact for_standV st2 lc1 stand⟩
theorem for_standE {f : s → Int × α → Mg ε (Fl ρ s s)} {D : Ends} {B' : Bs} {as : List α} {q : Addr} {G2 : s × (Int × α) → Gm} {x0 : s} {F H : Hp} {σ : St} (st : Stt B' tl' (Gs x0) F H σ) (lc : Lc X.K W Eh tl' (forL (b := b) f (enumL as) x0) R Gs D B')
    (hs : ∀ x F' H' σ', Stt B' tl' (Gs x) F' H' σ' → ∃ vs, SqL X.K H' q vs ∧ Pw (fun a v => A.r a F' v) as vs) : ∃ W_1 : Nat → Nat → St → Hp → Prop, (∃ m, W_1 0 m σ H) ∧ ∀ i m σ H, W_1 i m σ H →
      ((Ite X.K q).stop i H ∧ D.nx σ H) ∨ ((Ite X.K q).go i H ∧ ∃ N : St → Hp → Prop, (∀ σ' H', N σ' H' → ∃ m', m' < m ∧ W_1 (i + 1) m' σ' H') ∧ ∀ x H', (Ite X.K q).yld i H x H' →
        tGt tl' (fun z : s × (Int × α) => Gs z.1) (fEnum X.K A) (fun z => z.2) G2 x σ H' fun σ2 H2 => ∃ z : s × (Int × α), tFS X.K W Eh tl' (G2 z) (f z.1 z.2) R Gs Gs { D with nx := N, ct := N, bk := D.nx } σ2 H2) := by
  refine ⟨fun i m σ H => m = as.length - i ∧ i ≤ as.length ∧ ∃ F x, Stt B' tl' (Gs x) F H σ ∧ Lc X.K W Eh tl' (forL (b := b) f ((enumL as).drop i) x) R Gs D B', ⟨_, rfl, Nat.zero_le _, F, x0, st, lc⟩, ?_⟩
  rintro i m σ H ⟨rfl, hi, F, x, st, lc⟩
  obtain ⟨vs, hq, pw⟩ := hs x F H σ st
  by_cases hlt : i < as.length
  · obtain ⟨v, hv, hr⟩ := pw.get (i := i) (List.getElem?_eq_getElem hlt)
    refine .inr ⟨⟨vs, v, hq, hv⟩, fun σ' H' => ∃ F y, Stt B' tl' (Gs y) F H' σ' ∧ Lc X.K W Eh tl' (forL (b := b) f ((enumL as).drop (i + 1)) y) R Gs D B', fun σ' H' h => ⟨_, by omega, rfl, hlt, h⟩, fun u H' ⟨Tq, y, eu, hT, eH, yl⟩ => ?_⟩
    subst eu eH
    have hu := yl vs hq
    rw [hv] at hu
    cases hu
    have gn : Gr F H (upd F Tq (.tup [.int (i : Nat), v])) (upd H Tq (.tup [.int (i : Nat), v])) := Gr.newF st.fh hT
    exact for_turn (enumL_get (List.getElem?_eq_getElem hlt)) (fun y σ' F' H' st' lc' => ⟨F', y, st', lc'⟩) (st.grow gn) lc (fEnum_at hr (st.fh.free hT))
  · have e : (enumL as).drop i = [] := List.drop_eq_nil_of_le (by rw [enumL_len]; omega)
    rw [e] at lc
    exact .inl ⟨⟨vs, hq, by rw [← pw.len]; omega⟩, lc.nx x rfl σ F H st⟩
theorem ps_forE {γ : Type} {e : Expr} {elts : List Expr} {k1 : Nat} {tp : Pos} {p1 cpos pos : Pos} {body : List Stmt} {G : Gm} {kk : Nat} {p : Er → ε} {m : M γ} {Rs : Rl γ} {l : γ → List α} {f : s → Int × α → Mg ε (Fl ρ s s)} {G2 : s × (Int × α) → Gm} {x0 : s} {Gb : b → Gm} (C : Cok X W kk) (hm : X.mg "enumerate" = none) (he : FE X W G e m Rs) (hS : Src X.K A Gs Rs l) (hG : Imp G (Gs x0)) (hg : FG X tl' (fun z : s × (Int × α) => Gs z.1) (.Tuple elts k1 tp) (fEnum X.K A) (fun z => z.2) G2)
    (hb : ∀ x a, FS X W Eh tl' (G2 (x, a)) body (f x a) R Gs Gs) (ht : ∀ i ∈ tl', i ∈ tl := by decide) (hgl : Gl X "enumerate" := by rfl) (hst : starEach [e] X.env = [(false, eval e X.env)] := by rfl) (hs : ∀ x, foldedSetIterable (.Call (.Name "enumerate" p1) [e] [] cpos) X.env x = pure x := by intro _; rfl) (hp : Pay Eh G p := by exact pay0 rfl) : PS X (.For (.Tuple elts k1 tp) (.Call (.Name "enumerate" p1) [e] [] cpos) body [] pos) (tFS X.K W Eh tl G (m.bindP p fun c => forL f (enumL (l c)) x0) R Gb Gs) :=
  PS.weak (ps_for C.hp C.calm (pi_enum hgl hm (pa_cons he pa_nil hst) hst) hg (pss_ex fun z : s × (Int × α) => hb z.1 z.2) hs) fun D σ H ⟨B, F, T⟩ => by
    refine ⟨B, tl, F, T.tellE hp fun c F1 H1 ea g v rv => ?_⟩
    have T1 := T.rest ea (T.st.grow g)
    have st1 := hG _ _ _ _ _ T1.st
    obtain ⟨Xl, hX, st2⟩ := st1.rebase (tl' := tl')
    obtain ⟨q, rfl, hq⟩ := hS.run c H F1 H1 v _ _ _ _ rv st2
    have lc1 := T1.lc hX ht
    have stand : ∀ x F' H' σ', Stt ⟨B.Hd, Xl, F1, H1, σ⟩ tl' (Gs x) F' H' σ' → ∃ vs, SqL X.K H' q vs ∧ Pw (fun a v => A.r a F' v) (l c) vs := fun x F' H' σ' st => hq _ _ x F' H' σ' st st.g.f
    obtain ⟨vs, h1, pw⟩ := stand x0 F1 H1 σ st2
    exact ⟨q, vs, rfl, h1, for_standE st2 lc1 stand⟩
end
section
variable {ε : Type} {Eh : EH ε} {X : Cx} {W : WX} {G : Gm} {tl : List Nat} {ρ b s : Type} {R : ρ → V → Gm} {Gb : b → Gm} {N : s → Gm} {k : Nat}
theorem fv_setLcR {β : Type} (i : Nat) {y : Str} {py spos : Pos} {Gw : Gm} {E : Rf β} {elt tg e : Expr} {p' cpos : Pos} {ifs : List Expr} {scope : Scope} {own : List (Str × Nat)} {pos : Pos} {p : Er → ε} {n : Int} {c : Int → M Bool} {f : Int → M β} {G2 : Int → Gm} {rest : List Stmt} {ff : List β → Mg ε (Fl ρ b s)} (C : Cok X W k) (hm0 : X.mg "range" = none)
    (hi : FE X W G e (M.ok n) fInt.up) (d : Imp G Gw) (hw : ∀ i ∈ own.map (·.2), ∀ t, Gw[i]? ≠ some (some t))
    (ok : BlkOk X.N X.env.scope scope own) (hg : ∀ s H C cl fp, FG (blkX X scope s H C cl fp) (own.map (·.2)) (fun _ : Int => Gw) tg fInt (fun z => z) G2) (ht : ∀ a s H C cl fp, FTs (blkX X scope s H C cl fp) W0 (G2 a) ifs (c a)) (he : ∀ a s H C cl fp, FE (blkX X scope s H C cl fp) W0 (G2 a) elt (f a) E.up)
    (hr : ∀ a, FS X W Eh tl (G.set i (some (ob (tL X.K E) a))) rest (ff a) R Gb N)
    (hy : X.N[i]? = some y := by rfl) (hyl : X.env.scope.names.lookup y = some .local := by rfl) (hk : X.env.scope.kind = .function := by rfl) (hln : (py.line == pos.line) = true := by rfl) (ha : (scope.names.any fun (n, k) => n == y && (k == .local || k == .cell)) = false := by decide +kernel)
    (hgl : Gl X "range" := by rfl) (hst : starEach [e] X.env = [(false, eval e X.env)] := by rfl) (hm : i ∈ tl := by decide) (hl : i < G.length := by exact Nat.le_of_ble_eq_true rfl) (hs : ∀ x, foldedSetIterable (.Call (.Name "range" p') [e] [] cpos) X.env x = pure x := by intro _; rfl) (hp : Pay Eh G p := by exact pay0 rfl) :
    FS X W Eh tl G (.Assign [.Name y py] (.ListComp elt [⟨tg, (.Call (.Name "range" p') [e] [] cpos), ifs, 0⟩] scope pos) spos :: rest) ((M.need (-(2 ^ 62) ≤ n ∧ n < 2 ^ 62) (lcL c f (rngL n) [])).bindP p ff) R Gb N := fs_setLcR i C hm0 hi d hw ok hg ht he hr hy hyl hk hln ha hgl hst hm hl hs hp
end
end LK
namespace LK
open PySem L2
/-! ### instances whose fields are told by U -/
def tBx {α : Type} (C : Addr) (U : α → Fs) : Th α := ⟨fun a F X v => (tB C).rd (U a) F X v, fun a F H v ms => (tB C).ow (U a) F H v ms, fun h x y => (tB C).rst h x y, fun h x k => (tB C).ost h x k, fun h k x => (tB C).ord h k x⟩
/-! fields by their numbers -/
theorem look_at {α : Type} {f : Str} {c : α} : ∀ {l : List (Str × α)} {names : List Str} {n : Nat}, l.map (·.1) = names → names.Nodup → l[n]? = some (f, c) → l.lookup f = some c
  | [], _, n, _, _, h => by simp at h
  | (g, x) :: r, names, n, hk, nd, h => by
    subst hk
    rw [List.lookup_cons]
    cases n with
    | zero =>
      simp at h
      obtain ⟨rfl, rfl⟩ := h
      rw [beq_self_eq_true]
    | succ n =>
      have h : r[n]? = some (f, c) := by simpa using h
      have hm : f ∈ r.map (·.1) := List.mem_map.mpr ⟨(f, c), List.mem_of_getElem? h, rfl⟩
      have nd := List.nodup_cons.mp (show (g :: r.map (·.1)).Nodup from nd)
      have : (f == g) = false := beq_eq_false_iff_ne.mpr fun e => nd.1 (e ▸ hm)
      rw [this]
      exact look_at rfl nd.2 h
theorem put_at {f : Str} {c c' : Ce} : ∀ {l : Fs} {names : List Str} {n : Nat}, l.map (·.1) = names → names.Nodup → l[n]? = some (f, c) → putC f c' l = l.set n (f, c')
  | [], _, n, _, _, h => by simp at h
  | (g, x) :: r, names, n, hk, nd, h => by
    subst hk
    unfold putC
    cases n with
    | zero =>
      simp at h
      obtain ⟨rfl, rfl⟩ := h
      rw [if_pos rfl]
      rfl
    | succ n =>
      have h : r[n]? = some (f, c) := by simpa using h
      have hm : f ∈ r.map (·.1) := List.mem_map.mpr ⟨(f, c), List.mem_of_getElem? h, rfl⟩
      have nd := List.nodup_cons.mp (show (g :: r.map (·.1)).Nodup from nd)
      rw [if_neg (fun e => nd.1 (by rw [e]; exact hm)), put_at rfl nd.2 h]
      rfl
theorem put_new {f : Str} {c' : Ce} : ∀ {l : Fs} {names : List Str}, l.map (·.1) = names → f ∉ names → putC f c' l = l ++ [(f, c')]
  | [], _, _, _ => rfl
  | (g, x) :: r, names, hk, nd => by
    subst hk
    unfold putC
    rw [if_neg (fun e => nd (by rw [← e]; simp)), put_new rfl (fun e => nd (by simp at e ⊢; exact .inr e))]
    rfl
theorem look_no {α : Type} {f : Str} : ∀ {l : List (Str × α)} {names : List Str}, l.map (·.1) = names → f ∉ names → l.lookup f = none
  | [], _, _, _ => rfl
  | (g, x) :: r, names, hk, nd => by
    subst hk
    rw [List.lookup_cons]
    have : (f == g) = false := beq_eq_false_iff_ne.mpr fun e => nd (by rw [e]; simp)
    rw [this]
    exact look_no rfl fun e => nd (by simp at e ⊢; exact .inr e)
section
variable {X : Cx} {W : WX} {G : Gm} {C : Addr} {l : Fs} {names : List Str} {o : Expr} {f : Str} {pos : Pos} {α : Type} {c : Ce} {x : α} {R : Rl α}
theorem fe_fldN (n : Nat) (he : FE X W G o (M.ok l) (nw (tB C))) (hc : CeG c x R) (nd : names.Nodup) (cC : Cls X.K C) (cN : NoAttr X.K C f) (hl : l[n]? = some (f, c) := by rfl) (hk : l.map (·.1) = names := by rfl) (hb : attributeBase o f X.env (eval o X.env) = eval o X.env := by rfl) : FE X W G (.Attribute o f pos) (M.ok x) R :=
  fe_fld he (look_at hk nd hl) hc cC cN hb
/-- what stands at a place, by its value -/
theorem fe_place {a : α} {w : V} {s : Sl} (g : Nat) (he : FE X W G o (M.ok ()) (rV w)) (hs : Gives s a R) (hv : ∀ Y F H v ms, s.r Y F H v ms → v = w) (hG : G[g]? = some (some s) := by rfl) : FE X W G o (M.ok a) R :=
  PE.weak he fun σ H Q ⟨B, tl, F, T⟩ => by
    have T' : Told X.K W G ((M.ok () : M Unit).bind fun _ => M.ok a) (fun a F' H' => ∀ v, R.r a H F' H' v → Q v H') σ H B tl F := T
    refine ⟨B, tl, F, T'.seq fun _ F1 H1 _ g1 T1 v rv => ?_⟩
    cases (show v = w from rv)
    obtain ⟨ms, z⟩ := T1.st.sl
    obtain ⟨u, _, h2⟩ := z.has g s hG
    cases hv _ _ _ _ _ h2
    exact T1.ok a rfl F1 H1 (Gr.refl T1.st.fh) _ (hs _ F1 H1 _ _ h2 T1.st.fh T1.st.yh (fun y hy => z.mem g y hy) H)
end
section
variable {ε : Type} {Eh : EH ε} {X : Cx} {W : WX} {G : Gm} {tl : List Nat} {ρ b s : Type} {R : ρ → V → Gm} {Gb : b → Gm} {N : s → Gm}
/-- told in another form -/
theorem fs_re {sts : List Stmt} {m : Mg ε (Fl ρ b s)} {G1 : Gm} (h : FS X W Eh tl G1 sts m R Gb N) (e : G = G1 := by rfl) : FS X W Eh tl G sts m R Gb N := by
  rw [e]
  exact h
/-! ### fields are opened, closed -/
theorem fs_openN {sts : List Stmt} {m : Mg ε (Fl ρ b s)} {q : V} {C : Addr} {l : Fs} {names : List Str} {f : Str} {α : Type} {T : Th α} {a : α} (k g n : Nat) (nd : names.Nodup) (h : ∀ w, FS X W Eh tl ((G.set k (some (pn q (bx C (l.set n (f, ce (tF fVal) w)))))).set g (some (pn w (ob T a)))) sts m R Gb N) (hG : G[k]? = some (some (pn q (bx C l))) := by rfl) (hl : l[n]? = some (f, ce T a) := by rfl) (hk : l.map (·.1) = names := by rfl) (hg : G[g]? = some none := by rfl) (hn : X.N.length ≤ g := by exact Nat.le_of_ble_eq_true rfl) : FS X W Eh tl G sts m R Gb N :=
  fs_open k g f hG (look_at hk nd hl) hg (fun w => by rw [put_at hk nd hl]; exact h w) hn
theorem Imp.closeN {k g : Nat} {q w : V} {C : Addr} {l : Fs} {names : List Str} {f : Str} {α : Type} {T : Th α} {a : α} (n : Nat) (nd : names.Nodup) (hG : G[k]? = some (some (pn q (bx C l))) := by rfl) (hl : l[n]? = some (f, ce (tF fVal) w) := by rfl) (hk : l.map (·.1) = names := by rfl) (hg : G[g]? = some (some (pn w (ob T a))) := by rfl) (hne : k ≠ g := by decide) :
    Imp G ((G.set k (some (pn q (bx C (l.set n (f, ce T a)))))).set g none) := by
  have := Imp.close hG (look_at hk nd hl) hg hne
  rw [put_at hk nd hl] at this
  exact this
/-- a lent instance -/
theorem RdA.take {F X : Hp} {f : Str} {α : Type} {T : Th α} {a : α} : ∀ {cs : Fs} {fs : List (Str × V)} {n : Nat}, RdA F X cs fs → cs[n]? = some (f, ce T a) → ∃ v, T.rd a F X v ∧ RdA F X (cs.set n (f, ce (tF fVal) v)) fs
  | _, _, n, .nil, h => by simp at h
  | _, _, 0, @RdA.cons _ _ g c' v' cs fs h t, e => by
    simp at e
    obtain ⟨rfl, rfl⟩ := e
    exact ⟨v', h, .cons rfl t⟩
  | _, _, n + 1, @RdA.cons _ _ g c' v' cs fs h t, e => by
    obtain ⟨v, h1, h2⟩ := RdA.take t (n := n) (by simpa using e)
    exact ⟨v, h1, .cons h h2⟩
theorem RdA.back {F X : Hp} {f : Str} {c : Ce} {v : V} (hc : c.rd F X v) : ∀ {cs : Fs} {fs : List (Str × V)} {n : Nat}, RdA F X cs fs → cs[n]? = some (f, ce (tF fVal) v) → RdA F X (cs.set n (f, c)) fs
  | _, _, n, .nil, h => by simp at h
  | _, _, 0, @RdA.cons _ _ g c' v' cs fs h t, e => by
    simp at e
    obtain ⟨rfl, rfl⟩ := e
    cases (show v' = v from h)
    exact .cons hc t
  | _, _, n + 1, @RdA.cons _ _ g c' v' cs fs h t, e => .cons h (RdA.back hc t (n := n) (by simpa using e))
theorem fs_openB {sts : List Stmt} {m : Mg ε (Fl ρ b s)} {q : V} {C : Addr} {l : Fs} {f : Str} {α : Type} {T : Th α} {a : α} (k g n : Nat) (h : ∀ w, FS X W Eh tl ((G.set k (some (pn q (bw (tB C) (l.set n (f, ce (tF fVal) w)))))).set g (some (pn w (bw T a)))) sts m R Gb N) (hG : G[k]? = some (some (pn q (bw (tB C) l))) := by rfl) (hl : l[n]? = some (f, ce T a) := by rfl) (hg : G[g]? = some none := by rfl) (hn : X.N.length ≤ g := by exact Nat.le_of_ble_eq_true rfl) : FS X W Eh tl G sts m R Gb N :=
  ⟨fun pins s' σ H D I ⟨B, F, T1⟩ => by
    obtain ⟨ms, z⟩ := T1.st.sl
    obtain ⟨u, h1, rfl, ⟨p, dx, fs, e, hp, hr⟩, hm⟩ := z.has k _ hG
    obtain ⟨w, h2, h3⟩ := hr.take hl
    have hne : k ≠ g := fun z => by rw [z, hg] at hG; cases hG
    have st := T1.st.two z (t1 := some (pn u (bw (tB C) (l.set n (f, ce (tF fVal) w))))) (t2 := some (pn w (bw T a))) [] [] hne (List.getElem?_eq_some_iff.mp hG).1 (List.getElem?_eq_some_iff.mp hg).1 ⟨u, h1, rfl, ⟨p, dx, fs, e, hp, h3⟩, rfl⟩ ⟨w, fun q => absurd q (by have := I.len; omega), rfl, h2, rfl⟩ (fun x hx => by rcases hx with hx | hx <;> exact nomatch hx) (fun x hx => nomatch hx)
    exact (h w).run pins s' σ H D I ⟨B, F, st, T1.ne, T1.ret, T1.nx, T1.bk, T1.ct, T1.er⟩⟩
theorem Imp.closeB {k g : Nat} {q w : V} {C : Addr} {l : Fs} {f : Str} {α : Type} {T : Th α} {a : α} (n : Nat) (hG : G[k]? = some (some (pn q (bw (tB C) l))) := by rfl) (hl : l[n]? = some (f, ce (tF fVal) w) := by rfl) (hg : G[g]? = some (some (pn w (bw T a))) := by rfl) (hne : k ≠ g := by decide) :
    Imp G ((G.set k (some (pn q (bw (tB C) (l.set n (f, ce T a)))))).set g none) := fun _ _ _ _ _ st => by
  obtain ⟨ms, z⟩ := st.sl
  obtain ⟨u, h1, rfl, ⟨p, dx, fs, e, hp, hr⟩, hm⟩ := z.has k _ hG
  obtain ⟨u2, _, rfl, h2, hm2⟩ := z.has g _ hg
  exact st.two z (t1 := some (pn u (bw (tB C) (l.set n (f, ce T a))))) (t2 := none) [] [] hne (List.getElem?_eq_some_iff.mp hG).1 (List.getElem?_eq_some_iff.mp hg).1 ⟨u, h1, rfl, ⟨p, dx, fs, e, hp, RdA.back (c := ce T a) h2 hr hl⟩, rfl⟩ rfl (fun x hx => by rcases hx with hx | hx <;> exact nomatch hx) (fun x hx => nomatch hx)
/-! ### a field is written -/
theorem tc_V {w : V} : TakesC (rV w) (fun _ => ce (tF fVal) w) := ⟨fun a H0 F H v h => ⟨[], ⟨h, rfl⟩, fun x hx => nomatch hx⟩⟩
theorem fs_fldN {α : Type} (k n : Nat) {q : V} {C : Addr} {l : Fs} {names : List Str} {o value : Expr} {f : Str} {c0 : Ce} {pos pos' : Pos} {rest : List Stmt} {p : Er → ε} {m : M α} {A : Rl α} {c : α → Ce} {g : α → Mg ε (Fl ρ b s)} (ho : FE X W G o (M.ok ()) (rV q)) (hv : FE X W G value m A) (ht : TakesC A c)
    (nd : names.Nodup) (cC : Cls X.K C) (cN : NoAttr X.K C f) (hr : ∀ a, FS X W Eh tl (G.set k (some (pn q (bx C (l.set n (f, c a)))))) rest (g a) R Gb N) (hG : G[k]? = some (some (pn q (bx C l))) := by rfl) (hl : l[n]? = some (f, c0) := by rfl) (hk : l.map (·.1) = names := by rfl) (h1000 : names.length < 1000 := by exact Nat.lt_of_sub_pos (by decide))
    (hs : swapsWith value (some (.Attribute o f pos')) pos.line X.env = pure false := by rfl) (hp : Pay Eh G p := by exact pay0 rfl) :
    FS X W Eh tl G (.Assign [.Attribute o f pos'] value pos :: rest) (m.bindP p g) R Gb N :=
  fs_fld k hG ho hv ht cC cN (fun a => by rw [put_at hk nd hl]; exact hr a) (by rw [← hk, List.length_map] at h1000; exact h1000) hs hp
/-- in __init__: a new field -/
theorem fs_fldI {α : Type} (k : Nat) {q : V} {C : Addr} {l : Fs} {names : List Str} {o value : Expr} {f : Str} {pos pos' : Pos} {rest : List Stmt} {p : Er → ε} {m : M α} {A : Rl α} {c : α → Ce} {g : α → Mg ε (Fl ρ b s)} (ho : FE X W G o (M.ok ()) (rV q)) (hv : FE X W G value m A) (ht : TakesC A c)
    (nm : f ∉ names) (cC : Cls X.K C) (cN : NoAttr X.K C f) (hr : ∀ a, FS X W Eh tl (G.set k (some (pn q (bx C (l ++ [(f, c a)]))))) rest (g a) R Gb N) (hG : G[k]? = some (some (pn q (bx C l))) := by rfl) (hk : l.map (·.1) = names := by rfl) (h1000 : names.length < 1000 := by exact Nat.lt_of_sub_pos (by decide))
    (hs : swapsWith value (some (.Attribute o f pos')) pos.line X.env = pure false := by rfl) (hp : Pay Eh G p := by exact pay0 rfl) :
    FS X W Eh tl G (.Assign [.Attribute o f pos'] value pos :: rest) (m.bindP p g) R Gb N :=
  fs_fld k hG ho hv ht cC cN (fun a => by rw [put_new hk nm]; exact hr a) (by rw [← hk, List.length_map] at h1000; exact h1000) hs hp
/-- o.f += e, a frozen field -/
theorem fs_faug {α β γ : Type} (k n : Nat) {q : V} {C : Addr} {l : Fs} {names : List Str} {o value : Expr} {f : Str} {a : α} {A : Rf α} {Bb : Rl β} {Cc : Rf γ} {op : Operator} {rd : V → V → Hp → VK → Prop} {pos tpos : Pos} {rest : List Stmt} {p : Er → ε} {m : M β} {gm : α → β → M γ} {g : γ → Mg ε (Fl ρ b s)} (hop : InOp X op rd) (hl' : ∀ y, OpP rd A.up Bb a y (gm a y) Cc.up) (ho : FE X W G o (M.ok ()) (rV q)) (hv : FE X W G value m Bb)
    (nd : names.Nodup) (cC : Cls X.K C) (cN : NoAttr X.K C f) (hr : ∀ c, FS X W Eh tl (G.set k (some (pn q (bx C (l.set n (f, ce (tF Cc) c)))))) rest (g c) R Gb N) (hG : G[k]? = some (some (pn q (bx C l))) := by rfl) (hl : l[n]? = some (f, ce (tF A) a) := by rfl) (hk : l.map (·.1) = names := by rfl) (h1000 : names.length < 1000 := by exact Nat.lt_of_sub_pos (by decide)) (hp : Pay Eh G p := by exact pay0 rfl) :
    FS X W Eh tl G (.AugAssign (.Attribute o f tpos) op value pos :: rest) (m.bindP p fun y => (gm a y).bindP p g) R Gb N :=
  PSs.weak (pss_cons (ps_fldaug ho hv hop) (pss_ex hr)) fun D σ H ⟨B, F, T0⟩ => by
    have T0' : ToldS X.K W Eh tl G ((M.ok () : M Unit).bindP p fun _ => m.bindP p fun y => (gm a y).bindP p g) R Gb N D σ H B F := T0
    refine ⟨B, tl, F, T0'.tellE hp fun _ F1 H1 _ g1 vo ro' => ?_⟩
    have T1 := T0'.rest (a := ()) rfl (T0.st.grow g1)
    cases (show vo = q from ro')
    obtain ⟨ms1, z1⟩ := T1.st.sl
    obtain ⟨u, hu, rfl, p0, dx, fs, m0, e, hp0, how, hpn, em⟩ := z1.has k _ hG
    subst e
    have hrd : RdA F1 H1 l fs := how.rd (fun _ _ _ h => h) T1.st.fh
    obtain ⟨v, h1, h2⟩ := hrd.look (look_at hk nd hl)
    refine ⟨p0, C, dx, fs, v, rfl, hp0, cC, cN, h1, B, tl, F1, T1.tellE hp fun y F2 H2 ey g2 w rw' => ?_⟩
    have T2 := T1.rest ey (T1.st.grow g2)
    cases hq : gm a y with
    | none => exact absurd (by rw [hq]; rfl) T2.ne
    | some res =>
      cases res with
      | error er => exact absurd hq ((hl' y).ne er)
      | ok c =>
        refine (hl' y).run F2 H2 v w H1 _ g2.fh (A.st (show A.r a F1 v from h2) g2.f) rw' c hq fun zz F3 H3 g3 rz => ?_
        have st3 := T2.st.grow g3
        obtain ⟨ms3, z3⟩ := st3.sl
        obtain ⟨u3, hu3, e3, p3, dx3, fs3, m3, e3', hp3, how3, hpn3, em3⟩ := z3.has k _ hG
        subst e3
        cases e3'
        obtain ⟨hF, hH⟩ := z3.mem k p0 (by rw [em3]; exact List.mem_cons_self)
        obtain ⟨m', h4, h5⟩ := how3.put (f := f) (c := ce (tF Cc) c) (v := zz) (m := []) ⟨rz, rfl⟩ (fun x hx => nomatch hx)
        have h6 : ∀ x ∈ m', x ≠ p0 := fun x hx q => by
          subst q
          rcases h5 _ hx with y | y
          · exact hpn3 y
          · exact nomatch y
        refine ⟨dx3, fs3, hp3, by rw [how3.len, ← List.length_map (f := (·.1)), hk]; exact h1000, c, B, F3, ?_⟩
        refine T2.rest hq (G1 := G.set k (some (pn (.ref p0) (bx C (l.set n (f, ce (tF Cc) c)))))) ?_
        refine st3.mut (mv := p0 :: m') z3 hG rfl hu3 (by rw [em3]; exact (GrX.at st3.fh hF).mono fun x hx => by rw [List.mem_singleton.mp hx]; exact List.mem_cons_self) ⟨rfl, p0, dx3, putF f zz fs3, m', rfl, upd_same, ?_, fun q => h6 _ q rfl, rfl⟩ (fun y hy => ?_)
        · rw [← put_at hk nd hl]
          exact h4.st (XS.refl _) fun x hx o ho => by rw [upd_ne (h6 x hx)]; exact ho
        · rcases List.mem_cons.mp hy with hy | hy
          · subst hy
            exact ⟨.inl (by rw [em3]; exact List.mem_cons_self), hF, NT.up⟩
          · rcases h5 y hy with q | q
            · have hm : y ∈ ms3 k := by rw [em3]; exact List.mem_cons_of_mem _ q
              obtain ⟨a1, a2⟩ := z3.mem k y hm
              exact ⟨.inl hm, a1, a2.un (h6 y hy)⟩
            · exact nomatch q
end
end LK
namespace LK
open PySem L2
/-! ### methods, making instances: the rules with errors told at the slots -/
def CalM (P : Program) (w : World) (K : PySem.W.Frag) (mg : Str → Option Value) (base : Heap) (C : Addr) (m : Str) (ps : List Str) (j : Nat) (sp : Sp) : Prop :=
  ∃ f fd, Meth K C m f ∧ Binds K fd ps [] ∧ FnOk P w K mg base (L2.CX P w) j f fd ps sp
def CalI (P : Program) (w : World) (K : PySem.W.Frag) (mg : Str → Option Value) (base : Heap) (C : Addr) (x : Str) (ps : List Str) (j : Nat) (sp : Sp) : Prop :=
  ∃ f fd, Mk K C f ∧ mg x = some (.ref C) ∧ Binds K fd ps [] ∧ FnOk P w K mg base (L2.CX P w) j f fd ps sp
section
variable {X : Cx} {k : Nat} {f C : Addr} {fd : FuncData} {ps : List Str} {sp : Sp} {E : St → XK} {m x : Str} {apos pos p : Pos} {o e : Expr} {es : List Expr} {ta : TE} {t : TA}
def tMethS (C : Addr) (m : Str) (sp : Sp) (E : St → XK) (ta : TE) (t : TA) : TE := fun σ H Q => ta σ H fun x H1 => ∃ a dx fs, x = .ref a ∧ H1 a = some (.ins C dx fs) ∧ fs.lookup m = none ∧ t σ H1 fun vs H2 => sp (x :: vs) H2 Q (E σ)
theorem pe_methS' {pl : Sem Bool} (he : PE X o ta) (c : Cls X.K C) (hm : Meth X.K C m f) (F : FnOk X.prog X.w X.K X.mg X.base (L2.CX X.prog X.w) k f fd ps sp) (hr : Room k X.A) (hb : Binds X.K fd ps []) (hx : ∀ σ, PassesAt (L2.CX X.prog X.w) X σ (E σ)) (ha : PA X (e :: es) t)
    (hst : starEach (e :: es) X.env = (false, eval e X.env) :: starEach es X.env := by rfl) (hpl : (backTo pos (starEach es X.env)).any (·.1) = false := by rfl)
    (ht : eval (.Call (.Attribute o m apos) (e :: es) [] pos) X.env = (do
      let ov ← eval o X.env
      standAt apos.atName
      let (f, first) ← holding [ov] (getMethod ov m pl)
      callWith pos f first (backTo pos (starEach (e :: es) X.env)) (backToKw pos (keywordEach [] X.env))) := by rfl) :
    PE X (.Call (.Attribute o m apos) (e :: es) [] pos) (tMethS C m sp E ta t) := by
  refine ⟨fun pins s σ H Q I h => ?_⟩
  refine PySem.W.methodCall_KW (pl := pl) (thn (he.run pins s σ H _ I h) fun u s1 ⟨x, H1, I1, rx, a, dx, fs, ex, ea, l, q⟩ => ?_) ht
  subst ex
  obtain rfl : u = Value.ref a := rx
  refine getmeth_ok I1 ea c hm l ?_
  refine PySem.W.callWith_K (first := [.ref a]) (h₀ := X.base) I.ok.mod.kin hm.kp (thn (ha.run pos pins s1 σ H1 _ I1 q) fun us s2 ⟨vs, H2, I2, r, q2⟩ => ⟨I2.kIn, ?_⟩) hst hpl
  exact run_fnS (us := .ref a :: us) (vs := .ref a :: vs) F hr hb (hx σ) I2 (.cons rfl r) q2
theorem pe_methS0 {pl : Sem Bool} (he : PE X o ta) (c : Cls X.K C) (hm : Meth X.K C m f) (F : FnOk X.prog X.w X.K X.mg X.base (L2.CX X.prog X.w) k f fd ps sp) (hr : Room k X.A) (hb : Binds X.K fd ps []) (hx : ∀ σ, PassesAt (L2.CX X.prog X.w) X σ (E σ))
    (ht : eval (.Call (.Attribute o m apos) [] [] pos) X.env = (do
      let ov ← eval o X.env
      standAt apos.atName
      let (f, first) ← holding [ov] (getMethod ov m pl)
      callWith pos f first (backTo pos (starEach [] X.env)) (backToKw pos (keywordEach [] X.env))) := by rfl) :
    PE X (.Call (.Attribute o m apos) [] [] pos) (tMethS C m sp E ta tNil) := by
  refine ⟨fun pins s σ H Q I h => ?_⟩
  refine PySem.W.methodCall_KW (pl := pl) (thn (he.run pins s σ H _ I h) fun u s1 ⟨x, H1, I1, rx, a, dx, fs, ex, ea, l, q⟩ => ?_) ht
  subst ex
  obtain rfl : u = Value.ref a := rx
  refine getmeth_ok I1 ea c hm l ?_
  exact PySem.W.callWith_K0 (first := [.ref a]) I1.kIn hm.kp (run_fnS (us := [.ref a]) (vs := [.ref a]) F hr hb (hx σ) I1 (.cons rfl .nil) q)
theorem run_makeS {pins : List (Addr × Obj)} {σ : St} {H : Hp} {s : Shared} {Q : VK} {us : List Value} {vs : List V} (M : Mk X.K C f) (F : FnOk X.prog X.w X.K X.mg X.base (L2.CX X.prog X.w) k f fd ps sp) (hr : Room (k + 1) X.A) (hb : Binds X.K fd ps [])
    (hx : PassesAt (L2.CX X.prog X.w) X σ (E σ)) (I : Inv X pins σ H s) (r : Vals vs us)
    (h : ∀ x dx, H x = none → H dx = none → dx ≠ x → sp (.ref x :: vs) (upd (upd H dx (.own x)) x (.ins C dx [])) (fun v H2 => v = .non ∧ Q (.ref x) H2) (E σ)) :
    wpAny (model X.prog X.w) X.A (call (.ref C) us) (EP X pins σ Q) X.xe s := by
  have hq := h (s.heap.objs.size + 1) s.heap.objs.size (I.hok.fresh (Nat.le_succ _)) (I.hok.fresh (Nat.le_refl _)) (Nat.ne_of_lt (Nat.lt_succ_self _))
  have I2 := Inv.made (C := C) I
  have r2 : Vals (V.ref (s.heap.objs.size + 1) :: vs) (Value.ref (s.heap.objs.size + 1) :: us) := .cons rfl r
  have hl : (Value.ref (s.heap.objs.size + 1) :: us).length = ps.length := by
    have e := r2.length
    rw [F.len _ _ _ _ hq] at e
    exact e.symm
  have b := hb _ (Value.ref (s.heap.objs.size + 1) :: us) I2.kIn (by rw [List.append_nil]; exact hl)
  rw [List.append_nil] at b
  refine wpAny_call (make_map (f := f) I.kIn M.makes M.init (beq_iff_eq.mp M.fn) (codeAny_mono (F.run _ X.stack _ _ ⟨Value.ref (s.heap.objs.size + 1) :: us, []⟩ (Value.ref (s.heap.objs.size + 1) :: us) _ _ (E σ) (hr.make C us [])
    (I2.env0.make C us []) b r2 hq) fun r s' hq' => ?_))
  cases r with
  | error e => exact hx pins _ _ e s' I2 hq'
  | ok fl =>
    cases fl with
    | ret u =>
      obtain ⟨v, H', I3, rv, ev, q3⟩ := I2.after hq'
      subst ev
      exact ⟨rv, ⟨V.ref (s.heap.objs.size + 1), H', I3, rfl, q3⟩⟩
    | next => exact False.elim hq'
    | brk => exact False.elim hq'
    | cont => exact False.elim hq'
def tMakeS (C : Addr) (sp : Sp) (E : St → XK) (t : TA) : TE := fun σ H Q => t σ H fun vs H1 => ∀ x dx, H1 x = none → H1 dx = none → dx ≠ x → sp (.ref x :: vs) (upd (upd H1 dx (.own x)) x (.ins C dx [])) (fun v H2 => v = .non ∧ Q (.ref x) H2) (E σ)
theorem pe_makeS (M : Mk X.K C f) (F : FnOk X.prog X.w X.K X.mg X.base (L2.CX X.prog X.w) k f fd ps sp) (hr : Room (k + 1) X.A) (hg : Gl X x) (hm : X.mg x = some (.ref C)) (hb : Binds X.K fd ps []) (hx : ∀ σ, PassesAt (L2.CX X.prog X.w) X σ (E σ))
    (ha : PA X (e :: es) t) (hdb : (x == ("__debug__" : Str)) = false := by decide) (he : starEach (e :: es) X.env = (false, eval e X.env) :: starEach es X.env := by rfl) (hpl : (backTo pos (starEach es X.env)).any (·.1) = false := by rfl) :
    PE X (.Call (.Name x p) (e :: es) [] pos) (tMakeS C sp E t) := by
  refine ⟨fun pins s σ H Q I h => ?_⟩
  refine wpAny_Call_Name_kw (ld_glob I hg hm ?_ hdb)
  refine PySem.W.callWith_K (h₀ := X.base) I.ok.mod.kin M.kp (thn (ha.run pos pins s σ H _ I h) fun us s1 ⟨vs, H1, I1, r, q⟩ => ⟨I1.kIn, ?_⟩) he hpl
  exact run_makeS M F hr hb (hx σ) I1 r q
theorem pe_makeS0 (M : Mk X.K C f) (F : FnOk X.prog X.w X.K X.mg X.base (L2.CX X.prog X.w) k f fd ps sp) (hr : Room (k + 1) X.A) (hg : Gl X x) (hm : X.mg x = some (.ref C)) (hb : Binds X.K fd ps []) (hx : ∀ σ, PassesAt (L2.CX X.prog X.w) X σ (E σ))
    (hdb : (x == ("__debug__" : Str)) = false := by decide) : PE X (.Call (.Name x p) [] [] pos) (tMakeS C sp E tNil) := by
  refine ⟨fun pins s σ H Q I h => ?_⟩
  refine wpAny_Call_Name_kw (ld_glob I hg hm ?_ hdb)
  exact PySem.W.callWith_K0 I.kIn M.kp (run_makeS (us := []) M F hr hb (hx σ) I .nil h)
end
/-! ### told of mirrors -/
theorem RdA.no {F X : Hp} {cs : Fs} {fs : List (Str × V)} {names : List Str} {m : Str} (h : RdA F X cs fs) (hk : cs.map (·.1) = names) (hm : m ∉ names) : fs.lookup m = none := look_no (h.keys.trans hk) hm
section
variable {X : Cx} {W : WX} {G : Gm} {k : Nat}
/-- o.m(..), m changes nothing -/
theorem fe_methC {α κ ρ : Type} {j : Nat} {Cl : Addr} {U : κ → Fs} {names : List Str} {ps : List Str} {m : Str} {o e : Expr} {es : List Expr} {apos pos : Pos} {a0 : κ} {par : κ × α → List Sl} {mir : κ × α → M ρ} {res : ρ → Sl} {R : Rl ρ} {ma : M α} {mm : M ρ} {A : Ra α} {pl : Sem Bool} (C : Cok X W k)
    (h : CalM X.prog X.w X.K X.mg X.base Cl m ps j (spP X.K par mir res)) (hj : j ≤ k) (cC : Cls X.K Cl) (hU : (U a0).map (·.1) = names) (hno : m ∉ names) (hp : ArgOk (rac (nw (tBx Cl U)) A) par) (hr : ResOf res R) (he : FE X W G o (M.ok a0) (nw (tBx Cl U))) (ha : FA X W G (e :: es) ma A) (hme : (ma.bind fun a => mir (a0, a)) = mm := by rfl)
    (hst : starEach (e :: es) X.env = (false, eval e X.env) :: starEach es X.env := by rfl) (hpl : (backTo pos (starEach es X.env)).any (·.1) = false := by rfl)
    (ht : eval (.Call (.Attribute o m apos) (e :: es) [] pos) X.env = (do
      let ov ← eval o X.env
      standAt apos.atName
      let (f, first) ← holding [ov] (getMethod ov m pl)
      callWith pos f first (backTo pos (starEach (e :: es) X.env)) (backToKw pos (keywordEach [] X.env))) := by rfl) :
    FE X W G (.Call (.Attribute o m apos) (e :: es) [] pos) mm R := by
  obtain ⟨f, fd, hm, hb, Fk⟩ := h
  rw [← hme]
  refine PE.weak (pe_methS' (E := WE W) he cC hm Fk (C.hr.mono hj) hb (fun σ => passAt C.tk σ) ha hst hpl ht) fun σ H Q ⟨B, tl, F, D⟩ => ?_
  have D' : Told X.K W G ((M.ok a0 : M κ).bind fun a0 => ma.bind fun a => mir (a0, a)) _ σ H B tl F := D
  refine ⟨B, tl, F, D'.seq fun a F1 H1 ea g1 D1 v rv => ?_⟩
  cases M.ok_inj ea
  obtain ⟨p, dx, fs, ev, hp1, hrd⟩ := rv
  refine ⟨p, dx, fs, ev, hp1, hrd.no hU hno, B, tl, F1, D1.seq fun b F2 H2 eb g2 D2 vs rvs => ?_⟩
  have hob : (nw (tBx Cl U)).r a0 H1 F2 H2 v := (nw (tBx Cl U)).st (H0 := H1) (show (nw (tBx Cl U)).r a0 H1 F1 H1 v from ⟨p, dx, fs, ev, hp1, hrd⟩) g2
  exact ask_pure (A := rac (nw (tBx Cl U)) A) (a := (a0, b)) (vs := v :: vs) hp hr (g1.h.trans g2.h).kn D2 ⟨v, vs, rfl, hob, A.pre rvs g1.h.kn⟩
theorem fe_methC0 {κ ρ : Type} {j : Nat} {Cl : Addr} {U : κ → Fs} {names : List Str} {ps : List Str} {m : Str} {o : Expr} {apos pos : Pos} {a0 : κ} {par : κ × Unit → List Sl} {mir : κ × Unit → M ρ} {res : ρ → Sl} {R : Rl ρ} {pl : Sem Bool} (C : Cok X W k)
    (h : CalM X.prog X.w X.K X.mg X.base Cl m ps j (spP X.K par mir res)) (hj : j ≤ k) (cC : Cls X.K Cl) (hU : (U a0).map (·.1) = names) (hno : m ∉ names) (hp : ArgOk (rac (nw (tBx Cl U)) ra0) par) (hr : ResOf res R) (he : FE X W G o (M.ok a0) (nw (tBx Cl U)))
    (ht : eval (.Call (.Attribute o m apos) [] [] pos) X.env = (do
      let ov ← eval o X.env
      standAt apos.atName
      let (f, first) ← holding [ov] (getMethod ov m pl)
      callWith pos f first (backTo pos (starEach [] X.env)) (backToKw pos (keywordEach [] X.env))) := by rfl) :
    FE X W G (.Call (.Attribute o m apos) [] [] pos) (mir (a0, ())) R := by
  obtain ⟨f, fd, hm, hb, Fk⟩ := h
  refine PE.weak (pe_methS0 (E := WE W) he cC hm Fk (C.hr.mono hj) hb (fun σ => passAt C.tk σ) ht) fun σ H Q ⟨B, tl, F, D⟩ => ?_
  have D' : Told X.K W G ((M.ok a0 : M κ).bind fun a0 => mir (a0, ())) _ σ H B tl F := D
  refine ⟨B, tl, F, D'.seq fun a F1 H1 ea g1 D1 v rv => ?_⟩
  cases M.ok_inj ea
  obtain ⟨p, dx, fs, ev, hp1, hrd⟩ := rv
  refine ⟨p, dx, fs, ev, hp1, hrd.no hU hno, ?_⟩
  exact ask_pure (A := rac (nw (tBx Cl U)) ra0) (a := (a0, ())) (vs := [v]) hp hr g1.h.kn D1 ⟨v, [], rfl, ⟨p, dx, fs, ev, hp1, hrd⟩, rfl⟩
/-- (..).m(), the object new -/
theorem fe_methB0 {κ ρ : Type} {j : Nat} {Cl : Addr} {U : κ → Fs} {names : List Str} {ps : List Str} {m : Str} {o : Expr} {apos pos : Pos} {mo : M κ} {par : κ × Unit → List Sl} {mir : κ × Unit → M ρ} {res : ρ → Sl} {R : Rl ρ} {mm : M ρ} {pl : Sem Bool} (C : Cok X W k)
    (h : CalM X.prog X.w X.K X.mg X.base Cl m ps j (spP X.K par mir res)) (hj : j ≤ k) (cC : Cls X.K Cl) (hU : ∀ a0, (U a0).map (·.1) = names) (hno : m ∉ names) (hp : ArgOk (rac (nw (tBx Cl U)) ra0) par) (hr : ResOf res R) (he : FE X W G o mo (nw (tBx Cl U))) (hme : (mo.bind fun a => mir (a, ())) = mm := by rfl)
    (ht : eval (.Call (.Attribute o m apos) [] [] pos) X.env = (do
      let ov ← eval o X.env
      standAt apos.atName
      let (f, first) ← holding [ov] (getMethod ov m pl)
      callWith pos f first (backTo pos (starEach [] X.env)) (backToKw pos (keywordEach [] X.env))) := by rfl) :
    FE X W G (.Call (.Attribute o m apos) [] [] pos) mm R := by
  obtain ⟨f, fd, hm, hb, Fk⟩ := h
  rw [← hme]
  refine PE.weak (pe_methS0 (E := WE W) he cC hm Fk (C.hr.mono hj) hb (fun σ => passAt C.tk σ) ht) fun σ H Q ⟨B, tl, F, D⟩ => ?_
  refine ⟨B, tl, F, D.seq fun a0 F1 H1 ea g1 D1 v rv => ?_⟩
  obtain ⟨p, dx, fs, ev, hp1, hrd⟩ := rv
  refine ⟨p, dx, fs, ev, hp1, hrd.no (hU a0) hno, ?_⟩
  exact ask_pure (A := rac (nw (tBx Cl U)) ra0) (a := (a0, ())) (vs := [v]) hp hr g1.h.kn D1 ⟨v, [], rfl, ⟨p, dx, fs, ev, hp1, hrd⟩, rfl⟩
end
section
variable {ε : Type} {Eh : EH ε} {X : Cx} {W : WX} {G : Gm} {tl : List Nat} {k : Nat} {α ε1 ρ β : Type} {par : α → (Nat → V) → List Sl} {mir : α → Mg ε1 ρ} {res : ρ → Sl} {outs : ρ → (Nat → V) → List (V × Sl)} {cls : ε1 → Er} {outsE : ε1 → (Nat → V) → List (V × Sl)} {m : M β} {g : β → α} {w : Nat → V} {ks kt kte : List Nat} {κ : List (Option Nat)} {p : Er → ε} {q : ε1 → ε} {mm : Mg ε ρ} {par' : Unit × β → List Sl}
/-- o.m(..), m changes things; the object o is at place k0, its value v0 -/
theorem fx_meth {j : Nat} {Cl : Addr} {τ : Type} {U : τ → Fs} {r0 : τ} {names : List Str} {ps : List Str} {mt : Str} {o e : Expr} {es : List Expr} {apos pos : Pos} {A : ρ → Hp → V → Prop} {Ar : Ra β} {v0 : V} {T0 : Sl} (k0 : Nat) {pl : Sem Bool} (C : Cok X W k)
    (h : CalM X.prog X.w X.K X.mg X.base Cl mt ps j (spG X.K par mir res outs cls outsE)) (hj : j ≤ k) (cC : Cls X.K Cl) (hU : (U r0).map (·.1) = names) (hno : mt ∉ names) (hG : G[k0]? = some (some (pn v0 T0))) (hs : Gives T0 r0 (nw (tBx Cl U)))
    (he : FE X W G o (M.ok ()) (rV v0)) (ha : FA X W G (e :: es) m Ar) (hag : Ags G ks (rac (rV v0) Ar) par' κ) (hb : Beh Eh G X.N.length ks kt kte κ w outs cls outsE q) (hres : ∀ r Y F H v ms, (res r).r Y F H v ms → A r F v) (hp : Pay Eh G p := by exact pay0 rfl)
    (hm : (m.bindP p fun a => (mir (g a)).bindP q fun r => M.ok r) = mm := by rfl) (hpar : ∀ b, par (g b) w = par' ((), b) := by exact fun _ => rfl)
    (hst : starEach (e :: es) X.env = (false, eval e X.env) :: starEach es X.env := by rfl) (hpl : (backTo pos (starEach es X.env)).any (·.1) = false := by rfl)
    (ht : eval (.Call (.Attribute o mt apos) (e :: es) [] pos) X.env = (do
      let ov ← eval o X.env
      standAt apos.atName
      let (f, first) ← holding [ov] (getMethod ov mt pl)
      callWith pos f first (backTo pos (starEach (e :: es) X.env)) (backToKw pos (keywordEach [] X.env))) := by rfl) :
    FX X W Eh tl G (.Call (.Attribute o mt apos) (e :: es) [] pos) mm A (fun r _ => setK G kt (outs r w)) := by
  rw [← hm]
  obtain ⟨f, fd, hmt, hbi, Fk⟩ := h
  refine ⟨fun pins s σ H Q I ⟨B, F, T⟩ => (pe_methS' (E := WE W) he cC hmt Fk (C.hr.mono hj) hbi (fun σ => passAt C.tk σ) ha hst hpl ht).run pins s σ H Q I ?_⟩
  have T' : ToldX X.K W Eh tl G ((M.ok () : M Unit).bindP p fun _ => m.bindP p fun a => (mir (g a)).bindP q fun r => M.ok r) (fun r _ => setK G kt (outs r w)) (fun r v F' H' => A r F' v → Q v H') σ H B F := T
  refine ⟨B, tl, F, T'.tellE hp fun _ F0 H0 _ g0 T0' v rv => ?_⟩
  have ev : v = v0 := rv
  subst ev
  obtain ⟨ms, z⟩ := T0'.st.sl
  obtain ⟨u, _, e1, h2⟩ := z.has k0 _ hG
  subst e1
  obtain ⟨p1, dx, fs, ev, hp1, hrd⟩ := hs _ F0 H0 _ _ h2 T0'.st.fh T0'.st.yh (fun y hy => z.mem k0 y hy) H0
  refine ⟨p1, dx, fs, ev, hp1, hrd.no hU hno, B, tl, F0, T0'.tellE hp fun a F1 H1 ea g1 T1 vs rv => ?_⟩
  have hag' : Ags G ks (rac (rV u) Ar) (fun b => par (g b.2) w) κ := by
    have : (fun b : Unit × β => par (g b.2) w) = par' := funext fun b => hpar b.2
    rw [this]
    exact hag
  exact fx_run (g := fun b : Unit × β => g b.2) (a := ((), a)) (vs := u :: vs) I.len hag' hb hres (z.grow g1) (fun k x hx => (z.mem k x hx).2.ne) T1 ⟨u, vs, rfl, rfl, rv⟩
theorem fx_meth0 {j : Nat} {Cl : Addr} {τ : Type} {U : τ → Fs} {r0 : τ} {names : List Str} {ps : List Str} {mt : Str} {o : Expr} {apos pos : Pos} {A : ρ → Hp → V → Prop} {v0 : V} {T0 : Sl} {a1 : α} {par1 : List Sl} (k0 : Nat) {pl : Sem Bool} (C : Cok X W k)
    (h : CalM X.prog X.w X.K X.mg X.base Cl mt ps j (spG X.K par mir res outs cls outsE)) (hj : j ≤ k) (cC : Cls X.K Cl) (hU : (U r0).map (·.1) = names) (hno : mt ∉ names) (hG : G[k0]? = some (some (pn v0 T0))) (hs : Gives T0 r0 (nw (tBx Cl U)))
    (he : FE X W G o (M.ok ()) (rV v0)) (hag : Ags G ks (rac (rV v0) ra0) (fun _ => par1) κ) (hb : Beh Eh G X.N.length ks kt kte κ w outs cls outsE q) (hres : ∀ r Y F H v ms, (res r).r Y F H v ms → A r F v) (hp : Pay Eh G p := by exact pay0 rfl)
    (hm : ((mir a1).bindP q fun r => M.ok r) = mm := by rfl) (hpar : par a1 w = par1 := by rfl)
    (ht : eval (.Call (.Attribute o mt apos) [] [] pos) X.env = (do
      let ov ← eval o X.env
      standAt apos.atName
      let (f, first) ← holding [ov] (getMethod ov mt pl)
      callWith pos f first (backTo pos (starEach [] X.env)) (backToKw pos (keywordEach [] X.env))) := by rfl) :
    FX X W Eh tl G (.Call (.Attribute o mt apos) [] [] pos) mm A (fun r _ => setK G kt (outs r w)) := by
  rw [← hm]
  obtain ⟨f, fd, hmt, hbi, Fk⟩ := h
  refine ⟨fun pins s σ H Q I ⟨B, F, T⟩ => (pe_methS0 (E := WE W) he cC hmt Fk (C.hr.mono hj) hbi (fun σ => passAt C.tk σ) ht).run pins s σ H Q I ?_⟩
  have T' : ToldX X.K W Eh tl G ((M.ok () : M Unit).bindP p fun _ => (mir a1).bindP q fun r => M.ok r) (fun r _ => setK G kt (outs r w)) (fun r v F' H' => A r F' v → Q v H') σ H B F := T
  refine ⟨B, tl, F, T'.tellE hp fun _ F0 H0 _ g0 T0' v rv => ?_⟩
  have ev : v = v0 := rv
  subst ev
  obtain ⟨ms, z⟩ := T0'.st.sl
  obtain ⟨u, _, e1, h2⟩ := z.has k0 _ hG
  subst e1
  obtain ⟨p1, dx, fs, ev, hp1, hrd⟩ := hs _ F0 H0 _ _ h2 T0'.st.fh T0'.st.yh (fun y hy => z.mem k0 y hy) H0
  refine ⟨p1, dx, fs, ev, hp1, hrd.no hU hno, ?_⟩
  have hag' : Ags G ks (rac (rV u) ra0) (fun b : Unit × Unit => par ((fun _ => a1) b) w) κ := by
    have : (fun b : Unit × Unit => par ((fun _ => a1) b) w) = fun b => par1 := funext fun b => hpar
    rw [this]
    exact hag
  exact fx_run (g := fun b : Unit × Unit => a1) (a := ((), ())) (vs := [u]) I.len hag' hb hres z (fun k x hx => (z.mem k x hx).2.ne) T0' ⟨u, [], rfl, rfl, rfl⟩
/-- .. the answer one's own, put at the place g0 -/
theorem fx_methO {j g0 : Nat} {Cl : Addr} {τ : Type} {U : τ → Fs} {r0 : τ} {names : List Str} {ps : List Str} {mt : Str} {o e : Expr} {es : List Expr} {apos pos : Pos} {Ar : Ra β} {v0 : V} {T0 : Sl} (k0 : Nat) {pl : Sem Bool} (C : Cok X W k)
    (h : CalM X.prog X.w X.K X.mg X.base Cl mt ps j (spG X.K par mir res outs cls outsE)) (hj : j ≤ k) (cC : Cls X.K Cl) (hU : (U r0).map (·.1) = names) (hno : mt ∉ names) (hG : G[k0]? = some (some (pn v0 T0))) (hs : Gives T0 r0 (nw (tBx Cl U)))
    (he : FE X W G o (M.ok ()) (rV v0)) (ha : FA X W G (e :: es) m Ar) (hag : Ags G ks (rac (rV v0) Ar) par' κ) (hb : Beh Eh G X.N.length ks kt kte κ w outs cls outsE q) (hg0 : X.N.length ≤ g0 ∧ g0 < G.length ∧ g0 ∉ kt) (hp : Pay Eh G p := by exact pay0 rfl)
    (hm : (m.bindP p fun a => (mir (g a)).bindP q fun r => M.ok r) = mm := by rfl) (hpar : ∀ b, par (g b) w = par' ((), b) := by exact fun _ => rfl)
    (hst : starEach (e :: es) X.env = (false, eval e X.env) :: starEach es X.env := by rfl) (hpl : (backTo pos (starEach es X.env)).any (·.1) = false := by rfl)
    (ht : eval (.Call (.Attribute o mt apos) (e :: es) [] pos) X.env = (do
      let ov ← eval o X.env
      standAt apos.atName
      let (f, first) ← holding [ov] (getMethod ov mt pl)
      callWith pos f first (backTo pos (starEach (e :: es) X.env)) (backToKw pos (keywordEach [] X.env))) := by rfl) :
    FX X W Eh tl G (.Call (.Attribute o mt apos) (e :: es) [] pos) mm (fun _ _ _ => True) (fun r v => setK G (g0 :: kt) ((v, res r) :: outs r w)) := by
  rw [← hm]
  obtain ⟨f, fd, hmt, hbi, Fk⟩ := h
  refine ⟨fun pins s σ H Q I ⟨B, F, T⟩ => (pe_methS' (E := WE W) he cC hmt Fk (C.hr.mono hj) hbi (fun σ => passAt C.tk σ) ha hst hpl ht).run pins s σ H Q I ?_⟩
  have T' : ToldX X.K W Eh tl G ((M.ok () : M Unit).bindP p fun _ => m.bindP p fun a => (mir (g a)).bindP q fun r => M.ok r) (fun r v => setK G (g0 :: kt) ((v, res r) :: outs r w)) (fun r v F' H' => True → Q v H') σ H B F := T
  refine ⟨B, tl, F, T'.tellE hp fun _ F0 H0 _ g0' T0' v rv => ?_⟩
  have ev : v = v0 := rv
  subst ev
  obtain ⟨ms, z⟩ := T0'.st.sl
  obtain ⟨u, _, e1, h2⟩ := z.has k0 _ hG
  subst e1
  obtain ⟨p1, dx, fs, ev, hp1, hrd⟩ := hs _ F0 H0 _ _ h2 T0'.st.fh T0'.st.yh (fun y hy => z.mem k0 y hy) H0
  refine ⟨p1, dx, fs, ev, hp1, hrd.no hU hno, B, tl, F0, T0'.tellE hp fun a F1 H1 ea g1 T1 vs rv => ?_⟩
  have hag' : Ags G ks (rac (rV u) Ar) (fun b => par (g b.2) w) κ := by
    have : (fun b : Unit × β => par (g b.2) w) = par' := funext fun b => hpar b.2
    rw [this]
    exact hag
  exact fx_runO (g := fun b : Unit × β => g b.2) (a := ((), a)) (vs := u :: vs) I.len hag' hb hg0 (z.grow g1) (fun k x hx => (z.mem k x hx).2.ne) T1 ⟨u, vs, rfl, rfl, rv⟩
end
/-! ### an instance is made -/
section
variable {X : Cx} {W : WX} {G : Gm} {k : Nat}
theorem make_ask {K : PySem.W.Frag} {α ρ : Type} {Cl : Addr} {U : ρ → Fs} {par : α → List Sl} {mir : α → M ρ} {A : Ra α} {B : Bs} {tl : List Nat} {F1 H0 H1 : Hp} {σ : St} {Q : VK} {a : α} {vs : List V} (hp : ArgOk A par) (kn : Kn H0 H1) (D1 : Told K W G (mir a) (fun a F' H' => ∀ v, (ro (tBx Cl U)).r a H0 F' H' v → Q v H') σ H1 B tl F1) (rv : A.r a H0 F1 H1 vs)
    (x dx : Addr) (hx : H1 x = none) (hdx : H1 dx = none) (hne : dx ≠ x) :
    spG K (fun a w => pn (w 0) (ob (tB Cl) []) :: par a) mir (fun _ => sv fUnit ()) (fun r w => [(w 0, ob (tBx Cl U) r)]) (fun e => e) (fun _ _ => []) (.ref x :: vs) (upd (upd H1 dx (.own x)) x (.ins Cl dx [])) (fun v H2 => v = .non ∧ Q (.ref x) H2) (WE W σ) := by
  have e12 : ∀ y o, H1 y = some o → upd (upd H1 dx (.own x)) x (.ins Cl dx []) y = some o := fun y o h => by
    have h1 : y ≠ x := fun q => by rw [q, hx] at h; cases h
    have h2 : y ≠ dx := fun q => by rw [q, hdx] at h; cases h
    rw [upd_ne h1, upd_ne h2]
    exact h
  have hy1 : Ex H1 (hid [x] (upd (upd H1 dx (.own x)) x (.ins Cl dx []))) := fun y o h => by
    rw [hid_not (fun hm => by rw [List.mem_singleton.mp hm, hx] at h; cases h)]
    exact e12 y o h
  have hF : F1 x = none := D1.st.fh.free hx
  have pm := hp.run a H0 F1 H1 vs D1.st.fh rv
  refine ⟨a, F1, fun _ => .ref x, [x], fun i => if i = 0 then [x] else [], fun y o h => e12 y o (D1.st.fh y o h), ⟨congrArg (· + 1) pm.len, fun i s e => ?_, fun i hi => ?_, fun i y hy => ?_, fun i s e o y hy => ?_, fun i s e o y hy j hj hm => ?_⟩, D1.ne, fun r er v F' H' ms' gx c => ?_, fun e er F' H' ms' gx c => ?_⟩
  · cases i with
    | zero =>
      simp at e
      subst e
      exact ⟨.ref x, rfl, rfl, x, dx, [], [], rfl, upd_same, .nil, (fun h => nomatch h), rfl⟩
    | succ i =>
      obtain ⟨v, h1, h2⟩ := pm.has i s (by simpa using e)
      exact ⟨v, by simpa using h1, s.st h2 hy1.xs (XS.refl _) fun y hy => nomatch hy⟩
  · cases i with
    | zero => simp at hi
    | succ i => rfl
  · cases i with
    | zero =>
      cases List.mem_singleton.mp hy
      exact ⟨hF, NT.up⟩
    | succ i => exact nomatch hy
  · cases i with
    | zero => exact hy
    | succ i => exact nomatch hy
  · cases i with
    | zero =>
      cases j with
      | zero => exact hj rfl
      | succ j => exact nomatch hm
    | succ i => exact nomatch hy
  · have g : Gr F1 H1 F' H' := ⟨gx.f, fun y o h => gx.h y o (fun hm => by rw [List.mem_singleton.mp hm, hx] at h; cases h) (e12 y o h), gx.fh, fun y h1 h2 => gx.no y h1 (by
      obtain ⟨o, q1, q2⟩ := h2
      exact ⟨o, e12 y o q1, q2⟩)⟩
    refine ⟨(c.has 0 _ _ rfl H').1, D1.ok r er F' H' g (.ref x) ⟨ms' 1, c.has 1 _ _ rfl H', fun y hy => ?_⟩⟩
    obtain ⟨m1, m2, m3⟩ := c.mem 1 y hy
    have : H1 y = none := by
      rcases hid_none m1 with h | h
      · rw [List.mem_singleton.mp h]; exact hx
      · cases q : H1 y with
        | none => rfl
        | some o => rw [e12 y o q] at h; cases h
    exact ⟨kn.free this, m2, m3⟩
  · have g : Gr F1 H1 F' H' := ⟨gx.f, fun y o h => gx.h y o (fun hm => by rw [List.mem_singleton.mp hm, hx] at h; cases h) (e12 y o h), gx.fh, fun y h1 h2 => gx.no y h1 (by
      obtain ⟨o, q1, q2⟩ := h2
      exact ⟨o, e12 y o q1, q2⟩)⟩
    exact D1.er e er F' H' g
abbrev spI (K : PySem.W.Frag) {α ρ : Type} (Cl : Addr) (U : ρ → Fs) (par : α → List Sl) (mir : α → M ρ) : Sp := spG K (fun a w => pn (w 0) (ob (tB Cl) []) :: par a) mir (fun _ => sv fUnit ()) (fun r w => [(w 0, ob (tBx Cl U) r)]) (fun e => e) (fun _ _ => [])
theorem fe_make {α ρ : Type} {j : Nat} {Cl : Addr} {U : ρ → Fs} {ps : List Str} {x : Str} {p pos : Pos} {e : Expr} {es : List Expr} {par : α → List Sl} {mir : α → M ρ} {m : M α} {mm : M ρ} {A : Ra α} (C : Cok X W k)
    (h : CalI X.prog X.w X.K X.mg X.base Cl x ps j (spI X.K Cl U par mir)) (hj : j + 1 ≤ k) (hp : ArgOk A par) (ha : FA X W G (e :: es) m A) (hme : m.bind mir = mm := by rfl)
    (hg : Gl X x := by rfl) (hdb : (x == ("__debug__" : Str)) = false := by decide) (he : starEach (e :: es) X.env = (false, eval e X.env) :: starEach es X.env := by rfl) (hpl : (backTo pos (starEach es X.env)).any (·.1) = false := by rfl) :
    FE X W G (.Call (.Name x p) (e :: es) [] pos) mm (ro (tBx Cl U)) := by
  obtain ⟨f, fd, M, hm, hb, Fk⟩ := h
  rw [← hme]
  exact PE.weak (pe_makeS (E := WE W) M Fk (C.hr.mono hj) hg hm hb (fun σ => passAt C.tk σ) ha hdb he hpl) fun σ H Q ⟨B, tl, F, D⟩ => ⟨B, tl, F, D.seq fun a F1 H1 _ g1 D1 vs rv x' dx hx hdx hne => make_ask hp g1.h.kn D1 rv x' dx hx hdx hne⟩
theorem fe_make0 {ρ : Type} {j : Nat} {Cl : Addr} {U : ρ → Fs} {ps : List Str} {x : Str} {p pos : Pos} {par : Unit → List Sl} {mir : Unit → M ρ} (C : Cok X W k)
    (h : CalI X.prog X.w X.K X.mg X.base Cl x ps j (spI X.K Cl U par mir)) (hj : j + 1 ≤ k) (hp : ArgOk ra0 par)
    (hg : Gl X x := by rfl) (hdb : (x == ("__debug__" : Str)) = false := by decide) : FE X W G (.Call (.Name x p) [] [] pos) (mir ()) (ro (tBx Cl U)) := by
  obtain ⟨f, fd, M, hm, hb, Fk⟩ := h
  exact PE.weak (pe_makeS0 (E := WE W) M Fk (C.hr.mono hj) hg hm hb (fun σ => passAt C.tk σ) hdb) fun σ H Q ⟨B, tl, F, D⟩ x' dx hx hdx hne => make_ask (A := ra0) (a := ()) (vs := []) hp (Kn.refl _) D rfl x' dx hx hdx hne
end
end LK
namespace LK
open PySem L2
/-! ### a tuple of texts among the module's names -/
def txtV : Value → Option (List Nat)
  | .str y _ => some y.cps.toList
  | _ => none
def xTupS (x : Str) (ss : List (List Nat)) : Lk1 := fun K => match K.lookup (He.ga K x) with
  | some o => (decide (o.cls = .type "tuple") && o.dict.isNone) && (match o.data with
    | .seq its _ => decide (its.size ≤ sizeLine) && decide (its.toList.map txtV = ss.map some)
    | _ => false)
  | none => false
theorem vals_txtT : ∀ {us : List Value} {ss : List (List Nat)}, us.map txtV = ss.map some → Vals (ss.map fun s => V.str (S s)) us
  | [], [], _ => .nil
  | [], _ :: _, h => nomatch h
  | _ :: _, [], h => nomatch h
  | u :: us, s :: ss, h => by
    rw [List.map_cons, List.map_cons, List.cons.injEq] at h
    refine .cons ?_ (vals_txtT h.2)
    have h1 := h.1
    cases u with
    | str y t =>
      have e : y.cps.toList = s := by injection h1
      exact ⟨t, by rw [← e, S_of]⟩
    | _ => exact nomatch h1
/-- it stands in the module -/
def fTupG (K : PySem.W.Frag) : Rf (List (List Nat)) := ⟨fun ss _ v => ∃ (p : Addr) (o : Obj) (its : Array Value) (n : Nat), v = .ref p ∧ K.lookup p = some o ∧ o.cls = .type "tuple" ∧ o.dict = none ∧ o.data = .seq its n ∧ its.size ≤ sizeLine ∧ Vals (ss.map fun s => V.str (S s)) its.toList, fun h _ => h⟩
theorem tupG_sq {K : PySem.W.Frag} {ss : List (List Nat)} {F : Hp} {v : V} (h : (fTupG K).r ss F v) : ∃ p, v = .ref p ∧ ∀ H, SqT K H p (ss.map fun s => V.str (S s)) := by
  obtain ⟨p, o, its, n, e, h1, h2, _, h4, h5, h6⟩ := h
  exact ⟨p, e, fun H => .inr ⟨o, its, n, h1, h2, h4, h5, h6⟩⟩
section
variable {X : Cx} {W : WX} {G : Gm}
theorem fe_globTS {x : Str} {pos : Pos} {ss : List (List Nat)} (hm : X.mg x = some (.ref (He.ga X.K x))) (hx : xTupS x ss X.K = true) (hg : Gl X x := by rfl) (hd : (x == ("__debug__" : Str)) = false := by decide) : FE X W G (.Name x pos) (M.ok ss) (fTupG X.K).up := by
  refine fe_glob (v := .ref (He.ga X.K x)) hg hm rfl (fun F => ?_) hd
  unfold xTupS at hx
  cases e : X.K.lookup (He.ga X.K x) with
  | none => rw [e] at hx; cases hx
  | some o =>
    rw [e] at hx
    obtain ⟨h1, h2⟩ := Bool.and_eq_true_iff.mp hx
    obtain ⟨h1, h0⟩ := Bool.and_eq_true_iff.mp h1
    cases ed : o.data with
    | seq its n =>
      rw [ed] at h2
      obtain ⟨h3, h4⟩ := Bool.and_eq_true_iff.mp h2
      exact ⟨_, o, its, n, rfl, e, of_decide_eq_true h1, Option.isNone_iff_eq_none.mp h0, ed, of_decide_eq_true h3, vals_txtT (of_decide_eq_true h4)⟩
    | _ => rw [ed] at h2; cases h2
end
def envS (sc : Scope) : Env := { scope := sc, locals := 0, globals := 0, cells := [] }
theorem relabel_s {scope sc : Scope} {e : Env} (h : e.scope = sc) : relabel scope e = relabel scope (envS sc) := by
  subst h
  rfl
/-- a block within a block -/
theorem blkOk_in {X : Cx} {scope scope2 : Scope} {s : Shared} {H : Hp} {C : Addr} {cl : List (Str × Addr)} {fp : List Addr} {N : List Str} {sc : Scope} {own : List (Str × Nat)} (hN : X.N = N) (hs : X.env.scope = sc) (h : blkC N (relabel scope (envS sc)) scope2 own = true) : BlkOk (blkX X scope s H C cl fp).N (blkX X scope s H C cl fp).env.scope scope2 own := by
  subst hN
  refine blkOk_by ?_
  rw [← relabel_s hs] at h
  exact h
theorem cl_lenTL {K : PySem.W.Frag} {a : List (List Nat)} : CallP (fun xs H Q => ∃ x n, xs = [x] ∧ LenV K x H n ∧ Q (.int n) H) (a1 (fTupG K).up) (a, ()) (M.ok (a.length : Int)) fInt.up := cp1 fun F H v H0 Q x h k => by
  obtain ⟨p, e, hs⟩ := tupG_sq (F := F) h
  subst e
  exact ⟨_, a.length, rfl, .inr ⟨_, hs H, by rw [List.length_map]⟩, k _ rfl⟩
end LK
namespace LK
open PySem L2
/-! ### x = y, a thing of one's own that moves -/
section
variable {G : Gm}
theorem Imp.mv {i j : Nat} {w : V} {α : Type} {T : Th α} {a : α} (hi : G[i]? = some (some (sv fVal w)) := by rfl) (hj : G[j]? = some (some (pn w (ob T a))) := by rfl) (hne : i ≠ j := by decide) : Imp G ((G.set i (some (pn w (ob T a)))).set j none) := fun _ _ _ _ _ st => by
  obtain ⟨ms, z⟩ := st.sl
  obtain ⟨u, h1, h2, hm⟩ := z.has i _ hi
  obtain ⟨u2, _, e2, h3⟩ := z.has j _ hj
  have e1 : u = w := h2
  subst e1
  subst e2
  exact st.two z (t1 := some (pn u2 (ob T a))) (t2 := none) (ms j) [] hne (List.getElem?_eq_some_iff.mp hi).1 (List.getElem?_eq_some_iff.mp hj).1 ⟨u2, h1, rfl, h3⟩ rfl (fun x hx => by
    rcases hx with hx | hx
    · exact ⟨j, _, .inr rfl, hj, rfl, hx⟩
    · exact nomatch hx) (fun x _ hx => nomatch hx)
theorem tk_V {w : V} : Takes1 (rV w) (fun _ => sv fVal w) := ⟨fun a Y H0 F H v h => ⟨[], ⟨h, rfl⟩, fun x hx => nomatch hx⟩⟩
end
/-! ### a list taken apart -/
def fLTup (K : PySem.W.Frag) {α : Type} (T : Tv α) : Rf α := ⟨fun a F v => ∃ p vs, v = .ref p ∧ SqL K F p vs ∧ T.r a F vs, fun ⟨p, vs, e, h, q⟩ x => ⟨p, vs, e, sqL_xs x h, T.sx q x⟩⟩
theorem pw3 {α : Type} {R : α → V → Prop} {x y z : α} {vs : List V} (h : Pw R [x, y, z] vs) : ∃ a b c, vs = [a, b, c] ∧ R x a ∧ R y b ∧ R z c := by
  cases h with
  | cons h1 t =>
    cases t with
    | cons h2 t =>
      cases t with
      | cons h3 t =>
        cases t
        exact ⟨_, _, _, rfl, h1, h2, h3⟩
theorem lt3_pw {K : PySem.W.Frag} {α : Type} {A : Rf α} (d : α) {F : Hp} {v : V} {p : Addr} {vs : List V} (e : v = .ref p) (hs : SqL K F p vs) {a : List α} (hl : a.length = 3) (h : Pw (fun a x => A.r a F x) a vs) : (fLTup K (tvc A (tvc A (tv1 A)))).r (a.getD 0 d, a.getD 1 d, a.getD 2 d) F v := by
  obtain ⟨x, y, z, rfl⟩ : ∃ x y z, a = [x, y, z] := by
    rcases a with _ | ⟨x, _ | ⟨y, _ | ⟨z, _ | ⟨u, r⟩⟩⟩⟩
    · simp at hl
    · simp at hl
    · simp at hl
    · exact ⟨x, y, z, rfl⟩
    · simp at hl
  obtain ⟨a, b, c, rfl, h1, h2, h3⟩ := pw3 h
  exact ⟨p, _, e, hs, _, _, rfl, h1, _, _, rfl, h2, _, rfl, h3⟩
section
variable {X : Cx} {W : WX} {G : Gm} {α β : Type} {A : Rf α}
theorem fe_lt3 {e : Expr} {m : M (List α)} (d : α) (h : FE X W G e m (fLst X.K A).up) : FE X W G e (m.bind fun l => M.need (l.length = 3) (M.ok (l.getD 0 d, l.getD 1 d, l.getD 2 d))) (fLTup X.K (tvc A (tvc A (tv1 A)))).up :=
  PE.weak h fun σ H Q ⟨B, tl, F, T⟩ => ⟨B, tl, F, T.seq fun a F1 H1 _ g T1 v ⟨p, vs, e, hs, q⟩ => by
    have hc : a.length = 3 := by
      by_cases hc : a.length = 3
      · exact hc
      · exact absurd (by unfold M.need; rw [if_neg hc]) T1.ne
    refine T1.ok (a.getD 0 d, a.getD 1 d, a.getD 2 d) (M.need_pos hc) F1 H1 (Gr.refl g.fh) v ?_
    exact lt3_pw d e hs hc q⟩
variable {ι : Type} {tl : List Nat} {G0 G1 : ι → Gm}
theorem fg_ltup {es : List Expr} {k n : Nat} {pos : Pos} {T : Tv α} {sel : ι → α} (hc : X.calm = true) (h : FGs X tl G0 es T sel G1) (hn : TvN T n) (h1 : (assignEach es X.env).length = n := by rfl) (h2 : (assignEach es X.env).findIdx? (·.1) = none := by rfl) :
    FG X tl G0 (.Tuple es k pos) (fLTup X.K T) sel G1 := PG.weak (pg_unl hc h h1 h2) fun v σ H Q ⟨z, B, F, st, ⟨p, vs, ev, hp, ht⟩, k⟩ => ⟨p, vs, ev, sqL_ex st.fh hp, hn.run _ _ _ ht, z, B, F, st, ht, k⟩
end
/-! ### in a tuple of texts, its place there -/
theorem inV_strs (a : List Nat) : ∀ as : List (List Nat), inV (.str (S a)) (as.map fun s => V.str (S s)) = inB a as
  | [] => by simp [inV, inB]
  | b :: r => by
    have ih := inV_strs a r
    unfold inV at ih ⊢
    rw [List.map_cons, List.any_cons, ih]
    have e1 : eqV (.str (S b)) (.str (S a)) = decide (b = a) := S_beq
    rw [e1]
    unfold inB
    by_cases h : b = a
    · subst h; simp
    · rw [decide_eq_false h]
      simp [Ne.symm h]
theorem flat_S (as : List (List Nat)) : (as.map fun s => V.str (S s)).all flatV = true := by
  rw [List.all_map]
  exact List.all_eq_true.mpr fun _ _ => rfl
theorem ol_inTS {K : PySem.W.Frag} {a : List Nat} {as : List (List Nat)} : OpP (rIn K false) fTxt.up (fTupG K).up a as (M.ok (inB a as)) fBool.up :=
  ⟨fun e q => (nomatch q), fun F H v w H0 Q x ⟨ha, _⟩ hb c ec k => by
    cases M.ok_inj ec
    subst ha
    obtain ⟨p, e, hs⟩ := tupG_sq (F := F) hb
    refine ⟨p, _, e, .inr (hs H), rfl, flat_S _, ?_⟩
    rw [if_neg (by decide), inV_strs]
    exact k _ F H (Gr.refl x) rfl⟩
theorem ol_ninTS {K : PySem.W.Frag} {a : List Nat} {as : List (List Nat)} : OpP (rIn K true) fTxt.up (fTupG K).up a as (M.ok (!inB a as)) fBool.up :=
  ⟨fun e q => (nomatch q), fun F H v w H0 Q x ⟨ha, _⟩ hb c ec k => by
    cases M.ok_inj ec
    subst ha
    obtain ⟨p, e, hs⟩ := tupG_sq (F := F) hb
    refine ⟨p, _, e, .inr (hs H), rfl, flat_S _, ?_⟩
    rw [if_pos rfl, inV_strs]
    exact k _ F H (Gr.refl x) rfl⟩
/-- the first place of a text -/
def ixT : List Nat → List (List Nat) → M Int
  | _, [] => none
  | a, b :: r => if b = a then M.ok 0 else (ixT a r).bind fun i => M.ok (i + 1)
theorem ixT_ok {a : List Nat} : ∀ {as : List (List Nat)} {i : Int}, ixT a as = M.ok i → ∃ j : Nat, i = (j : Int) ∧ as[j]? = some a ∧ ∀ m, m < j → as[m]? ≠ some a
  | [], i, h => nomatch (show (none : M Int) = M.ok i from h)
  | b :: r, i, h => by
    unfold ixT at h
    split at h
    · rename_i hb
      cases M.ok_inj h
      exact ⟨0, rfl, by rw [hb]; rfl, fun m hm => absurd hm (by omega)⟩
    · rename_i hb
      rcases q : ixT a r with _ | (e | k)
      · rw [q] at h; cases h
      · rw [q] at h; cases h
      · rw [q] at h
        have h2 : k + 1 = i := M.ok_inj h
        obtain ⟨j, e, h3, h4⟩ := ixT_ok q
        refine ⟨j + 1, by omega, h3, fun m hm => ?_⟩
        cases m with
        | zero => intro z; injection z with z; exact hb z
        | succ m => exact h4 m (by omega)
theorem ixT_ne {a : List Nat} : ∀ {as : List (List Nat)} {e : Er}, ixT a as ≠ M.err e
  | [], e, h => nomatch (show (none : M Int) = M.err e from h)
  | b :: r, e, h => by
    unfold ixT at h
    split at h
    · cases h
    · rcases q : ixT a r with _ | (e | k)
      · rw [q] at h; cases h
      · exact ixT_ne q
      · rw [q] at h; cases h
theorem ty_tupS {K : PySem.W.Frag} : TyL K "tuple" (fTupG K).up := fun x H0 F H v ⟨p, o, its, n, e, h1, h2, h3, _⟩ => by subst e; exact .inr (.inl ⟨rfl, o, h1, h2, h3⟩)
theorem ml_ixT {K : PySem.W.Frag} {a : List Nat} {as : List (List Nat)} : MetP (fun x xs H Q => ∃ p, ∃ ys : List Str, ∃ z j, x = .ref p ∧ xs = [.str z] ∧ SqT K H p (ys.map V.str) ∧ ys[j]? = some z ∧ (∀ m, m < j → ys[m]? ≠ some z) ∧ Q (.int (j : Nat)) H) (fTupG K).up (a1 fTxt.up) as (a, ()) (ixT a as) fInt.up :=
  ⟨fun e q => ixT_ne q, fun F H v vs H0 Q x hv ⟨w, r, e1, ⟨e2, _⟩, e3⟩ c ec k => by
    cases e3
    subst e2
    obtain ⟨p, e, hs⟩ := tupG_sq (F := F) hv
    obtain ⟨j, ej, h1, h2⟩ := ixT_ok ec
    refine ⟨p, as.map S, S a, j, e, e1, by have := hs H; rw [List.map_map]; exact this, by rw [List.getElem?_map, h1]; rfl, fun m hm hz => ?_, k _ F H (Gr.refl x) (by rw [ej]; rfl)⟩
    rw [List.getElem?_map] at hz
    cases q : as[m]? with
    | none => rw [q] at hz; cases hz
    | some b =>
      rw [q] at hz
      injection hz with hz
      exact h2 m hm (by rw [q, S_inj hz])⟩
/-! ### tuples, which is less -/
theorem lex_at {e r : Nat → Bool} {z : Bool} : ∀ (as bs : List At) (i : Nat), as.length = bs.length → z = true → (∀ (j : Nat) (x y : At), as[j]? = some x → bs[j]? = some y → e (i + j) = decide (x = y) ∧ r (i + j) = !At.lt x y) → Ob.lexAt e r z i as.length = !ltA as bs
  | [], [], i, _, hz, _ => by rw [hz]; rfl
  | [], _ :: _, i, h, _, _ => absurd h (by simp)
  | _ :: _, [], i, h, _, _ => absurd h (by simp)
  | x :: as, y :: bs, i, h, hz, hj => by
    have ih := lex_at as bs (i + 1) (by simpa using h) hz (fun j a b ha hb => by
      have := hj (j + 1) a b ha hb
      rw [show i + 1 + j = i + (j + 1) by omega]
      exact this)
    obtain ⟨h1, h2⟩ := hj 0 x y rfl rfl
    rw [Nat.add_zero] at h1 h2
    rw [List.length_cons, Ob.lexAt_succ, ih, h1, h2, ltA_cons]
    by_cases hx : x = y
    · rw [if_pos hx, if_pos (decide_eq_true hx)]
    · rw [if_neg hx, if_neg (by rw [decide_eq_false hx]; decide)]
def rGeA (K : PySem.W.Frag) : R2 := fun x y H Q => ∃ (a b : Addr) (as bs : List At), x = .ref a ∧ y = .ref b ∧ SqT K H a (as.map At.v) ∧ SqT K H b (bs.map At.v) ∧ as.map At.kd = bs.map At.kd ∧ Q (.bl (!ltA as bs)) H
theorem ge_at {A : Around} {s : Shared} {a b : At} {u v : Value} (ha : AtV a u) (hb : AtV b v) (hk : a.kd = b.kd) : Ob.RcOp .GtE A s u v (!At.lt a b) := by
  cases a with
  | i n =>
    obtain ⟨t, rfl⟩ := ha
    cases b with
    | i m =>
      obtain ⟨t', rfl⟩ := hb
      have := Ob.RcOp.ge_int (A := A) (s := s) n m t t'
      have e : decide (m ≤ n) = !At.lt (.i n) (.i m) := by
        show _ = !decide (n < m)
        by_cases h : n < m
        · rw [decide_eq_true h, decide_eq_false (by omega)]; rfl
        · rw [decide_eq_false h, decide_eq_true (by omega)]; rfl
      rw [← e]
      exact this
    | t m => cases hk
  | t n =>
    obtain ⟨t, rfl⟩ := ha
    cases b with
    | i m => cases hk
    | t m =>
      obtain ⟨t', rfl⟩ := hb
      intro prog w E Q h
      refine PySem.P.ge_str ?_
      rw [S_cps, S_cps]
      exact h
theorem ats_at : ∀ {as : List At} {us : List Value} {j : Nat} (h : j < us.length), Ats as us → ∃ x, as[j]? = some x ∧ AtV x us[j]
  | [], [], j, h, _ => absurd h (by simp)
  | [], _ :: _, _, _, h => h.elim
  | _ :: _, [], _, h, _ => absurd h (by simp)
  | a :: as, u :: us, 0, _, h => ⟨a, rfl, h.1⟩
  | a :: as, u :: us, j + 1, hl, h => by
    obtain ⟨x, h1, h2⟩ := ats_at (as := as) (us := us) (j := j) (by simpa using hl) h.2
    exact ⟨x, h1, h2⟩
theorem op_geA {X : Cx} (hu : X.A.units < cLine) : OpR X (compareOp .GtE) (rGeA X.K) := by
  intro pins s σ H x y v u Q I rx ry h
  obtain ⟨a, b, as, bs, rfl, rfl, ha, hb, hk, q⟩ := h
  cases rx
  cases ry
  obtain ⟨its, r1, p1, _⟩ := I.tuple ha
  obtain ⟨its2, r2, p2, _⟩ := I.tuple hb
  have i1 := ats_of r1
  have i2 := ats_of r2
  have l1 := ats_len i1
  have l2 := ats_len i2
  have lk : as.length = bs.length := by have := congrArg List.length hk; simpa using this
  have hkj : ∀ (j : Nat) (x y : At), as[j]? = some x → bs[j]? = some y → x.kd = y.kd := fun j x y h1 h2 => by
    have e := congrArg (fun l : List Bool => l[j]?) hk
    simp only [List.getElem?_map, h1, h2] at e
    exact Option.some.inj e
  have R := Ob.RcOp.tuples_ge (A := X.A) (s := s) (e := fun j => decide (as.getD j (.i 0) = bs.getD j (.i 0))) (r := fun j => !At.lt (as.getD j (.i 0)) (bs.getD j (.i 0))) p1 p2 hu (fun j h1 h2 => by
    obtain ⟨x, e1, z1⟩ := ats_at (us := its) (j := j) (by simpa using h1) i1
    obtain ⟨y, e2, z2⟩ := ats_at (us := its2) (j := j) (by simpa using h2) i2
    have d1 : as.getD j (.i 0) = x := by rw [List.getD_eq_getElem?_getD, e1]; rfl
    have d2 : bs.getD j (.i 0) = y := by rw [List.getD_eq_getElem?_getD, e2]; rfl
    rw [d1, d2]
    exact fun prog w E Q h => eq_at z1 z2 (hkj j x y e1 e2) h) (fun j h1 h2 _ => by
    obtain ⟨x, e1, z1⟩ := ats_at (us := its) (j := j) (by simpa using h1) i1
    obtain ⟨y, e2, z2⟩ := ats_at (us := its2) (j := j) (by simpa using h2) i2
    have d1 : as.getD j (.i 0) = x := by rw [List.getD_eq_getElem?_getD, e1]; rfl
    have d2 : bs.getD j (.i 0) = y := by rw [List.getD_eq_getElem?_getD, e2]; rfl
    rw [d1, d2]
    exact ge_at z1 z2 (hkj j x y e1 e2))
  have s1 : its.toArray.size = as.length := by rw [List.size_toArray]; exact l1.symm
  have s2 : its2.toArray.size = as.length := by rw [List.size_toArray, lk]; exact l2.symm
  rw [s1, s2, Nat.min_self, lex_at as bs 0 lk (decide_eq_true (Nat.le_refl _)) (fun j x y h1 h2 => by
    rw [Nat.zero_add]
    simp only [List.getD_eq_getElem?_getD, h1, h2]
    exact ⟨rfl, rfl⟩)] at R
  exact R X.prog X.w X.xe (EP X pins σ Q) ⟨.bl _, H, I, rfl, q⟩
theorem ol_geA {K : PySem.W.Frag} {α : Type} {T : Tv α} {enc : α → List At} {a b : α} (hE : EncT T enc) : OpP (rGeA K) (fTup K T).up (fTup K T).up a b (M.ok (!ltA (enc a) (enc b))) fBool.up :=
  ⟨fun e q => (nomatch q), fun F H v w H0 Q x ⟨p, vs, e1, h1, q1⟩ ⟨p2, vs2, e2, h2, q2⟩ c ec k => by
    cases M.ok_inj ec
    have d1 := hE.run _ _ _ q1
    have d2 := hE.run _ _ _ q2
    subst d1 d2
    exact ⟨p, p2, _, _, e1, e2, sqT_ex x h1, sqT_ex x h2, hE.kd a b, k _ F H (Gr.refl x) rfl⟩⟩
end LK
namespace LK
open PySem L2
/-! ### a list that is frozen, a plain one -/
theorem lst_xs {F F' : Hp} {p : Addr} {vs : List V} (x : XS F F') (h : F p = some (.lst vs)) : F' p = some (.lst vs) := by
  rcases x p _ h with h' | ⟨u, hu, ho | ⟨q, ho⟩, _⟩
  · exact h'
  · subst ho; exact nomatch hu
  · cases ho
def sLst (K : PySem.W.Frag) {α : Type} (A : Rf α) : Rf (List α) := ⟨fun as F v => ∃ p vs, v = .ref p ∧ F p = some (.lst vs) ∧ Pw (fun a x => A.r a F x) as vs, fun ⟨p, vs, e, h, q⟩ x => ⟨p, vs, e, lst_xs x h, q.imp fun _ _ z => A.sx z x⟩⟩
section
variable {X : Cx} {W : WX} {G : Gm} {α : Type} {A : Rf α}
theorem fe_freezeS {K : PySem.W.Frag} {e : Expr} {m : M (List α)} (h : FE X W G e m (ro (tL K A))) : FE X W G e m (sLst K A).up :=
  PE.weak h fun σ H Q ⟨B, tl, F, D⟩ => ⟨B, tl, F, D.st, D.ne, fun a e F' H' g v ⟨ms, ho, k⟩ => by
    let F2 : Hp := fun x => if x ∈ ms then H' x else F' x
    have x1 : Ex F' F2 := fun x o hx => by
      show (if x ∈ ms then H' x else F' x) = some o
      by_cases z : x ∈ ms
      · rw [(k x z).2.1] at hx; cases hx
      · rw [if_neg z]; exact hx
    have x2 : Ex F2 H' := fun x o hx => by
      have hx : (if x ∈ ms then H' x else F' x) = some o := hx
      by_cases z : x ∈ ms
      · rw [if_pos z] at hx; exact hx
      · rw [if_neg z] at hx; exact g.fh x o hx
    have g2 : Gr F H F2 H' := ⟨g.f.trans x1, g.h, x2, fun x h1 h2 => by
      show (if x ∈ ms then H' x else F' x) = none
      rw [if_neg (fun z => h2.ne (k x z).1)]
      exact g.no x h1 h2⟩
    obtain ⟨p, vs, ev, hp, hw, hm⟩ := ho
    have hq : F2 p = some (.lst vs) := by
      show (if p ∈ ms then H' p else F' p) = _
      rw [if_pos (by rw [hm]; exact List.mem_singleton.mpr rfl)]
      exact hp
    exact D.ok a e F2 H' g2 v ⟨p, vs, ev, hq, hw.imp fun _ _ z => A.sx z x1.xs⟩, D.er⟩
theorem fe_sl {K : PySem.W.Frag} {e : Expr} {m : M (List α)} (h : FE X W G e m (sLst K A).up) : FE X W G e m (fLst K A).up :=
  fe_imp h fun a H0 F H v x ⟨p, vs, e, h, q⟩ => ⟨p, vs, e, .inl (.inl h), q⟩
theorem lm_extS {K : PySem.W.Frag} {as bs : List α} : LMut K A rExtend (a1 (sLst K A).up) fUnit as (bs, ()) (M.need (as.length + bs.length ≤ sizeLine) (M.ok ((), as ++ bs))) :=
  ⟨need_err, fun F H H0 l vs ws Q x h0 hh pw hw c ec k => by
    obtain ⟨hc, rfl⟩ := need_ok ec
    obtain ⟨v, r, e, ⟨p, us, ev, hp, pw2⟩, h2⟩ := hw
    cases h2
    subst ev
    subst e
    exact ⟨l, p, vs, us, rfl, rfl, hh, x _ _ hp, by rw [← pw.len, ← pw2.len]; exact hc, k _ _ rfl (pw.app pw2)⟩⟩
end
/-! ### {k: v} -/
section
variable {X : Cx} {W : WX} {G : Gm} {κ α : Type} {T : KY κ} {A : Rf α}
theorem Told.grow {K : PySem.W.Frag} {α : Type} {m : M α} {P : α → Hp → Hp → Prop} {σ : St} {H : Hp} {B : Bs} {tl : List Nat} {F F1 H1 : Hp} (T : Told K W G m P σ H B tl F) (g : Gr F H F1 H1) : Told K W G m P σ H1 B tl F1 :=
  ⟨T.st.grow g, T.ne, fun b e F' H' g' => T.ok b e F' H' (g.trans g'), fun e q F' H' g' => T.er e q F' H' (g.trans g')⟩
theorem fe_disp1 {k v : Expr} {pos : Pos} {mk : M κ} {mv : M α} (hk : FE X W G k mk T.A.up) (hv : FE X W G v mv A.up) : FE X W G (.Dict [some k] [v] pos) (mk.bind fun a => mv.bind fun b => M.ok [(a, b)]) (ro (tD T A)) :=
  PE.weak (pe_disp (pps_cons hk hv pps_nil) rfl rfl (fun h => nomatch h) (show 1 ≤ 15 by decide)) fun σ H Q ⟨B, tl, F, D⟩ => by
    intro p hp
    have g0 : Gr F H F (upd H p (.dK [])) := Gr.newM D.st.fh hp
    refine ⟨B, tl, F, (D.grow g0).seq fun a F1 H1 e1 g1 T1 x rx => ⟨B, tl, F1, T1.seq fun b F2 H2 e2 g2 T2 y ry => ?_⟩⟩
    have hp2 : H2 p = some (.dK []) := g2.h _ _ (g1.h _ _ upd_same)
    have hF2 : F2 p = none := g2.no p (g1.no p (D.st.fh.free hp) NT.up) (.of (g1.h _ _ upd_same))
    have rk := T.A.st rx g2.f
    obtain ⟨ex, okx⟩ := T.of rk
    refine ⟨hp2, [(T.k a, y)], by rw [ex]; rfl, (show 1 ≤ 15 by decide), ?_⟩
    have gg : Gr F H F2 (upd H2 p (.dK (mergeK [] [(T.k a, y)]))) := by
      have g := (g0.trans g1).trans g2
      refine ⟨g.f, fun z o hz => ?_, fun z o hz => ?_, g.no⟩
      · by_cases e : z = p
        · subst e; rw [hp] at hz; cases hz
        · rw [upd_ne e]; exact g.h z o hz
      · by_cases e : z = p
        · subst e; rw [hF2] at hz; cases hz
        · rw [upd_ne e]; exact g.fh z o hz
    refine D.ok [(a, b)] (by rw [e1]; show (mv.bind fun b => M.ok [(a, b)]) = _; rw [e2]; rfl) F2 _ gg (.ref p) ⟨[p], ⟨p, _, rfl, upd_same, .cons okx ry .nil, rfl⟩, fun z hz => ?_⟩
    cases List.mem_singleton.mp hz
    exact ⟨hp, hF2, NT.up⟩
theorem ft_din [DecidableEq κ] {kk : Nat} {o i : Expr} {pos : Pos} {md : M (List (κ × α))} {mk : M κ} (C : Cok X W kk) (hi : FE X W G i mk T.A.up) (ho : FE X W G o md (bDc T A)) (hb : behindInMarks CmpOp.In o = false := by rfl) : FT X W G (.Compare i [.In] [o] pos) (mk.bind fun k => md.bind fun d => M.ok (dget d k).isSome) :=
  PT.weak (pt_cmp (pc_din C.un hi ho) hb) fun σ H Q h0 => by
    obtain ⟨B, tl, F, D⟩ := te_tt h0
    exact ⟨B, tl, F, D.seq fun k F1 H1 e1 g1 T1 w rw' => ⟨B, tl, F1, T1.seq fun d F2 H2 e2 g2 T2 v ⟨p, ws, ev, h, q⟩ => by
      obtain ⟨ew, ht⟩ := T.of rw'
      subst ew ev
      refine ⟨p, valV ws (T.k k), rfl, .inl ⟨ws, T.k k, h, rfl, rfl⟩, ?_⟩
      rcases q.get (k := k) with ⟨h1, h2⟩ | ⟨a, x, h1, h2, h3⟩
      · rw [h2]; exact T2.ok _ rfl F2 H2 (Gr.refl g2.fh) _ (by rw [h1]; rfl)
      · rw [h2]; exact T2.ok _ rfl F2 H2 (Gr.refl g2.fh) _ (by rw [h1]; rfl)⟩⟩
theorem ft_dnin [DecidableEq κ] {kk : Nat} {o i : Expr} {pos : Pos} {md : M (List (κ × α))} {mk : M κ} (C : Cok X W kk) (hi : FE X W G i mk T.A.up) (ho : FE X W G o md (bDc T A)) (hb : behindInMarks CmpOp.NotIn o = false := by rfl) : FT X W G (.Compare i [.NotIn] [o] pos) (mk.bind fun k => md.bind fun d => M.ok (!(dget d k).isSome)) :=
  PT.weak (pt_cmp (pc_dnotin C.un hi ho) hb) fun σ H Q h0 => by
    obtain ⟨B, tl, F, D⟩ := te_tt h0
    exact ⟨B, tl, F, D.seq fun k F1 H1 e1 g1 T1 w rw' => ⟨B, tl, F1, T1.seq fun d F2 H2 e2 g2 T2 v ⟨p, ws, ev, h, q⟩ => by
      obtain ⟨ew, ht⟩ := T.of rw'
      subst ew ev
      refine ⟨p, valV ws (T.k k), rfl, .inl ⟨ws, T.k k, h, rfl, rfl⟩, ?_⟩
      rcases q.get (k := k) with ⟨h1, h2⟩ | ⟨a, x, h1, h2, h3⟩
      · rw [h2]; exact T2.ok _ rfl F2 H2 (Gr.refl g2.fh) _ (by rw [h1]; rfl)
      · rw [h2]; exact T2.ok _ rfl F2 H2 (Gr.refl g2.fh) _ (by rw [h1]; rfl)⟩⟩
theorem fv_disp1 {k v : Expr} {pos : Pos} {a : κ} {b : α} (hk : FE X W G k (M.ok a) T.A.up) (hv : FE X W G v (M.ok b) A.up) : FE X W G (.Dict [some k] [v] pos) (M.ok [(a, b)]) (ro (tD T A)) := fe_disp1 hk hv
end
end LK
namespace LK
open PySem L2
/-! ### min of a list of texts -/
def bestT (ks : List (List Nat)) : Nat → Nat := argBest fun i j => decide (ks.getD i [] < ks.getD j [])
def minT (ks : List (List Nat)) : List Nat := ks.getD (bestT ks (ks.length - 1)) []
theorem bestT_le (ks : List (List Nat)) : ∀ k, bestT ks k ≤ k ∧ ∀ j, j ≤ k → ks.getD (bestT ks k) [] ≤ ks.getD j []
  | 0 => ⟨Nat.le_refl _, fun j hj => by cases Nat.le_zero.mp hj; exact List.le_refl _⟩
  | k + 1 => by
    obtain ⟨h1, h2⟩ := bestT_le ks k
    have e : bestT ks (k + 1) = if decide (ks.getD (k + 1) [] < ks.getD (bestT ks k) []) = true then k + 1 else bestT ks k := rfl
    by_cases hc : ks.getD (k + 1) [] < ks.getD (bestT ks k) []
    · rw [e, if_pos (decide_eq_true hc)]
      refine ⟨Nat.le_refl _, fun j hj => ?_⟩
      rcases Nat.lt_or_ge j (k + 1) with hlt | hge
      · exact List.le_trans (List.not_lt.mp fun z => List.lt_irrefl _ (List.lt_trans hc z)) (h2 j (by omega))
      · have : j = k + 1 := by omega
        subst this
        exact List.le_refl _
    · rw [e, if_neg (by rw [decide_eq_false hc]; decide)]
      refine ⟨by omega, fun j hj => ?_⟩
      rcases Nat.lt_or_ge j (k + 1) with hlt | hge
      · exact h2 j (by omega)
      · have : j = k + 1 := by omega
        subst this
        exact List.not_lt.mp hc
theorem minT_mem {ks : List (List Nat)} (h : 0 < ks.length) : minT ks ∈ ks := by
  have h1 := (bestT_le ks (ks.length - 1)).1
  unfold minT
  rw [List.getD_eq_getElem?_getD, List.getElem?_eq_getElem (by omega)]
  exact List.getElem_mem _
theorem minT_le {ks : List (List Nat)} {t : List Nat} (h : t ∈ ks) : minT ks ≤ t := by
  obtain ⟨i, hi, e⟩ := List.mem_iff_getElem.mp h
  have := (bestT_le ks (ks.length - 1)).2 i (by omega)
  rw [List.getD_eq_getElem?_getD (i := i), List.getElem?_eq_getElem hi, e] at this
  exact this
section
variable {prog : Program} {w : World} {A : Around} {E : Value → Shared → Prop} {s : Shared} {l : Addr} {items : Array Value}
theorem iter_items {Q : Value → Shared → Prop} (hl : s.heap.IsList l items)
    (h : ∀ s₂ : Shared, s₂ = { s with heap := s.heap.push { cls := .type "list_iterator", data := .fields #[.ref l, .int 0 0] } } →
      (s₂.heap.IsListIter s.heap.objs.size l 0 ∧ s₂.heap.IsList l items) → (∀ b ∈ [s.heap.objs.size, l], b < s₂.heap.objs.size) → l ≠ s.heap.objs.size → Q (.ref s.heap.objs.size) s₂) :
    wpAny (model prog w) A (pyIter (.ref l)) Q E s := by
  have hlt : l < s.heap.objs.size := by obtain ⟨_, e, _⟩ := hl; exact Heap.lt_size e
  refine wpAny_pyIter_list hl (h _ rfl ⟨⟨_, Heap.get?_push_size _ rfl, rfl, rfl⟩, hl.push _⟩ (fun b hb => ?_) (Nat.ne_of_lt hlt))
  show b < (s.heap.push _).objs.size
  rw [Heap.size_push]
  rcases List.mem_cons.mp hb with rfl | hb
  · exact Nat.lt_succ_self _
  · rcases List.mem_cons.mp hb with rfl | hb
    · exact Nat.lt_succ_of_lt hlt
    · cases hb
theorem cmp_txts {P : Nat → Value → Prop} (val : Nat → List Nat) (hval : ∀ i v, P i v → ∃ t, v = Value.str (S (val i)) t) : CmpOf prog w A .Lt P (fun i j => decide (val i < val j)) := fun i j vi vj s Q E hi hj h => by
  obtain ⟨t, rfl⟩ := hval i vi hi
  obtain ⟨u, rfl⟩ := hval j vj hj
  have h' : Q (Value.bool (decide ((S (val i)).cps.toList < (S (val j)).cps.toList))) s := by rw [S_cps, S_cps]; exact h
  exact PyProof.Rows.lt_str h'
theorem min_txts {ks : List (List Nat)} {Q : Value → Shared → Prop} (hh : A.handled = none) (hl : s.heap.IsList l items) (hit : ∀ i v, items[i]? = some v → ∃ t, v = Value.str (S (ks.getD i [])) t) (hz : items.size = ks.length) (hne : 0 < ks.length)
    (h : ∀ h' tk t, (∀ b o, s.heap.get? b = some o → h'.get? b = some o) → Q (Value.str (S (minT ks)) t) { s with heap := h', toks := tk }) : wpAny (model prog w) A (call (.builtin "min") [.ref l]) Q E s := by
  refine call_min_walk (iter_items hl fun s₂ e st hfp hlI => ?_)
  subst e
  refine ⟨_, _, _, _, _, _, _, rfl, Walks.list (A := A.in1) hh _ l hlI items, st, hfp, by omega, cmp_txts (fun i => ks.getD i []) (fun i v hv => hit i v hv), fun v h' tk hP hk => ?_⟩
  obtain ⟨t, rfl⟩ := hit _ _ hP
  have := h h' tk t (old_kept hk)
  have e : minT ks = ks.getD (bestT ks (items.size - 1)) [] := by unfold minT; rw [hz]
  rw [e] at this
  exact this
end
def rMinT (K : PySem.W.Frag) : List V → Hp → VK → Prop := fun vs H Q => ∃ (a : Addr) (ks : List (List Nat)), vs = [V.ref a] ∧ SqL K H a ((ks.map S).map V.str) ∧ 0 < ks.length ∧ Q (.str (S (minT ks))) H
theorem cr_minT {X : Cx} (hc : X.calm = true) : CallR X (.builtin "min") (rMinT X.K) := by
  intro pins s σ H vs us Q I r h
  obtain ⟨a, ks, rfl, hs, hne, q⟩ := h
  obtain ⟨its, rv, hl, _⟩ := I.list hs
  rw [Vals.ref1 r]
  have hlen := rv.length
  rw [List.length_map, List.length_map] at hlen
  refine min_txts (ks := ks) (I.ok.hd hc) hl.isList (fun i v hv => ?_) (by simpa using hlen.symm) hne fun h' tk t hk => ⟨V.str _, H, I.kept hk, ⟨t, rfl⟩, q⟩
  have hv' : its[i]? = some v := by simpa using hv
  have hi : i < ks.length := by rw [hlen]; exact (List.getElem?_eq_some_iff.mp hv').1
  obtain ⟨t, e⟩ := PyProof.Rows.StrsAre.at rv.strs (j := i) (y := S (ks[i]'hi)) (by rw [List.getElem?_map, List.getElem?_eq_getElem hi]; rfl)
  rw [hv'] at e
  injection e with e
  refine ⟨t, ?_⟩
  rw [e, List.getD_eq_getElem?_getD, List.getElem?_eq_getElem hi]
  rfl
theorem cl_minT {K : PySem.W.Frag} {l : List (List Nat)} : CallP (rMinT K) (a1 (bLst K fTxt)) (l, ()) (M.need (0 < l.length) (M.ok (minT l))) fTxt.up :=
  cp1N fun hc F H v H0 Q x ⟨p, vs, e, h, q⟩ k => by
    obtain ⟨e1, e2⟩ := pw_txt q
    subst e1
    exact ⟨p, l, by rw [e], h, hc, k _ ⟨rfl, e2 _ (minT_mem hc)⟩⟩
end LK
namespace LK
open PySem PySem.Spec PyProof.Rows L2 L2H
/-! ### a def called in a suite: no exception leaves it, calm is not asked -/
structure FnS (P : Program) (w : World) (K : PySem.W.Frag) (mg : Str → Option Value) (base : Heap) (k : Nat) (f : Addr) (fd : FuncData) (ps : List Str) (sp : Sp) : Prop where
  len : ∀ vs H Q E, sp vs H Q E → vs.length = ps.length
  run : ∀ (A : Around) (outer : List Env) (s : Shared) (H : Hp) (args : Args) (us : List Value) (vs : List V) (Q : VK) (E : XK) (p : Addr × Obj), RoomH k A → PinOk outer H s p → Env0 P w K mg base A outer s H → BindsTo s fd args (ps.zip us) → Vals vs us → sp vs H Q E →
    codeAny (model P w) A (.call (.ref f) args) (CR (L2.CX P w) outer P w H s Q E) s
theorem FunD.okS {P : Program} {w : World} {K : PySem.W.Frag} {mg : Str → Option Value} {base : Heap} {x qual : Str} {params : Arguments} {body : List Stmt} {scope : Scope} {f : Addr} {fd : FuncData} {N ps : List Str} {k : Nat} {sp : Sp} (F : FunD K x qual params body scope [] [] f fd) (S : FnScope N ps scope) (len : ∀ vs H Q E, sp vs H Q E → vs.length = ps.length)
    (hbody : ∀ (cdv : Value) (A : Around) (outer : List Env) (s : Shared) (H : Hp) (vs : List V) (Q : VK) (E : XK) (p : Addr × Obj), RoomH k (A.deeper (envOfC qual scope s.heap.objs.size f cdv)) → sp vs H Q E →
      ∃ t, PSs (cxH (L2.CX P w) P w K mg base N qual scope f cdv A outer s H E p) body t ∧ t { nx := fun _ H' => Q .non H', rt := Q } (L2.start N vs) H) : FnS P w K mg base (k + 1) f fd ps sp := by
  obtain ⟨oc, od, dV, kV, doc, pm, an, cdv, ct, osl, rfl, lk, hcd, _, _⟩ := F.ex
  refine ⟨len, fun A outer s H args us vs Q E p hr hpin e0 hb r hsp => ?_⟩
  have hl := len _ _ _ _ hsp
  have KX : K.In s.heap := e0.mod.kin.keeps fun b o e => (e0.bs b o e).1
  have lim : s.heap.NoLimit := e0.mod.nolimit.keeps fun b o e => (e0.bs b o e).1
  have hkind : ∀ y ∈ ps.zip us, scope.names.lookup y.1 = some .local ∨ (scope.names.lookup y.1 = some .cell ∧ ((cellsFrom (s.heap.objs.size + 1) scope.names []).lookup y.1).isSome = true) := fun ⟨n, v⟩ hy => by
    rcases S.par n (List.of_mem_zip hy).1 with q | q
    · exact .inl q
    · exact .inr ⟨q, PySem.W.cellsFrom_some _ _ _ (.inl q)⟩
  refine codeAny_call_function hr.depth (KX _ _ lk) rfl S.co S.gen rfl (PySem.W.codeRec_of KX hcd) (hb _ _ _ _ ?_)
  refine wpAny_newFunctionEnv_cells S.kind hkind fun env he s1 x => ?_
  subst he
  refine ⟨lim.keeps x.toInCall.keep, codeAny_func ?_⟩
  obtain ⟨t, ht, hq⟩ := hbody cdv A outer s H vs Q E p (hr.deeper _) hsp
  have I : Inv (cxH (L2.CX P w) P w K mg base N qual scope f cdv A outer s H E p) [] (L2.start N vs) H s1 := inv_startH S hpin e0 hl r x
  refine wpAny_mono (ht.run [] s1 (L2.start N vs) H _ I hq) (fun fl s' hs => ?_) fun e s' hs => hs
  have fin : ∀ {σ' : L2.St} {H' : Hp} {v : V} {u : Value}, Inv (cxH (L2.CX P w) P w K mg base N qual scope f cdv A outer s H E p) [] σ' H' s' → RelV v u → Q v H' → CE outer P w H s Q u s' :=
    fun {σ' H' v u} J rv q => ⟨v, H', J.os, J.bare, J.base, J.hok, rv, q⟩
  cases fl with
  | ret u =>
    obtain ⟨v, σ', H', J, rv, q⟩ := hs
    exact fin J rv q
  | next =>
    obtain ⟨σ', H', J, q⟩ := hs
    exact fin (v := V.non) (u := Value.none) J rfl q
  | brk =>
    obtain ⟨_, _, _, q⟩ := hs
    exact False.elim q
  | cont =>
    obtain ⟨_, _, _, q⟩ := hs
    exact False.elim q
section
variable {X : Cx} {k : Nat} {f C : Addr} {fd : FuncData} {ps : List Str} {sp : Sp} {E : L2.St → XK} {m : Str} {pos apos : Pos} {o : Expr} {ta : TE}
theorem run_fnS {pins : List (Addr × Obj)} {σ : L2.St} {H : Hp} {s : Shared} {Q : VK} {us : List Value} {vs : List V} {p : Addr × Obj} (F : FnS X.prog X.w X.K X.mg X.base k f fd ps sp) (hr : RoomH k X.A) (hp : p ∈ X.pn) (hb : Binds X.K fd ps []) (hx : PassesAt (L2.CX X.prog X.w) X σ (E σ))
    (I : Inv X pins σ H s) (r : Vals vs us) (h : sp vs H Q (E σ)) : wpAny (model X.prog X.w) X.A (call (.ref f) us) (EP X pins σ Q) X.xe s := by
  have hl : us.length = ps.length := by rw [← r.length]; exact F.len _ _ _ _ h
  have b := hb s us I.kIn (by rw [List.append_nil]; exact hl)
  rw [List.append_nil] at b
  have P1 := I.pin p (List.mem_append_left _ hp)
  have hpin : PinOk X.stack H s p := ⟨P1.1, P1.2.1, fun hm => (List.mem_cons.mp (I.stkSub p.1 hm)).elim P1.2.2.1 P1.2.2.2.1, P1.2.2.2.2⟩
  refine wpAny_call (codeAny_mono (F.run X.A X.stack s H ⟨us, []⟩ us vs Q (E σ) p hr hpin I.env0 b r h) fun r s' hq => ?_)
  cases r with
  | error e => exact hx pins H s e s' I hq
  | ok fl =>
    cases fl with
    | ret u => exact I.after hq
    | next => exact False.elim hq
    | brk => exact False.elim hq
    | cont => exact False.elim hq
end
theorem fnS_def {P : Program} {w : World} {K : PySem.W.Frag} {mg : Str → Option Value} {base : Heap} {x qual : Str} {params : Arguments} {body : List Stmt} {scope : Scope} {f : Addr} {fd : FuncData} (Fd : FunD K x qual params body scope [] [] f fd) {N ps : List Str} (S : FnScope N ps scope) {k : Nat} {ε α ρ s : Type} {par : α → (Nat → V) → List Sl} {bm : α → Mg ε (Fl ρ Unit s)} {res : ρ → Sl} {outs : ρ → (Nat → V) → List (V × Sl)} {Eh : (Nat → V) → EH ε} {cls : ε → Er} {outsE : ε → (Nat → V) → List (V × Sl)}
    {R : (Nat → V) → ρ → V → Gm} {Nx : (Nat → V) → s → Gm} (n : Nat) (d : Option (s → ρ)) (ix ixn ixe : List Nat)
    (hd : ∀ f, d = some f → ∀ t Y F H, (res (f t)).r Y F H .non []) (hl : ∀ a w, (par a w).length = ps.length) (hn : N.length ≤ ps.length + n) (hps : ps.length ≤ N.length) (hcl : ∀ w e, (Eh w).cls e = cls e)
    (hR : ∀ w r v, Picks (R w r v) ix ((v, res r) :: outs r w)) (hN : ∀ f, d = some f → ∀ w t, Picks (Nx w t) ixn (outs (f t) w)) (hE : ∀ w e, Picks ((Eh w).G e) ixe (outsE e w)) (nd : ix.Nodup ∧ ixn.Nodup ∧ ixe.Nodup)
    (hbody : ∀ (cdv : Value) (A : Around) (outer : List PySem.Env) (s : Shared) (H : Hp) (E : XK) (pp : Addr × Obj), RoomH k (cxH (L2.CX P w) P w K mg base N qual scope f cdv A outer s H E pp).A →
      ∀ a u, FS (cxH (L2.CX P w) P w K mg base N qual scope f cdv A outer s H E pp) (WE0 E) (Eh u) (List.range N.length) (env0 (par a u) n) body (bm a) (R u) (fun _ : Unit => []) (Nx u)) :
    FnS P w K mg base (k + 1) f fd ps (spG K par (fun a => fin d (bm a)) res outs cls outsE) := by
  refine FunD.okS Fd S (fun vs H Q E ⟨a, F, u, X, ms, x, h, _⟩ => ?_) fun cdv A outer s H vs Q E pp hr ⟨a, F, u, X, ms, x, h, ne, hok, her⟩ => ?_
  · rw [← h.len]; exact hl a u
  · have hv : vs.length = ps.length := by rw [← h.len]; exact hl a u
    refine ⟨_, hbody cdv A outer s H E pp hr a u, ⟨hid X H, X, F, H, L2.start N vs⟩, F, ?_, ?_, ?_, ?_, ?_, ?_, ?_⟩
    · exact stt_start x h (by rw [hv]; exact hps) (by rw [hl a u]; exact hn)
    · intro e
      exact ne (by show fin d (bm a) = none; rw [e]; rfl)
    · intro r e v σ' F' H' st
      obtain ⟨ms', c⟩ := st.cells (hR u r v) nd.1
      exact hok r (by show fin d (bm a) = _; rw [e]; rfl) v F' H' ms' st.g c
    · intro t e σ' F' H' st
      cases d with
      | none => exact absurd (by show fin none (bm a) = none; rw [e]; rfl) ne
      | some f =>
        obtain ⟨ms', c⟩ := st.cells (hN f rfl u t) nd.2.1
        refine hok (f t) (by show fin (some f) (bm a) = _; rw [e]; rfl) .non F' H' (fun j => match j with
          | 0 => []
          | j + 1 => ms' j) st.g ⟨fun j v s e Y' => ?_, fun j hj => ?_, fun j x hx => ?_, fun j x hx j' hj hm => ?_⟩
        · cases j with
          | zero =>
            simp at e
            obtain ⟨rfl, rfl⟩ := e
            exact hd f rfl t _ _ _
          | succ j => exact c.has j v s (by simpa using e) Y'
        · cases j with
          | zero => rfl
          | succ j => exact c.non j (by simpa using hj)
        · cases j with
          | zero => exact nomatch hx
          | succ j => exact c.mem j x hx
        · cases j with
          | zero => exact nomatch hx
          | succ j =>
            cases j' with
            | zero => exact nomatch hm
            | succ j' => exact c.sep j x hx j' (fun q => hj (by rw [q])) hm
    · intro z e
      exact absurd (by show fin d (bm a) = none; rw [e]; rfl) ne
    · intro z e
      exact absurd (by show fin d (bm a) = none; rw [e]; rfl) ne
    · intro e q σ' F' H' st
      obtain ⟨ms', c⟩ := st.cells (hE u e) nd.2.2
      have := her e (by show fin d (bm a) = _; rw [q]; rfl) F' H' ms' st.g c
      rw [← hcl u e] at this
      exact this

def CalMS (P : Program) (w : World) (K : PySem.W.Frag) (mg : Str → Option Value) (base : Heap) (C : Addr) (m : Str) (ps : List Str) (j : Nat) (sp : Sp) : Prop :=
  ∃ f fd, Meth K C m f ∧ Binds K fd ps [] ∧ FnS P w K mg base j f fd ps sp
theorem tk0 {X : Cx} : Takes X W0 := fun _ _ ⟨_, _, _, _, _, _, _, _, _, _, _, _, _, _, _, _, w⟩ => w.elim
section
variable {X : Cx} {G : Gm} {k : Nat} {f C : Addr} {fd : FuncData} {ps : List Str} {sp : Sp} {E : L2.St → XK} {m : Str} {pos apos : Pos} {o : Expr} {ta : TE}
theorem pe_methS0H {pl : Sem Bool} {p : Addr × Obj} (he : PE X o ta) (c : Cls X.K C) (hm : Meth X.K C m f) (F : FnS X.prog X.w X.K X.mg X.base k f fd ps sp) (hr : RoomH k X.A) (hp : p ∈ X.pn) (hb : Binds X.K fd ps []) (hx : ∀ σ, PassesAt (L2.CX X.prog X.w) X σ (E σ))
    (ht : eval (.Call (.Attribute o m apos) [] [] pos) X.env = (do
      let ov ← eval o X.env
      standAt apos.atName
      let (f, first) ← holding [ov] (getMethod ov m pl)
      callWith pos f first (backTo pos (starEach [] X.env)) (backToKw pos (keywordEach [] X.env))) := by rfl) :
    PE X (.Call (.Attribute o m apos) [] [] pos) (tMethS C m sp E ta tNil) := by
  refine ⟨fun pins s σ H Q I h => ?_⟩
  refine PySem.W.methodCall_KW (pl := pl) (thn (he.run pins s σ H _ I h) fun u s1 ⟨x, H1, I1, rx, a, dx, fs, ex, ea, l, q⟩ => ?_) ht
  subst ex
  obtain rfl : u = Value.ref a := rx
  refine getmeth_ok I1 ea c hm l ?_
  exact PySem.W.callWith_K0 (first := [.ref a]) I1.kIn hm.kp (LK.run_fnS (us := [.ref a]) (vs := [.ref a]) F hr hp hb (hx σ) I1 (.cons rfl .nil) q)
theorem FnS.mono {P : Program} {w : World} {K : PySem.W.Frag} {mg : Str → Option Value} {base : Heap} {j k : Nat} {f : Addr} {fd : FuncData} {ps : List Str} {sp : Sp} (F : FnS P w K mg base j f fd ps sp) (h : j ≤ k) : FnS P w K mg base k f fd ps sp :=
  ⟨F.len, fun A outer s H args us vs Q E p hr => F.run A outer s H args us vs Q E p (hr.mono h)⟩
theorem fe_methC0S {κ ρ : Type} {j : Nat} {Cl : Addr} {U : κ → Fs} {names : List Str} {ps : List Str} {m : Str} {o : Expr} {apos pos : Pos} {a0 : κ} {par : κ × Unit → List Sl} {mir : κ × Unit → M ρ} {res : ρ → Sl} {R : Rl ρ} {pl : Sem Bool} {p : Addr × Obj} (hp0 : p ∈ X.pn) (hr0 : RoomH k X.A)
    (h : CalMS X.prog X.w X.K X.mg X.base Cl m ps j (spP X.K par mir res)) (hj : j ≤ k) (cC : Cls X.K Cl) (hU : (U a0).map (·.1) = names) (hno : m ∉ names) (hp : ArgOk (rac (nw (tBx Cl U)) ra0) par) (hr : ResOf res R) (he : FE X W0 G o (M.ok a0) (nw (tBx Cl U)))
    (ht : eval (.Call (.Attribute o m apos) [] [] pos) X.env = (do
      let ov ← eval o X.env
      standAt apos.atName
      let (f, first) ← holding [ov] (getMethod ov m pl)
      callWith pos f first (backTo pos (starEach [] X.env)) (backToKw pos (keywordEach [] X.env))) := by rfl) :
    FE X W0 G (.Call (.Attribute o m apos) [] [] pos) (mir (a0, ())) R := by
  obtain ⟨f, fd, hm, hb, Fk⟩ := h
  refine PE.weak (pe_methS0H (E := WE W0) he cC hm Fk (hr0.mono hj) hp0 hb (fun σ => passAt tk0 σ) ht) fun σ H Q ⟨B, tl, F, D⟩ => ?_
  have D' : Told X.K W0 G ((M.ok a0 : M κ).bind fun a0 => mir (a0, ())) _ σ H B tl F := D
  refine ⟨B, tl, F, D'.seq fun a F1 H1 ea g1 D1 v rv => ?_⟩
  cases M.ok_inj ea
  obtain ⟨p, dx, fs, ev, hp1, hrd⟩ := rv
  refine ⟨p, dx, fs, ev, hp1, hrd.no hU hno, ?_⟩
  exact ask_pure (A := rac (nw (tBx Cl U)) ra0) (a := (a0, ())) (vs := [v]) hp hr g1.h.kn D1 ⟨v, [], rfl, ⟨p, dx, fs, ev, hp1, hrd⟩, rfl⟩
end
section
variable {X : Cx} {W : WX} {G : Gm} {κ α : Type} {T : KY κ} {A : Rf α}
theorem fe_dninU [DecidableEq κ] {o i : Expr} {pos : Pos} {md : M (List (κ × α))} {mk : M κ} (hu : X.A.units + 1 < cLine) (hi : FE X W G i mk T.A.up) (ho : FE X W G o md (bDc T A)) (hb : behindInMarks CmpOp.NotIn o = false := by rfl) : FE X W G (.Compare i [.NotIn] [o] pos) (mk.bind fun k => md.bind fun d => M.ok (!(dget d k).isSome)) fBool.up :=
  PE.weak (pe_cmp (pc_dnotin hu hi ho) hb) fun σ H Q ⟨B, tl, F, D⟩ => ⟨B, tl, F, D.seq fun k F1 H1 e1 g1 T1 w rw' => ⟨B, tl, F1, T1.seq fun d F2 H2 e2 g2 T2 v ⟨p, ws, ev, h, q⟩ => by
    obtain ⟨ew, ht⟩ := T.of rw'
    subst ew ev
    refine ⟨p, valV ws (T.k k), rfl, .inl ⟨ws, T.k k, h, rfl, rfl⟩, ?_⟩
    rcases q.get (k := k) with ⟨h1, h2⟩ | ⟨a, x, h1, h2, h3⟩
    · rw [h2]; exact T2.ok _ rfl F2 H2 (Gr.refl g2.fh) _ (by rw [h1]; rfl)
    · rw [h2]; exact T2.ok _ rfl F2 H2 (Gr.refl g2.fh) _ (by rw [h1]; rfl)⟩⟩
end
theorem room_suite {X : Cx} {a : Addr} {pn : List (Addr × Obj)} {k : Nat} (h : Room k X.A) : RoomH k (X.suite a pn).A := ⟨h.dp, h.un⟩
section
variable {ε1 ε : Type} {E1 : EH ε1} {Eh : EH ε} {X : Cx} {W : WX} {G : Gm} {tl : List Nat} {ρ b s : Type} {R : ρ → V → Gm} {Gb : b → Gm} {N : s → Gm} {k : Nat}
theorem hd_consH {x : Str} {c : Value} {tab : List (Er × Bool)} {b₀ : Stmt} {suite : List Stmt} {np pos' : Pos} {hds : List ExceptHandler} {m : ε1 → Mg ε (Fl ρ b s)} {h : ε1 → Mg ε (Fl ρ b s)} (hc : Names X x c) (ht : ∀ e b, tab.lookup e = some b → PySem.W.exmOne X.K (ec X.K e) c = some b)
    (hsu : ∀ (e : ε1) (a : Addr) (oe : Obj) (pn : List (Addr × Obj)), FS (X.suite a ((a, oe) :: pn)) W0 Eh tl (E1.G e) (b₀ :: suite) (m e) R Gb N) (r : HdP X W E1 Eh tl R Gb N hds h) :
    HdP X W E1 Eh tl R Gb N (.ExceptHandler (some (.Name x np)) none (b₀ :: suite) pos' :: hds) (fun e => exB tab (E1.cls e) (noerrG (m e)) (h e)) := by
  obtain ⟨l, h1, h2⟩ := r
  refine ⟨(c, fun _ _ _ => fun D σ H => ∃ e, tFS X.K W0 Eh tl (E1.G e) (m e) R Gb N D σ H) :: l, .cons hc (fun a oe cls d pn _ _ => pss_ex fun e => hsu e a oe pn) h1, fun e D σ H B F T => ?_⟩
  have T : ToldS X.K W Eh tl (E1.G e) (exB tab (E1.cls e) (noerrG (m e)) (h e)) R Gb N D σ H B F := T
  obtain ⟨b, hb, eb⟩ := exB_ne T.ne
  refine ⟨b, ht (E1.cls e) b hb, fun hy a _ => ?_, fun hn => ?_⟩
  · rw [eb, if_pos hy] at T
    obtain ⟨a, ea⟩ := noerrG_ne T.ne
    rw [ea] at T
    refine ⟨e, B, F, T.st, ?_, ?_, ?_, ?_, ?_, ?_⟩
    · rw [ea]; exact fun z => nomatch z
    · rw [ea]; exact T.ret
    · rw [ea]; exact T.nx
    · rw [ea]; exact T.bk
    · rw [ea]; exact T.ct
    · rw [ea]; exact fun e z => (nomatch z)
  · rw [eb, if_neg (by rw [hn]; exact Bool.false_ne_true)] at T
    exact h2 e D σ H B F T
end
end LK
namespace LK
open PySem L2
/-! ### a list of two things of one's own -/
def tPP (K : PySem.W.Frag) {α β : Type} (T : Th α) (U : Th β) : Th (α × β) := ⟨fun a F X v => ∃ p v0 v1, v = .ref p ∧ SqL K X p [v0, v1] ∧ T.rd a.1 F X v0 ∧ U.rd a.2 F X v1,
  fun a F H v ms => ∃ p v0 v1 m0 m1, v = .ref p ∧ H p = some (.lst [v0, v1]) ∧ T.ow a.1 F H v0 m0 ∧ U.ow a.2 F H v1 m1 ∧ ms = p :: (m0 ++ m1) ∧ p ∉ m0 ∧ p ∉ m1 ∧ ∀ x ∈ m0, x ∉ m1,
  fun ⟨p, v0, v1, e, h, q0, q1⟩ x y => ⟨p, v0, v1, e, sqL_xs y h, T.rst q0 x y, U.rst q1 x y⟩,
  fun ⟨p, v0, v1, m0, m1, e, h, q0, q1, em, n0, n1, d⟩ x k => ⟨p, v0, v1, m0, m1, e, k p (by rw [em]; exact List.mem_cons_self) _ h, T.ost q0 x (fun z hz => k z (by rw [em]; exact List.mem_cons_of_mem _ (List.mem_append_left _ hz))), U.ost q1 x (fun z hz => k z (by rw [em]; exact List.mem_cons_of_mem _ (List.mem_append_right _ hz))), em, n0, n1, d⟩,
  fun ⟨p, v0, v1, m0, m1, e, h, q0, q1, em, n0, n1, d⟩ k x => ⟨p, v0, v1, e, .inl (.inl (k p (by rw [em]; exact List.mem_cons_self) _ h)), T.ord q0 (fun z hz => k z (by rw [em]; exact List.mem_cons_of_mem _ (List.mem_append_left _ hz))) x, U.ord q1 (fun z hz => k z (by rw [em]; exact List.mem_cons_of_mem _ (List.mem_append_right _ hz))) x⟩⟩
section
variable {K : PySem.W.Frag} {B : Bs} {tl : List Nat} {G : Gm} {F H : Hp} {σ : St} {α β : Type} {T : Th α} {U : Th β} {a : α} {b : β} {k g : Nat} {q w : V}
theorem Stt.openP0 (st : Stt B tl G F H σ) (hG : G[k]? = some (some (pn q (ob (tPP K T U) (a, b))))) (hg : G[g]? = some none) (hn : σ.length ≤ g) :
    ∃ w, Stt B tl ((G.set k (some (pn q (ob (tPP K (tF fVal) U) (w, b))))).set g (some (pn w (ob T a)))) F H σ := by
  obtain ⟨ms, z⟩ := st.sl
  obtain ⟨u, h1, rfl, p, v0, v1, m0, m1, e, hp, h2, h3, em, n0, n1, d⟩ := z.has k _ hG
  have hne : k ≠ g := fun z => by rw [z, hg] at hG; cases hG
  refine ⟨v0, st.two z (p :: ([] ++ m1)) m0 hne (List.getElem?_eq_some_iff.mp hG).1 (List.getElem?_eq_some_iff.mp hg).1 ⟨u, h1, rfl, p, v0, v1, [], m1, e, hp, ⟨rfl, rfl⟩, h3, rfl, (fun z => nomatch z), n1, (fun x hx => nomatch hx)⟩ ⟨v0, fun q => absurd q (by omega), rfl, h2⟩ (fun x hx => ⟨k, _, .inl rfl, hG, rfl, ?_⟩) fun x hx hm => ?_⟩
  · rw [em]
    rcases hx with hx | hx
    · rcases List.mem_cons.mp hx with z | z
      · exact z ▸ List.mem_cons_self
      · exact List.mem_cons_of_mem _ (List.mem_append_right _ z)
    · exact List.mem_cons_of_mem _ (List.mem_append_left _ hx)
  · rcases List.mem_cons.mp hx with z | z
    · subst z; exact n0 hm
    · exact d x hm z
theorem Stt.openP1 (st : Stt B tl G F H σ) (hG : G[k]? = some (some (pn q (ob (tPP K T U) (a, b))))) (hg : G[g]? = some none) (hn : σ.length ≤ g) :
    ∃ w, Stt B tl ((G.set k (some (pn q (ob (tPP K T (tF fVal)) (a, w))))).set g (some (pn w (ob U b)))) F H σ := by
  obtain ⟨ms, z⟩ := st.sl
  obtain ⟨u, h1, rfl, p, v0, v1, m0, m1, e, hp, h2, h3, em, n0, n1, d⟩ := z.has k _ hG
  have hne : k ≠ g := fun z => by rw [z, hg] at hG; cases hG
  refine ⟨v1, st.two z (p :: (m0 ++ [])) m1 hne (List.getElem?_eq_some_iff.mp hG).1 (List.getElem?_eq_some_iff.mp hg).1 ⟨u, h1, rfl, p, v0, v1, m0, [], e, hp, h2, ⟨rfl, rfl⟩, rfl, n0, (fun z => nomatch z), (fun x _ hx => nomatch hx)⟩ ⟨v1, fun q => absurd q (by omega), rfl, h3⟩ (fun x hx => ⟨k, _, .inl rfl, hG, rfl, ?_⟩) fun x hx hm => ?_⟩
  · rw [em]
    rcases hx with hx | hx
    · rcases List.mem_cons.mp hx with z | z
      · exact z ▸ List.mem_cons_self
      · rw [List.append_nil] at z
        exact List.mem_cons_of_mem _ (List.mem_append_left _ z)
    · exact List.mem_cons_of_mem _ (List.mem_append_right _ hx)
  · rcases List.mem_cons.mp hx with z | z
    · subst z; exact n1 hm
    · rw [List.append_nil] at z
      exact d x z hm
theorem Stt.closeP0 (st : Stt B tl G F H σ) (hG : G[k]? = some (some (pn q (ob (tPP K (tF fVal) U) (w, b))))) (hg : G[g]? = some (some (pn w (ob T a)))) (hne : k ≠ g) :
    Stt B tl ((G.set k (some (pn q (ob (tPP K T U) (a, b))))).set g none) F H σ := by
  obtain ⟨ms, z⟩ := st.sl
  obtain ⟨u, h1, rfl, p, v0, v1, m0, m1, e, hp, h2, h3, em, n0, n1, d⟩ := z.has k _ hG
  obtain ⟨u2, _, rfl, h4⟩ := z.has g _ hg
  obtain ⟨e0, em0⟩ := h2
  have e0 : v0 = u2 := e0
  subst e0 em0
  have dis : ∀ x ∈ ms g, x ∉ ms k := fun x hx => z.sep g _ hg rfl x hx k hne
  refine st.two z (p :: (ms g ++ m1)) [] hne (List.getElem?_eq_some_iff.mp hG).1 (List.getElem?_eq_some_iff.mp hg).1 ⟨u, h1, rfl, p, v0, v1, ms g, m1, e, hp, h4, h3, rfl, fun q => ?_, n1, fun x hx hm => ?_⟩ rfl (fun x hx => ?_) (fun x hx hm => nomatch hm)
  · exact dis p q (by rw [em]; exact List.mem_cons_self)
  · exact dis x hx (by rw [em]; exact List.mem_cons_of_mem _ (List.mem_append_right _ hm))
  · rcases hx with hx | hx
    · rcases List.mem_cons.mp hx with y | y
      · exact ⟨k, _, .inl rfl, hG, rfl, by rw [em, y]; exact List.mem_cons_self⟩
      · rcases List.mem_append.mp y with y | y
        · exact ⟨g, _, .inr rfl, hg, rfl, y⟩
        · exact ⟨k, _, .inl rfl, hG, rfl, by rw [em]; exact List.mem_cons_of_mem _ (List.mem_append_right _ y)⟩
    · exact nomatch hx
theorem Stt.closeP1 (st : Stt B tl G F H σ) (hG : G[k]? = some (some (pn q (ob (tPP K T (tF fVal)) (a, w))))) (hg : G[g]? = some (some (pn w (ob U b)))) (hne : k ≠ g) :
    Stt B tl ((G.set k (some (pn q (ob (tPP K T U) (a, b))))).set g none) F H σ := by
  obtain ⟨ms, z⟩ := st.sl
  obtain ⟨u, h1, rfl, p, v0, v1, m0, m1, e, hp, h2, h3, em, n0, n1, d⟩ := z.has k _ hG
  obtain ⟨u2, _, rfl, h4⟩ := z.has g _ hg
  obtain ⟨e0, em0⟩ := h3
  have e0 : v1 = u2 := e0
  subst e0 em0
  have dis : ∀ x ∈ ms g, x ∉ ms k := fun x hx => z.sep g _ hg rfl x hx k hne
  refine st.two z (p :: (m0 ++ ms g)) [] hne (List.getElem?_eq_some_iff.mp hG).1 (List.getElem?_eq_some_iff.mp hg).1 ⟨u, h1, rfl, p, v0, v1, m0, ms g, e, hp, h2, h4, rfl, n0, fun q => ?_, fun x hx hm => ?_⟩ rfl (fun x hx => ?_) (fun x hx hm => nomatch hm)
  · exact dis p q (by rw [em]; exact List.mem_cons_self)
  · exact dis x hm (by rw [em]; exact List.mem_cons_of_mem _ (List.mem_append_left _ hx))
  · rcases hx with hx | hx
    · rcases List.mem_cons.mp hx with y | y
      · exact ⟨k, _, .inl rfl, hG, rfl, by rw [em, y]; exact List.mem_cons_self⟩
      · rcases List.mem_append.mp y with y | y
        · exact ⟨k, _, .inl rfl, hG, rfl, by rw [em]; exact List.mem_cons_of_mem _ (List.mem_append_left _ y)⟩
        · exact ⟨g, _, .inr rfl, hg, rfl, y⟩
    · exact nomatch hx
theorem Imp.closeP0 (hG : G[k]? = some (some (pn q (ob (tPP K (tF fVal) U) (w, b)))) := by rfl) (hg : G[g]? = some (some (pn w (ob T a))) := by rfl) (hne : k ≠ g := by decide) : Imp G ((G.set k (some (pn q (ob (tPP K T U) (a, b))))).set g none) := fun _ _ _ _ _ st => st.closeP0 hG hg hne
theorem Imp.closeP1 (hG : G[k]? = some (some (pn q (ob (tPP K T (tF fVal)) (a, w)))) := by rfl) (hg : G[g]? = some (some (pn w (ob U b))) := by rfl) (hne : k ≠ g := by decide) : Imp G ((G.set k (some (pn q (ob (tPP K T U) (a, b))))).set g none) := fun _ _ _ _ _ st => st.closeP1 hG hg hne
end
section
variable {ε : Type} {Eh : EH ε} {X : Cx} {W : WX} {G : Gm} {tl : List Nat} {ρ b s : Type} {R : ρ → V → Gm} {Gb : b → Gm} {N : s → Gm} {α β : Type} {T : Th α} {U : Th β} {x : α} {y : β} {q : V}
theorem fs_openP0 {sts : List Stmt} {m : Mg ε (Fl ρ b s)} (k g : Nat) (h : ∀ w, FS X W Eh tl ((G.set k (some (pn q (ob (tPP X.K (tF fVal) U) (w, y))))).set g (some (pn w (ob T x)))) sts m R Gb N) (hG : G[k]? = some (some (pn q (ob (tPP X.K T U) (x, y)))) := by rfl) (hg : G[g]? = some none := by rfl) (hn : X.N.length ≤ g := by exact Nat.le_of_ble_eq_true rfl) : FS X W Eh tl G sts m R Gb N :=
  ⟨fun pins s' σ H D I ⟨B, F, T1⟩ => by
    obtain ⟨w, st⟩ := T1.st.openP0 hG hg (by rw [I.len]; exact hn)
    exact (h w).run pins s' σ H D I ⟨B, F, st, T1.ne, T1.ret, T1.nx, T1.bk, T1.ct, T1.er⟩⟩
theorem fs_openP1 {sts : List Stmt} {m : Mg ε (Fl ρ b s)} (k g : Nat) (h : ∀ w, FS X W Eh tl ((G.set k (some (pn q (ob (tPP X.K T (tF fVal)) (x, w))))).set g (some (pn w (ob U y)))) sts m R Gb N) (hG : G[k]? = some (some (pn q (ob (tPP X.K T U) (x, y)))) := by rfl) (hg : G[g]? = some none := by rfl) (hn : X.N.length ≤ g := by exact Nat.le_of_ble_eq_true rfl) : FS X W Eh tl G sts m R Gb N :=
  ⟨fun pins s' σ H D I ⟨B, F, T1⟩ => by
    obtain ⟨w, st⟩ := T1.st.openP1 hG hg (by rw [I.len]; exact hn)
    exact (h w).run pins s' σ H D I ⟨B, F, st, T1.ne, T1.ret, T1.nx, T1.bk, T1.ct, T1.er⟩⟩
/-- by the number in the index: one road for 0, one for 1 -/
theorem fs_split {sts : List Stmt} {m0 m1 : Mg ε (Fl ρ b s)} {n : Int} (h0 : n = 0 → FS X W Eh tl G sts m0 R Gb N) (h1 : n = 1 → FS X W Eh tl G sts m1 R Gb N) : FS X W Eh tl G sts (M.need (n = 0 ∨ n = 1) (if n = 0 then m0 else m1)) R Gb N := by
  by_cases e0 : n = 0
  · rw [M.need_pos (.inl e0), if_pos e0]
    exact h0 e0
  · by_cases e1 : n = 1
    · rw [M.need_pos (.inr e1), if_neg e0]
      exact h1 e1
    · exact PSs.weak pss_never fun D σ H ⟨B, F, T1⟩ => T1.ne (by unfold M.need; rw [if_neg (fun z => z.elim e0 e1)])
end
/-! ### the opened list is read -/
theorem gives_pp {K : PySem.W.Frag} {w0 w1 q : V} : Gives (pn q (ob (tPP K (tF fVal) (tF fVal)) (w0, w1))) [w0, w1] (bLst K fVal) := fun Y F H v ms ⟨_, p, v0, v1, m0, m1, e, h, ⟨q0, _⟩, ⟨q1, _⟩, _⟩ x y k H0 => by
  have e0 : v0 = w0 := q0
  have e1 : v1 = w1 := q1
  subst e0 e1
  exact ⟨p, _, e, .inl (.inl h), .cons rfl (.cons rfl .nil)⟩
theorem fe_pix {X : Cx} {W : WX} {G : Gm} {o i : Expr} {pos : Pos} {w0 w1 w : V} {n : Int} (ho : FE X W G o (M.ok [w0, w1]) (bLst X.K fVal)) (hi : FE X W G i (M.ok n) fInt.up) (hn : at_ [w0, w1] n = M.ok w) (hs : PlainIx i := by exact fun _ _ => rfl) : FE X W G (.Subscript o i pos) (M.ok ()) (rV w) := by
  have h := fv_ix ix_list ol_ixL ho hi (hs := hs) (pos := pos)
  rw [hn] at h
  exact PE.weak h fun σ H Q ⟨B, tl, F, T⟩ => ⟨B, tl, F, T.st, (fun z => nomatch z), fun a e F' H' g v r => T.ok () rfl F' H' g v (by cases e; exact r), fun e z => nomatch z⟩
/-! ### the display of two new things of one's own -/
def ra2o {α β : Type} (T : Th α) (U : Th β) : Ra (α × (β × Unit)) := ⟨fun a H0 F H vs => ∃ v0 v1 m0 m1, vs = [v0, v1] ∧ T.ow a.1 F H v0 m0 ∧ U.ow a.2.1 F H v1 m1 ∧ (∀ x ∈ m0, x ∉ m1) ∧ ∀ x ∈ m0 ++ m1, H0 x = none ∧ F x = none ∧ NT H x,
  fun ⟨v0, v1, m0, m1, e, h0, h1, d, k⟩ g => ⟨v0, v1, m0, m1, e, T.ost h0 g.f.xs (fun x _ o e => g.h x o e), U.ost h1 g.f.xs (fun x _ o e => g.h x o e), d, fun x hx => ⟨(k x hx).1, g.no x (k x hx).2.1 (k x hx).2.2, g.h.nt (k x hx).2.2⟩⟩,
  fun ⟨v0, v1, m0, m1, e, h0, h1, d, k⟩ z => ⟨v0, v1, m0, m1, e, h0, h1, d, fun x hx => ⟨z.free (k x hx).1, (k x hx).2⟩⟩⟩
section
variable {X : Cx} {W : WX} {G : Gm} {α β : Type} {T : Th α} {U : Th β}
theorem fa_two {e : Expr} {es : List Expr} {m : M α} {ms : M (β × Unit)} (he : FE X W G e m (ro T)) (hr : FA X W G es ms (rac (ro U) ra0)) (hs : starEach (e :: es) X.env = (false, eval e X.env) :: starEach es X.env := by rfl) :
    FA X W G (e :: es) (m.bind fun x => ms.bind fun y => M.ok (x, y)) (ra2o T U) := PA.weak (pa_cons he hr hs) fun σ H Q ⟨B, tl, F, D⟩ =>
  ⟨B, tl, F, D.seq fun x F1 H1 _ g1 D1 v rv => ⟨B, tl, F1, D1.seq fun y F2 H2 _ g2 D2 vs rvs => D2.ok (x, y) rfl F2 H2 (Gr.refl g2.fh) (v :: vs) (by
    obtain ⟨m0, t0, k0⟩ := (ro T).st rv g2
    obtain ⟨m0', t0', k0'⟩ := rv
    obtain ⟨v1, r, e1, ⟨m1, t1, k1⟩, er⟩ := rvs
    have er : r = [] := er
    subst e1 er
    have t2 := T.ost t0' g2.f.xs (fun x _ o e => g2.h x o e)
    refine ⟨v, v1, m0', m1, rfl, t2, t1, fun z hz hz1 => (k0' z hz).2.2.ne (k1 z hz1).1, fun z hz => ?_⟩
    rcases List.mem_append.mp hz with q | q
    · exact ⟨(k0' z q).1, g2.no z (k0' z q).2.1 (k0' z q).2.2, g2.h.nt (k0' z q).2.2⟩
    · exact ⟨g1.h.kn.free (k1 z q).1, (k1 z q).2⟩)⟩⟩
theorem fe_two {es : List Expr} {pos : Pos} {m : M (α × (β × Unit))} (h : FA X W G es m (ra2o T U)) : FE X W G (.List es pos) (m.bind fun a => M.ok (a.1, a.2.1)) (ro (tPP X.K T U)) :=
  PE.weak (pe_lst h) fun σ H Q ⟨B, tl, F, D⟩ => ⟨B, tl, F, D.seq fun a F1 H1 _ g1 D1 vs ⟨v0, v1, m0, m1, e, h0, h1, d, k⟩ => by
    subst e
    refine ⟨(by exact Nat.le_of_ble_eq_true rfl), fun p hp => D1.ok (a.1, a.2.1) rfl F1 _ (Gr.newM g1.fh hp) (.ref p) ?_⟩
    have ne : ∀ x ∈ m0 ++ m1, x ≠ p := fun x hx z => (k x hx).2.2.ne (by rw [z]; exact hp)
    refine ⟨p :: (m0 ++ m1), ⟨p, v0, v1, m0, m1, rfl, upd_same, T.ost h0 (Ex.refl F1).xs (fun x hx o e => ?_), U.ost h1 (Ex.refl F1).xs (fun x hx o e => ?_), rfl, fun z => ne p (List.mem_append_left _ z) rfl, fun z => ne p (List.mem_append_right _ z) rfl, d⟩, fun x hx => ?_⟩
    · rw [upd_ne (ne x (List.mem_append_left _ hx))]; exact e
    · rw [upd_ne (ne x (List.mem_append_right _ hx))]; exact e
    · rcases List.mem_cons.mp hx with z | z
      · subst z
        exact ⟨g1.h.free hp, g1.fh.free hp, NT.up⟩
      · exact ⟨(k x z).1, (k x z).2.1, (k x z).2.2.un (ne x z)⟩⟩
end
/-! ### a value that nobody looks at -/
def fAny : Rf Unit := ⟨fun _ _ _ => True, fun h _ => h⟩
theorem fe_any {X : Cx} {W : WX} {G : Gm} {α : Type} {e : Expr} {m : M α} {R : Rl α} (h : FE X W G e m R) : FE X W G e (m.bind fun _ => M.ok ()) fAny.up := fe_map (fun _ => ()) h fun _ _ _ _ _ _ => trivial
theorem fv_any {X : Cx} {W : WX} {G : Gm} {α : Type} {e : Expr} {a : α} {R : Rl α} (h : FE X W G e (M.ok a) R) : FE X W G e (M.ok ()) fAny.up := fe_any h
/-! ### `a and b`, `x == b`, b changes things -/
section
variable {ε α : Type} {Eh : EH ε} {X : Cx} {W : WX} {G : Gm} {tl : List Nat}
theorem fx_andR {a b : Expr} {pos : Pos} {p : Er → ε} {ma : M Bool} {mb : Mg ε α} {fb : α → Bool} {N1 : α → Gm} (c0 : α) (ha : FE X W G a ma fBool.up) (hb : FX X W Eh tl G b mb (fun c => fBool.r (fb c)) (fun c _ => N1 c)) (h0 : fb c0 = false := by rfl) (hN : N1 c0 = G := by rfl) (hp : Pay Eh G p := by exact pay0 rfl) :
    FX X W Eh tl G (.BoolOp .And [a, b] pos) (ma.bindP p fun x => if x = true then mb else M.ok c0) (fun c => fBool.r (fb c)) (fun c _ => N1 c) :=
  PE.weak (pe_and ha (pe_one hb)) fun σ H Q ⟨B, F, T⟩ => ⟨B, tl, F, T.tellE hp fun x F1 H1 _ g1 T1 v r => ⟨x, r, by
    cases x with
    | true => exact ⟨B, F1, T1⟩
    | false => exact T1.ok c0 rfl (.bl false) F1 H1 (Ex.refl _) (by rw [hN]; exact T1.st) (by show _ = _; rw [h0])⟩⟩
theorem fx_cmpV {δ α' β : Type} {op : CmpOp} {r : R2} {a b : Expr} {pos : Pos} {x : α'} {y : α → β} {g : α → Bool} {A : Rf α'} {Bf : Rf β} {mb : Mg ε α} {N1 : α → Gm} (p : Er → ε) (h : α → δ) (fb : δ → Bool) (N2 : δ → Gm) (ho : OpR X (compareOp op) r) (hl : ∀ c, OpP r A.up Bf.up x (y c) (M.ok (g c)) fBool.up) (ha : FE X W G a (M.ok x) A.up) (hb : FX X W Eh tl G b mb (fun c => Bf.r (y c)) (fun c _ => N1 c)) (hf : ∀ c, fb (h c) = g c := by exact fun _ => rfl) (hN : ∀ c, N2 (h c) = N1 c := by exact fun _ => rfl) (hp : Pay Eh G p := by exact pay0 rfl) (hm : behindInMarks op b = false := by first | exact nomark _ | rfl) :
    FX X W Eh tl G (.Compare a [op] [b] pos) (mb.bind fun c => M.ok (h c)) (fun d => fBool.r (fb d)) (fun d _ => N2 d) :=
  PE.weak (pe_cmpR ho ha hb hm) fun σ H Q ⟨B, F, T⟩ => by
    have T : ToldX X.K W Eh tl G ((M.ok x : M α').bindP p fun _ => mb.bind fun c => M.ok (h c)) (fun d _ => N2 d) (fun d v F' H' => fBool.r (fb d) F' v → Q v H') σ H B F := T
    refine ⟨B, tl, F, T.tellE hp fun x' F1 H1 ex g1 T1 v rv => ?_⟩
    cases M.ok_inj ex
    refine ⟨B, F1, T1.st, fun e => T1.ne (by rw [e]; rfl), fun c e w F2 H2 x2 st2 rw => ?_, fun q e F2 H2 st2 => T1.er q (by rw [e]; rfl) F2 H2 st2⟩
    exact (hl c).run F2 H2 v w H2 Q st2.fh (A.st rv x2) rw (g c) rfl fun z F' H' g3 rz => T1.ok (h c) (by rw [e]; rfl) z F' H' (x2.trans g3.f) (by rw [hN]; exact st2.grow g3) (by rw [hf]; exact rz)
end
end LK
namespace LK
open PySem PySem.Spec PyProof.Rows L2 L2H
/-! ### a def called in a suite with the error itself: its promise speaks of the pin -/
structure FnE (P : Program) (w : World) (K : PySem.W.Frag) (mg : Str → Option Value) (base : Heap) (k : Nat) (f : Addr) (fd : FuncData) (ps : List Str) (sp : Addr × Obj → Sp) : Prop where
  len : ∀ p vs H Q E, sp p vs H Q E → vs.length = ps.length
  run : ∀ (A : Around) (outer : List Env) (s : Shared) (H : Hp) (args : Args) (us : List Value) (vs : List V) (Q : VK) (E : XK) (p : Addr × Obj), RoomH k A → PinOk outer H s p → Env0 P w K mg base A outer s H → BindsTo s fd args (ps.zip us) → Vals vs us → sp p vs H Q E →
    codeAny (model P w) A (.call (.ref f) args) (CR (L2.CX P w) outer P w H s Q E) s
theorem FunD.okE {P : Program} {w : World} {K : PySem.W.Frag} {mg : Str → Option Value} {base : Heap} {x qual : Str} {params : Arguments} {body : List Stmt} {scope : Scope} {f : Addr} {fd : FuncData} {N ps : List Str} {k : Nat} {sp : Addr × Obj → Sp} (F : FunD K x qual params body scope [] [] f fd) (S : FnScope N ps scope) (len : ∀ p vs H Q E, sp p vs H Q E → vs.length = ps.length)
    (hbody : ∀ (cdv : Value) (A : Around) (outer : List Env) (s : Shared) (H : Hp) (vs : List V) (Q : VK) (E : XK) (p : Addr × Obj), RoomH k (A.deeper (envOfC qual scope s.heap.objs.size f cdv)) → sp p vs H Q E →
      ∃ t, PSs (cxH (L2.CX P w) P w K mg base N qual scope f cdv A outer s H E p) body t ∧ t { nx := fun _ H' => Q .non H', rt := Q } (L2.start N vs) H) : FnE P w K mg base (k + 1) f fd ps sp := by
  obtain ⟨oc, od, dV, kV, doc, pm, an, cdv, ct, osl, rfl, lk, hcd, _, _⟩ := F.ex
  refine ⟨len, fun A outer s H args us vs Q E p hr hpin e0 hb r hsp => ?_⟩
  have hl := len _ _ _ _ _ hsp
  have KX : K.In s.heap := e0.mod.kin.keeps fun b o e => (e0.bs b o e).1
  have lim : s.heap.NoLimit := e0.mod.nolimit.keeps fun b o e => (e0.bs b o e).1
  have hkind : ∀ y ∈ ps.zip us, scope.names.lookup y.1 = some .local ∨ (scope.names.lookup y.1 = some .cell ∧ ((cellsFrom (s.heap.objs.size + 1) scope.names []).lookup y.1).isSome = true) := fun ⟨n, v⟩ hy => by
    rcases S.par n (List.of_mem_zip hy).1 with q | q
    · exact .inl q
    · exact .inr ⟨q, PySem.W.cellsFrom_some _ _ _ (.inl q)⟩
  refine codeAny_call_function hr.depth (KX _ _ lk) rfl S.co S.gen rfl (PySem.W.codeRec_of KX hcd) (hb _ _ _ _ ?_)
  refine wpAny_newFunctionEnv_cells S.kind hkind fun env he s1 x => ?_
  subst he
  refine ⟨lim.keeps x.toInCall.keep, codeAny_func ?_⟩
  obtain ⟨t, ht, hq⟩ := hbody cdv A outer s H vs Q E p (hr.deeper _) hsp
  have I : Inv (cxH (L2.CX P w) P w K mg base N qual scope f cdv A outer s H E p) [] (L2.start N vs) H s1 := inv_startH S hpin e0 hl r x
  refine wpAny_mono (ht.run [] s1 (L2.start N vs) H _ I hq) (fun fl s' hs => ?_) fun e s' hs => hs
  have fin : ∀ {σ' : L2.St} {H' : Hp} {v : V} {u : Value}, Inv (cxH (L2.CX P w) P w K mg base N qual scope f cdv A outer s H E p) [] σ' H' s' → RelV v u → Q v H' → CE outer P w H s Q u s' :=
    fun {σ' H' v u} J rv q => ⟨v, H', J.os, J.bare, J.base, J.hok, rv, q⟩
  cases fl with
  | ret u =>
    obtain ⟨v, σ', H', J, rv, q⟩ := hs
    exact fin J rv q
  | next =>
    obtain ⟨σ', H', J, q⟩ := hs
    exact fin (v := V.non) (u := Value.none) J rfl q
  | brk =>
    obtain ⟨_, _, _, q⟩ := hs
    exact False.elim q
  | cont =>
    obtain ⟨_, _, _, q⟩ := hs
    exact False.elim q
section
variable {X : Cx} {k : Nat} {f C : Addr} {fd : FuncData} {ps : List Str} {sp : Addr × Obj → Sp} {E : L2.St → XK} {m : Str} {pos apos : Pos} {o : Expr} {ta : TE}
theorem run_fnE {pins : List (Addr × Obj)} {σ : L2.St} {H : Hp} {s : Shared} {Q : VK} {us : List Value} {vs : List V} {p : Addr × Obj} (F : FnE X.prog X.w X.K X.mg X.base k f fd ps sp) (hr : RoomH k X.A) (hp : p ∈ X.pn) (hb : Binds X.K fd ps []) (hx : PassesAt (L2.CX X.prog X.w) X σ (E σ))
    (I : Inv X pins σ H s) (r : Vals vs us) (h : sp p vs H Q (E σ)) : wpAny (model X.prog X.w) X.A (call (.ref f) us) (EP X pins σ Q) X.xe s := by
  have hl : us.length = ps.length := by rw [← r.length]; exact F.len _ _ _ _ _ h
  have b := hb s us I.kIn (by rw [List.append_nil]; exact hl)
  rw [List.append_nil] at b
  have P1 := I.pin p (List.mem_append_left _ hp)
  have hpin : PinOk X.stack H s p := ⟨P1.1, P1.2.1, fun hm => (List.mem_cons.mp (I.stkSub p.1 hm)).elim P1.2.2.1 P1.2.2.2.1, P1.2.2.2.2⟩
  refine wpAny_call (codeAny_mono (F.run X.A X.stack s H ⟨us, []⟩ us vs Q (E σ) p hr hpin I.env0 b r h) fun r s' hq => ?_)
  cases r with
  | error e => exact hx pins H s e s' I hq
  | ok fl =>
    cases fl with
    | ret u => exact I.after hq
    | next => exact False.elim hq
    | brk => exact False.elim hq
    | cont => exact False.elim hq
end
theorem fnE_def {P : Program} {w : World} {K : PySem.W.Frag} {mg : Str → Option Value} {base : Heap} {x qual : Str} {params : Arguments} {body : List Stmt} {scope : Scope} {f : Addr} {fd : FuncData} (Fd : FunD K x qual params body scope [] [] f fd) {N ps : List Str} (S : FnScope N ps scope) {k : Nat} {ε α ρ s : Type} {par : Addr × Obj → α → (Nat → V) → List Sl} {bm : α → Mg ε (Fl ρ Unit s)} {res : ρ → Sl} {outs : ρ → (Nat → V) → List (V × Sl)} {Eh : (Nat → V) → EH ε} {cls : ε → Er} {outsE : ε → (Nat → V) → List (V × Sl)}
    {R : (Nat → V) → ρ → V → Gm} {Nx : (Nat → V) → s → Gm} (n : Nat) (d : Option (s → ρ)) (ix ixn ixe : List Nat)
    (hd : ∀ f, d = some f → ∀ t Y F H, (res (f t)).r Y F H .non []) (hl : ∀ p a w, (par p a w).length = ps.length) (hn : N.length ≤ ps.length + n) (hps : ps.length ≤ N.length) (hcl : ∀ w e, (Eh w).cls e = cls e)
    (hR : ∀ w r v, Picks (R w r v) ix ((v, res r) :: outs r w)) (hN : ∀ f, d = some f → ∀ w t, Picks (Nx w t) ixn (outs (f t) w)) (hE : ∀ w e, Picks ((Eh w).G e) ixe (outsE e w)) (nd : ix.Nodup ∧ ixn.Nodup ∧ ixe.Nodup)
    (hbody : ∀ (cdv : Value) (A : Around) (outer : List PySem.Env) (s : Shared) (H : Hp) (E : XK) (pp : Addr × Obj), RoomH k (cxH (L2.CX P w) P w K mg base N qual scope f cdv A outer s H E pp).A →
      ∀ a u, FS (cxH (L2.CX P w) P w K mg base N qual scope f cdv A outer s H E pp) (WE0 E) (Eh u) (List.range N.length) (env0 (par pp a u) n) body (bm a) (R u) (fun _ : Unit => []) (Nx u)) :
    FnE P w K mg base (k + 1) f fd ps (fun p => spG K (par p) (fun a => fin d (bm a)) res outs cls outsE) := by
  refine FunD.okE Fd S (fun p vs H Q E ⟨a, F, u, X, ms, x, h, _⟩ => ?_) fun cdv A outer s H vs Q E pp hr ⟨a, F, u, X, ms, x, h, ne, hok, her⟩ => ?_
  · rw [← h.len]; exact hl _ a u
  · have hv : vs.length = ps.length := by rw [← h.len]; exact hl _ a u
    refine ⟨_, hbody cdv A outer s H E pp hr a u, ⟨hid X H, X, F, H, L2.start N vs⟩, F, ?_, ?_, ?_, ?_, ?_, ?_, ?_⟩
    · exact stt_start x h (by rw [hv]; exact hps) (by rw [hl _ a u]; exact hn)
    · intro e
      exact ne (by show fin d (bm a) = none; rw [e]; rfl)
    · intro r e v σ' F' H' st
      obtain ⟨ms', c⟩ := st.cells (hR u r v) nd.1
      exact hok r (by show fin d (bm a) = _; rw [e]; rfl) v F' H' ms' st.g c
    · intro t e σ' F' H' st
      cases d with
      | none => exact absurd (by show fin none (bm a) = none; rw [e]; rfl) ne
      | some f =>
        obtain ⟨ms', c⟩ := st.cells (hN f rfl u t) nd.2.1
        refine hok (f t) (by show fin (some f) (bm a) = _; rw [e]; rfl) .non F' H' (fun j => match j with
          | 0 => []
          | j + 1 => ms' j) st.g ⟨fun j v s e Y' => ?_, fun j hj => ?_, fun j x hx => ?_, fun j x hx j' hj hm => ?_⟩
        · cases j with
          | zero =>
            simp at e
            obtain ⟨rfl, rfl⟩ := e
            exact hd f rfl t _ _ _
          | succ j => exact c.has j v s (by simpa using e) Y'
        · cases j with
          | zero => rfl
          | succ j => exact c.non j (by simpa using hj)
        · cases j with
          | zero => exact nomatch hx
          | succ j => exact c.mem j x hx
        · cases j with
          | zero => exact nomatch hx
          | succ j =>
            cases j' with
            | zero => exact nomatch hm
            | succ j' => exact c.sep j x hx j' (fun q => hj (by rw [q])) hm
    · intro z e
      exact absurd (by show fin d (bm a) = none; rw [e]; rfl) ne
    · intro z e
      exact absurd (by show fin d (bm a) = none; rw [e]; rfl) ne
    · intro e q σ' F' H' st
      obtain ⟨ms', c⟩ := st.cells (hE u e) nd.2.2
      have := her e (by show fin d (bm a) = _; rw [q]; rfl) F' H' ms' st.g c
      rw [← hcl u e] at this
      exact this


def CalE (P : Program) (w : World) (K : PySem.W.Frag) (mg : Str → Option Value) (base : Heap) (x : Str) (ps : List Str) (j : Nat) (sp : Addr × Obj → Sp) : Prop :=
  ∃ f fd, mg x = some (.ref f) ∧ PySem.W.keepIn K (.ref f) = true ∧ Binds K fd ps [] ∧ FnE P w K mg base j f fd ps sp
theorem FnE.mono {P : Program} {w : World} {K : PySem.W.Frag} {mg : Str → Option Value} {base : Heap} {j k : Nat} {f : Addr} {fd : FuncData} {ps : List Str} {sp : Addr × Obj → Sp} (F : FnE P w K mg base j f fd ps sp) (h : j ≤ k) : FnE P w K mg base k f fd ps sp :=
  ⟨F.len, fun A outer s H args us vs Q E p hr => F.run A outer s H args us vs Q E p (hr.mono h)⟩
/-- the caught error as a value: which it is, where it stands -/
def fErr (K : PySem.W.Frag) (p : Addr × Obj) : Rf Er := ⟨fun e _ v => v = .ref p.1 ∧ ExcC K (He.ga K e.name) ∧ Zc (ec K e) none p.2 ∧ ∃ vs, p.2.data = .fields vs, fun h _ => h⟩
section
variable {X : Cx} {W : WX} {G : Gm} {k : Nat}
theorem fe_err {e : Expr} {er : Er} {a : Addr} {oe : Obj} (hc : ExcC X.K (He.ga X.K er.name)) (hz : Zc (ec X.K er) none oe) (hf : ∃ vs, oe.data = .fields vs) (h : FE X W G e (M.ok ()) (fExc a).up) : FE X W G e (M.ok er) (fErr X.K (a, oe)).up :=
  fe_map (fun _ => er) h fun _ H0 F H v r => ⟨r, hc, hz, hf⟩
theorem pe_callE {f : Addr} {fd : FuncData} {ps : List Str} {sp : Addr × Obj → Sp} {E : L2.St → XK} {x : Str} {q pos : Pos} {e : Expr} {es : List Expr} {t : TA} {p : Addr × Obj} (F : FnE X.prog X.w X.K X.mg X.base k f fd ps sp) (hr : RoomH k X.A) (hp : p ∈ X.pn) (hg : Gl X x) (hm : X.mg x = some (.ref f)) (hk : PySem.W.keepIn X.K (.ref f) = true) (hb : Binds X.K fd ps []) (hx : ∀ σ, PassesAt (L2.CX X.prog X.w) X σ (E σ))
    (ha : PA X (e :: es) t) (hdb : (x == ("__debug__" : Str)) = false := by decide) (he : starEach (e :: es) X.env = (false, eval e X.env) :: starEach es X.env := by rfl) (hpl : (backTo pos (starEach es X.env)).any (·.1) = false := by rfl) :
    PE X (.Call (.Name x q) (e :: es) [] pos) (tCallS (sp p) E t) := by
  refine ⟨fun pins s σ H Q I h => ?_⟩
  refine wpAny_Call_Name_kw (ld_glob I hg hm ?_ hdb)
  refine PySem.W.callWith_K (h₀ := X.base) I.ok.mod.kin hk (thn (ha.run pos pins s σ H _ I h) fun us s1 ⟨vs, H1, I1, r, q⟩ => ⟨I1.kIn, ?_⟩) he hpl
  exact run_fnE F hr hp hb (hx σ) I1 r q
theorem fe_callE {α ρ : Type} {j : Nat} {ps : List Str} {x : Str} {p pos : Pos} {e : Expr} {es : List Expr} {par : Addr × Obj → α → List Sl} {mir : α → M ρ} {res : ρ → Sl} {R : Rl ρ} {m : M α} {mm : M ρ} {A : Ra α} {pp : Addr × Obj} (hp0 : pp ∈ X.pn) (hr0 : RoomH k X.A)
    (h : CalE X.prog X.w X.K X.mg X.base x ps j (fun pp => spP X.K (par pp) mir res)) (hj : j ≤ k) (hp : ArgOk A (par pp)) (hr : ResOf res R) (ha : FA X W0 G (e :: es) m A) (hme : m.bind mir = mm := by rfl)
    (hg : Gl X x := by rfl) (hdb : (x == ("__debug__" : Str)) = false := by decide) (he : starEach (e :: es) X.env = (false, eval e X.env) :: starEach es X.env := by rfl) (hpl : (backTo pos (starEach es X.env)).any (·.1) = false := by rfl) :
    FE X W0 G (.Call (.Name x p) (e :: es) [] pos) mm R := by
  obtain ⟨f, fd, hm, hk, hb, Fk⟩ := h
  rw [← hme]
  exact PE.weak (pe_callE (E := WE W0) (Fk.mono hj) hr0 hp0 hg hm hk hb (fun σ => passAt tk0 σ) ha hdb he hpl) fun σ H Q ⟨B, tl, F, D⟩ => ⟨B, tl, F, D.seq fun a F1 H1 _ g1 D1 vs rv =>
    ask_pure hp hr g1.h.kn D1 rv⟩
theorem fv_callE {α ρ : Type} {j : Nat} {ps : List Str} {x : Str} {p pos : Pos} {e : Expr} {es : List Expr} {par : Addr × Obj → α → List Sl} {mir : α → M ρ} {res : ρ → Sl} {R : Rl ρ} {a : α} {mm : M ρ} {A : Ra α} {pp : Addr × Obj} (hp0 : pp ∈ X.pn) (hr0 : RoomH k X.A)
    (h : CalE X.prog X.w X.K X.mg X.base x ps j (fun pp => spP X.K (par pp) mir res)) (hj : j ≤ k) (hp : ArgOk A (par pp)) (hr : ResOf res R) (ha : FA X W0 G (e :: es) (M.ok a) A) (hme : mir a = mm := by rfl)
    (hg : Gl X x := by rfl) (hdb : (x == ("__debug__" : Str)) = false := by decide) (he : starEach (e :: es) X.env = (false, eval e X.env) :: starEach es X.env := by rfl) (hpl : (backTo pos (starEach es X.env)).any (·.1) = false := by rfl) :
    FE X W0 G (.Call (.Name x p) (e :: es) [] pos) mm R := fe_callE hp0 hr0 h hj hp hr ha hme hg hdb he hpl
/-! isinstance of it -/
def rIsP (K : PySem.W.Frag) (p : Addr × Obj) : List V → Hp → VK → Prop := fun xs H Q => ∃ D, ExcC K D ∧ Zc (.ref D) none p.2 ∧ (∃ vs, p.2.data = .fields vs) ∧ rIsE K D p.1 xs H Q
def rIsPL (K : PySem.W.Frag) (p : Addr × Obj) : List V → Hp → VK → Prop := fun xs H Q => ∃ D, ExcC K D ∧ Zc (.ref D) none p.2 ∧ (∃ vs, p.2.data = .fields vs) ∧ rIsEL K D p.1 xs H Q
theorem call_isP {p : Addr × Obj} (hp : p ∈ X.pn) : CallR X (.builtin "isinstance") (rIsP X.K p) := by
  intro pins s σ H xs us Q I r ⟨D, C, hz, hf, h⟩
  obtain ⟨c, cv, b, rfl, hcv, e, q⟩ := h
  cases r with
  | cons rx rr =>
    cases rr with
    | cons rt rr =>
      cases rr
      cases rx
      have ec := hcv _ rt
      subst ec
      obtain ⟨hget, _⟩ := I.pin p (List.mem_append_left _ hp)
      obtain ⟨vs, hv⟩ := hf
      have J : PySem.W.InstAt s.heap p.1 p.2 D none := by
        obtain ⟨pa, oc, od, oda, osl⟩ := p
        obtain ⟨h1, h2⟩ := hz
        dsimp only at h1 h2 hv
        subst h1 h2 hv
        exact ⟨hget, rfl, rfl, trivial⟩
      exact PySem.W.kia_one (PySem.W.handS_kitx_exc C.hg C.hk C.hs C.hd C.ha C.hn C.ht C.hm) I.kIn J e (fun z => nomatch z) fun tk => ⟨.bl b, H, I.kept (t' := tk) fun _ _ z => z, rfl, q⟩
theorem call_isPL {p : Addr × Obj} (hp : p ∈ X.pn) : CallR X (.builtin "isinstance") (rIsPL X.K p) := by
  intro pins s σ H xs us Q I r ⟨D, C, hz, hf, h⟩
  obtain ⟨q', ys, b, rfl, hq, e, q⟩ := h
  obtain ⟨u1, u2, rfl, rx, rt⟩ := vals2 r
  cases rx
  cases rt
  obtain ⟨its, rv, ⟨o, g1, g2, n, g3⟩, hz'⟩ := I.tuple hq
  obtain rfl := vals_refs rv
  obtain ⟨hget, _⟩ := I.pin p (List.mem_append_left _ hp)
  obtain ⟨vs, hv⟩ := hf
  have J : PySem.W.InstAt s.heap p.1 p.2 D none := by
    obtain ⟨pa, oc, od, oda, osl⟩ := p
    obtain ⟨h1, h2⟩ := hz
    dsimp only at h1 h2 hv
    subst h1 h2 hv
    exact ⟨hget, rfl, rfl, trivial⟩
  obtain ⟨oc, od, oda, osl⟩ := o
  dsimp only at g2 g3
  subst g2 g3
  exact PySem.W.kia_tup (PySem.W.handS_kitx_exc C.hg C.hk C.hs C.hd C.ha C.hn C.ht C.hm) I.kIn J g1 e (fun z => nomatch z) fun tk => ⟨.bl b, H, I.kept (t' := tk) fun _ _ z => z, rfl, q⟩
theorem cl_isP1 {K : PySem.W.Frag} {p : Addr × Obj} {e : Er} {y : Str} {tab : List (Er × Bool)} (h : KT K (.ref (He.ga K y)) tab) : CallP (rIsP K p) (a2 (fErr K p).up (fCls K y).up) (e, (), ()) (exI tab e) fBool.up :=
  ⟨fun e q => exI_ne q, fun F H vs H0 Q x ⟨v, r, e1, ⟨h1, hC, hz, hf⟩, ⟨w, r2, e2, h2, h3⟩⟩ c hc k => by
    cases h3
    have h2 : w = .ref (He.ga K y) := h2
    subst e1 e2 h1 h2
    exact ⟨_, hC, hz, hf, .ref (He.ga K y), .ref (He.ga K y), c, rfl, fun u hu => hu, h e c (exI_ok hc), k _ F H (Gr.refl x) rfl⟩⟩
theorem cl_isPT {K : PySem.W.Frag} {p : Addr × Obj} {e : Er} {n : String} {tab : List (Er × Bool)} (h : KT K (.type n) tab) : CallP (rIsP K p) (a2 (fErr K p).up (fTy n).up) (e, (), ()) (exI tab e) fBool.up :=
  ⟨fun e q => exI_ne q, fun F H vs H0 Q x ⟨v, r, e1, ⟨h1, hC, hz, hf⟩, ⟨w, r2, e2, h2, h3⟩⟩ c hc k => by
    cases h3
    have h2 : w = .ty n := h2
    subst e1 e2 h1 h2
    exact ⟨_, hC, hz, hf, .ty n, .type n, c, rfl, fun u hu => hu, h e c (exI_ok hc), k _ F H (Gr.refl x) rfl⟩⟩
theorem cl_isPL {K : PySem.W.Frag} {p : Addr × Obj} {e : Er} {β : Type} {T : Tv β} {u : β} {ys : List Str} {tab : List (Er × Bool)} (h : KTs K (ys.map fun y => .ref (He.ga K y)) tab) (hT : ∀ F vs, T.r u F vs → vs = ys.map fun y => .ref (He.ga K y)) :
    CallP (rIsPL K p) (a2 (fErr K p).up (fTup K T).up) (e, u, ()) (exI tab e) fBool.up :=
  ⟨fun e q => exI_ne q, fun F H vs H0 Q x ⟨v, r, e1, ⟨h1, hC, hz, hf⟩, ⟨w, r2, e2, ⟨q, ws, e3, h4, h5⟩, h3⟩⟩ c hc k => by
    cases h3
    subst e1 e2 h1 e3
    have h6 := hT F ws h5
    subst h6
    exact ⟨_, hC, hz, hf, q, ys.map fun y => He.ga K y, c, rfl, by rw [List.map_map]; exact sqT_ex x h4, by rw [List.map_map]; exact h e c (exI_ok hc), k _ F H (Gr.refl x) rfl⟩⟩
end
/-! ### "none" or a thing of one's own -/
def tON {α : Type} (T : Th α) : Th (Option α) :=
  ⟨fun o F X v => match o with
    | none => v = .non
    | some a => T.rd a F X v ∧ v ≠ .non,
   fun o F H v ms => match o with
    | none => v = .non ∧ ms = []
    | some a => T.ow a F H v ms ∧ v ≠ .non,
   fun {o} => match o with
    | none => fun h _ _ => h
    | some a => fun h x y => ⟨T.rst h.1 x y, h.2⟩,
   fun {o} => match o with
    | none => fun h _ _ => h
    | some a => fun h x k => ⟨T.ost h.1 x k, h.2⟩,
   fun {o} => match o with
    | none => fun h _ _ => h.1
    | some a => fun h x y => ⟨T.ord h.1 x y, h.2⟩⟩
/-- things that are no None -/
def NoO {α : Type} (T : Th α) : Prop := ∀ a F H v ms, T.ow a F H v ms → v ≠ .non
theorem no_list {K : PySem.W.Frag} {α : Type} {A : Rf α} : NoO (tL K A) := fun a F H v ms ⟨p, vs, e, _⟩ h => by subst e; cases h
theorem no_dict {κ α : Type} {T : KY κ} {A : Rf α} : NoO (tD T A) := fun a F H v ms ⟨p, vs, e, _⟩ h => by subst e; cases h
section
variable {X : Cx} {W : WX} {G : Gm} {k : Nat} {α : Type} {T : Th α}
theorem fe_optNO {e : Expr} {u : Unit} (h : FE X W G e (M.ok u) fUnit.up) : FE X W G e (M.ok (none : Option α)) (ro (tON T)) := fe_map (fun _ => none) h fun a H0 F H v r => ⟨[], ⟨r, rfl⟩, fun x hx => nomatch hx⟩
theorem fe_optSO {e : Expr} {m : M α} (n : NoO T) (h : FE X W G e m (ro T)) : FE X W G e (m.bind fun a => M.ok (some a)) (ro (tON T)) := fe_map some h fun a H0 F H v ⟨ms, r, k⟩ => ⟨ms, ⟨r, n _ _ _ _ _ r⟩, k⟩
theorem fe_freezeO {e : Expr} {m : M (Option α)} (h : FE X W G e m (ro (tON T))) : FE X W G e m (fOpt (fz T)).up :=
  fe_imp (fe_freeze h) fun a H0 F H v x r => by
    cases a with
    | none => exact r
    | some a => exact r
end
section
variable {ε : Type} {Eh : EH ε} {X : Cx} {W : WX} {G : Gm} {tl : List Nat} {ρ b s : Type} {R : ρ → V → Gm} {Gb : b → Gm} {N : s → Gm} {α : Type}
/-- a place told otherwise -/
theorem Stt.retell {B : Bs} {F H : Hp} {σ : L2.St} {g : Nat} {s1 s2 : Sl} (st : Stt B tl G F H σ) (hg : G[g]? = some (some s1)) (ho : s2.own = s1.own) (h : ∀ Y F H v ms, s1.r Y F H v ms → s2.r Y F H v ms) : Stt B tl (G.set g (some s2)) F H σ := by
  obtain ⟨ms, z⟩ := st.sl
  have hl : g < G.length := (List.getElem?_eq_some_iff.mp hg).1
  have get : ∀ {i : Nat} {t : Sl}, (G.set g (some s2))[i]? = some (some t) → ∃ t0 : Sl, G[i]? = some (some t0) ∧ t.own = t0.own ∧ ∀ Y F H v ms, t0.r Y F H v ms → t.r Y F H v ms := fun {i t} e => by
    by_cases q : i = g
    · subst q
      rw [List.getElem?_set_self hl] at e
      cases e
      exact ⟨s1, hg, ho, h⟩
    · rw [List.getElem?_set_ne (Ne.symm q)] at e
      exact ⟨t, e, rfl, fun _ _ _ _ _ z => z⟩
  refine ⟨st.g, st.bh, st.fr, st.ls, by rw [List.length_set]; exact st.len, ms, ⟨fun i t e => ?_, fun i e => ?_, z.mem, fun i t e o => ?_, fun i t e o => ?_⟩⟩
  · obtain ⟨t0, h1, h2, h3⟩ := get e
    obtain ⟨v, h4, h5⟩ := z.has i t0 h1
    exact ⟨v, h4, h3 _ _ _ _ _ h5⟩
  · by_cases q : i = g
    · subst q
      exact absurd (List.getElem?_set_self hl) (e s2)
    · exact z.non i fun t q' => e t (by rw [List.getElem?_set_ne (Ne.symm q)]; exact q')
  · obtain ⟨t0, h1, h2, h3⟩ := get e
    exact z.own i t0 h1 (by rw [← h2]; exact o)
  · obtain ⟨t0, h1, h2, h3⟩ := get e
    exact z.sep i t0 h1 (by rw [← h2]; exact o)
/-- return x, x one's own thing, the answer none or one -/
theorem fs_retMO {T : Th α} (i g : Nat) {e : Expr} {pos : Pos} {q : V} {a : α} {r : ρ} {p : Er → ε} (n : NoO T) (h : FE X W G e (M.ok ()) (rV q)) (hG : G[i]? = some (some (pn q (ob T a)))) (hR : Imp ((G.set g (some (pn q (ob (tON T) (some a))))).set i none) (R r q)) (hg : X.N.length ≤ g := by exact Nat.le_of_ble_eq_true rfl) (hl : g < G.length := by exact Nat.le_of_ble_eq_true rfl) (hne : i ≠ g := by decide) (hp : Pay Eh G p := by exact pay0 rfl) :
    FS X W Eh tl G [.Return (some e) pos] (M.ok (Fl.ret (b := b) (s := s) r)) R Gb N := by
  refine ⟨fun pins s' σ H D I ⟨B, F, T'⟩ => (pss_one (ps_ret h)).run pins s' σ H D I ?_⟩
  have T1 : ToldS X.K W Eh tl G ((M.ok () : M Unit).bindP p fun _ => M.ok (Fl.ret (b := b) (s := s) r)) R Gb N D σ H B F := T'
  refine ⟨B, tl, F, T1.tellE hp fun a' F1 H1 e g1 v rv => ?_⟩
  cases (show v = q from rv)
  have st1 := ((T'.st.grow g1).retell (s2 := pn q (ob (tON T) (some a))) hG rfl fun Y F H v ms z => ⟨z.1, z.2, n _ _ _ _ _ z.2⟩)
  have hil : i < G.length := (List.getElem?_eq_some_iff.mp hG).1
  have st2 := st1.shift (List.getElem?_set_self hil) (by rw [I.len]; exact hg) (by rw [List.length_set]; exact hl) hne
  have eq : ((G.set i (some (pn q (ob (tON T) (some a))))).set g (some (pn q (ob (tON T) (some a))))).set i none = (G.set g (some (pn q (ob (tON T) (some a))))).set i none := by
    rw [List.set_comm _ _ hne, List.set_set]
  rw [eq] at st2
  exact T'.ret r rfl _ σ F1 H1 (hR _ _ _ _ _ st2)
end
/-! ### what is never reached; a name that is none or a value -/
section
variable {ε : Type} {Eh : EH ε} {X : Cx} {W : WX} {G : Gm} {tl : List Nat} {ρ b s : Type} {R : ρ → V → Gm} {Gb : b → Gm} {N : s → Gm} {α : Type}
theorem fe_never {e : Expr} {R : Rl α} : FE X W G e (none : M α) R := ⟨fun pins s σ H Q I ⟨B, tl, F, D⟩ => absurd rfl D.ne⟩
theorem ft_never {e : Expr} : FT X W G e (none : M Bool) := ⟨fun pins s σ H Q I ⟨B, tl, F, D⟩ => absurd rfl D.ne⟩
theorem fs_never {sts : List Stmt} : FS X W Eh tl G sts (none : Mg ε (Fl ρ b s)) R Gb N := PSs.weak pss_never fun D σ H ⟨B, F, T⟩ => T.ne rfl
theorem ps_never {st : Stmt} : PS X st (tFS X.K W Eh tl G (none : Mg ε (Fl ρ b s)) R Gb N) := ⟨fun pins s σ H D I ⟨B, F, T⟩ => absurd rfl T.ne⟩
def optC {β : Type} (o : Option α) (m0 : Mg ε β) (m1 : α → Mg ε β) : Mg ε β := match o with
  | none => m0
  | some a => m1 a
theorem fs_optC (i : Nat) {sts : List Stmt} {A : Rf α} {o : Option α} {m0 : Mg ε (Fl ρ b s)} {m1 : α → Mg ε (Fl ρ b s)} (hG : G[i]? = some (some (sv (fOpt A) o))) (h0 : FS X W Eh tl (G.set i (some (sv fUnit ()))) sts m0 R Gb N) (h1 : ∀ a, FS X W Eh tl (G.set i (some (sv A a))) sts (m1 a) R Gb N) :
    FS X W Eh tl G sts (optC o m0 m1) R Gb N := by
  cases o with
  | none => exact fs_imp (fun B tl F H σ st => st.retell (s2 := sv fUnit ()) hG rfl fun Y F H v ms z => z) h0
  | some a => exact fs_imp (fun B tl F H σ st => st.retell (s2 := sv A a) hG rfl fun Y F H v ms z => ⟨z.1.1, z.2⟩) (h1 a)
theorem ol_isNV {α : Type} {A : Rf α} (n : NoN A) {a : α} {u : Unit} : OpP (fun x y H Q => y = .non ∧ Q (.bl (decide (x = .non))) H) A.up fUnit.up a u (M.ok false) fBool.up := opp fun F H v w Q x ha hb k => by
  refine ⟨hb, ?_⟩
  rw [decide_eq_false (n _ _ _ ha)]
  exact k _ rfl
theorem ol_notNV {α : Type} {A : Rf α} (n : NoN A) {a : α} {u : Unit} : OpP (fun x y H Q => y = .non ∧ Q (.bl (!decide (x = .non))) H) A.up fUnit.up a u (M.ok true) fBool.up := opp fun F H v w Q x ha hb k => by
  refine ⟨hb, ?_⟩
  rw [decide_eq_false (n _ _ _ ha)]
  exact k _ rfl
end
end LK
namespace LK
open PySem L2
/-! ### effects within and / ==, at any place -/
theorem pe_exC {X : Cx} {e : Expr} {ι : Type} {t : ι → TE} (h : ∀ c, PE X e (t c)) : PE X e (fun σ H Q => ∃ c, t c σ H Q) := ⟨fun pins s σ H Q I ⟨c, q⟩ => (h c).run pins s σ H Q I q⟩
section
variable {ε : Type} {Eh : EH ε} {X : Cx} {W : WX} {G : Gm} {tl : List Nat} {α δ γ κ : Type}
theorem ToldX.sub {K : PySem.W.Frag} {ma : Mg ε α} {f : α → Mg ε δ} {N : δ → V → Gm} {P : δ → V → Hp → Hp → Prop} {σ : St} {H H2 F F2 : Hp} {B : Bs} {G2 : Gm} {c : α} (T : ToldX K W Eh tl G (ma.bind f) N P σ H B F) (e : ma = M.ok c) (x : Ex F F2) (st : Stt B tl G2 F2 H2 σ) : ToldX K W Eh tl G2 (f c) N P σ H2 B F2 := by
  subst e
  exact ⟨st, T.ne, fun a e v F' H' x' => T.ok a e v F' H' (x.trans x'), T.er⟩
theorem fx_pureC {p : Er → ε} {a : Expr} {ma : M γ} {A : Rf γ} (c0 : κ) (N2 : γ × κ → Gm) (ha : FE X W G a ma A.up) (hN : ∀ x, N2 (x, c0) = G := by exact fun _ => rfl) (hp : Pay Eh G p := by exact pay0 rfl) :
    FX X W Eh tl G a (ma.bindP p fun x => M.ok (x, c0)) (fun d => A.r d.1) (fun d _ => N2 d) :=
  PE.weak ha fun σ H Q ⟨B, F, T⟩ => ⟨B, tl, F, T.tellE hp fun x F1 H1 _ g1 T1 v rv => T1.ok (x, c0) rfl v F1 H1 (Ex.refl _) (by rw [hN]; exact T1.st) rv⟩
theorem fx_norm {a : Expr} {m : Mg ε α} {A : Rf γ} {y : α → γ} {N1 : α → Gm} (h : α → δ) (fb : δ → γ) (N2 : δ → Gm) (ha : FX X W Eh tl G a m (fun c => A.r (y c)) (fun c _ => N1 c)) (hf : ∀ c, fb (h c) = y c := by exact fun _ => rfl) (hN : ∀ c, N2 (h c) = N1 c := by exact fun _ => rfl) :
    FX X W Eh tl G a (m.bind fun c => M.ok (h c)) (fun d => A.r (fb d)) (fun d _ => N2 d) :=
  PE.weak ha fun σ H Q ⟨B, F, T⟩ => ⟨B, F, T.st, fun e => T.ne (by rw [e]; rfl), fun c e w F2 H2 x2 st2 rw' => (T.sub e x2 st2).ok (h c) rfl w F2 H2 (Ex.refl _) (by rw [hN]; exact st2) (by show A.r (fb (h c)) F2 w; rw [hf]; exact rw'),
    fun q e F2 H2 st2 => T.er q (by rw [e]; rfl) F2 H2 st2⟩
theorem fx_andL {a b : Expr} {rest : List Expr} {pos : Pos} {ma : Mg ε α} {fa : α → Bool} {N1 : α → Gm} {mb : α → Mg ε δ} (h : α → δ) {fb : δ → Bool} {N2 : δ → Gm} (ha : FX X W Eh tl G a ma (fun c => fBool.r (fa c)) (fun c _ => N1 c)) (hb : ∀ c, FX X W Eh tl (N1 c) (.BoolOp .And (b :: rest) pos) (mb c) (fun d => fBool.r (fb d)) (fun d _ => N2 d))
    (h0 : ∀ c, fb (h c) = false := by exact fun _ => rfl) (hN : ∀ c, N2 (h c) = N1 c := by exact fun _ => rfl) :
    FX X W Eh tl G (.BoolOp .And (a :: b :: rest) pos) (ma.bind fun c => if fa c = true then mb c else M.ok (h c)) (fun d => fBool.r (fb d)) (fun d _ => N2 d) :=
  PE.weak (pe_and ha (pe_exC hb)) fun σ H Q ⟨B, F, T⟩ => ⟨B, F, T.st, fun e => T.ne (by rw [e]; rfl), fun c e w F2 H2 x2 st2 rw' => ⟨fa c, rw', by
    have T1 := T.sub e x2 st2
    cases q : fa c with
    | true =>
      rw [q] at T1
      exact ⟨c, B, F2, T1⟩
    | false =>
      rw [q] at T1
      exact T1.ok (h c) rfl (.bl false) F2 H2 (Ex.refl _) (by rw [hN]; exact st2) (by show _ = _; rw [h0])⟩, fun q e F2 H2 st2 => T.er q (by rw [e]; rfl) F2 H2 st2⟩
theorem fx_one {op : BoolOp} {a : Expr} {pos : Pos} {m : Mg ε α} {R : α → Hp → V → Prop} {N : α → V → Gm} (h : FX X W Eh tl G a m R N) : FX X W Eh tl G (.BoolOp op [a] pos) m R N := pe_one h
theorem fx_cmpL {β : Type} {op : CmpOp} {r : R2} {a b : Expr} {pos : Pos} {x : β} {y : α → γ} {g : α → Bool} {A : Rf γ} {Bf : Rf β} {ma : Mg ε α} {N1 : α → Gm} (h : α → δ) (fb : δ → Bool) (N2 : δ → Gm) (ho : OpR X (compareOp op) r) (hl : ∀ c, OpP r A.up Bf.up (y c) x (M.ok (g c)) fBool.up)
    (ha : FX X W Eh tl G a ma (fun c => A.r (y c)) (fun c _ => N1 c)) (hb : ∀ c, FE X W (N1 c) b (M.ok x) Bf.up) (hf : ∀ c, fb (h c) = g c := by exact fun _ => rfl) (hN : ∀ c, N2 (h c) = N1 c := by exact fun _ => rfl) (hm : behindInMarks op b = false := by first | exact nomark _ | rfl) :
    FX X W Eh tl G (.Compare a [op] [b] pos) (ma.bind fun c => M.ok (h c)) (fun d => fBool.r (fb d)) (fun d _ => N2 d) :=
  PE.weak (pe_cmpR ho ha (pe_exC hb) hm) fun σ H Q ⟨B, F, T⟩ => ⟨B, F, T.st, fun e => T.ne (by rw [e]; rfl), fun c e w F2 H2 x2 st2 rw' => by
    have T1 := T.sub e x2 st2
    refine ⟨c, B, tl, F2, st2, (fun z => nomatch z), fun x' ex F3 H3 g3 v rv => ?_, fun q e => nomatch e⟩
    cases M.ok_inj ex
    exact (hl c).run F3 H3 w v H2 Q g3.fh (A.sx rw' g3.f.xs) rv (g c) rfl fun z F' H' g4 rz => T1.ok (h c) rfl z F' H' (g3.f.trans g4.f) (by rw [hN]; exact (st2.grow g3).grow g4) (by show fBool.r (fb (h c)) F' z; rw [hf]; exact rz), fun q e F2 H2 st2 => T.er q (by rw [e]; rfl) F2 H2 st2⟩
end
end LK
namespace LK
open PySem PySem.Spec PyProof.Rows L2 L2H
/-! ### calls in a suite, and in the defs called there -/
section
variable {ε : Type} {Eh : EH ε} {X : Cx} {W : WX} {tl tl' : List Nat} {ρ b s : Type} {R : ρ → V → Gm} {Gs : s → Gm}
theorem ps_whlH {c : Expr} {pos : Pos} {body : List Stmt} {G : Gm} {p : Er → s → ε} {mc : s → M Bool} {g : s → Mg ε (Fl ρ s s)} {x0 : s} {Gb : b → Gm} (hpo : PassesOwn (model X.prog X.w) X.A X.env X.xe) (fuel : Nat) (hc : ∀ x, FT X W (Gs x) c (mc x)) (hG : Imp G (Gs x0)) (hb : ∀ x, FS X W Eh tl' (Gs x) body (g x) R Gs Gs) (ht : ∀ i ∈ tl', i ∈ tl := by decide) (hp : ∀ x, Pay Eh (Gs x) (fun e => p e x) := by exact fun _ => pay0 rfl) :
    PS X (.While c body [] pos) (tFS X.K W Eh tl G (whileL p mc g fuel x0) R Gb Gs) :=
  PS.weak (ps_while hpo (pt_ex hc) (pss_ex hb)) fun D σ H ⟨B, F, T⟩ => by
    obtain ⟨Xl, hX, st1⟩ := (hG _ _ _ _ _ T.st).rebase (tl' := tl')
    have lc1 := T.lc hX ht
    generalize (⟨B.Hd, Xl, F, H, σ⟩ : Bs) = B' at st1 lc1
    refine ⟨fun m σ H => ∃ F x, Stt B' tl' (Gs x) F H σ ∧ Lc X.K W Eh tl' (whileL (b := b) p mc g m x) R Gs D B', ⟨fuel, F, x0, st1, lc1⟩, ?_⟩
    rintro m σ H ⟨F, x, st, lc⟩
    cases m with
    | zero => exact absurd rfl lc.ne
    | succ m =>
      have l2 : Lc X.K W Eh tl' ((mc x).bindP (fun e => p e x) fun t => if t = true then (g x).bind fun o => match o with
        | .ret v => M.ok (.ret v)
        | .nx y => whileL (b := b) p mc g m y
        | .ct y => whileL (b := b) p mc g m y
        | .bk y => M.ok (.nx y)
        else M.ok (.nx x)) R Gs D B' := lc
      refine ⟨x, B', tl', F, st, ?_, fun t et F1 H1 g1 => ?_, ?_⟩
      · intro q
        exact l2.ne (by rw [q]; rfl)
      · rw [et] at l2
        have st2 := st.grow g1
        cases t with
        | false => exact l2.nx x rfl σ F1 H1 st2
        | true =>
          have l3 : Lc X.K W Eh tl' ((g x).bind fun o => match o with
            | .ret v => M.ok (.ret v)
            | .nx y => whileL (b := b) p mc g m y
            | .ct y => whileL (b := b) p mc g m y
            | .bk y => M.ok (.nx y)) R Gs D B' := l2
          refine ⟨fun σ' H' => ∃ F y, Stt B' tl' (Gs y) F H' σ' ∧ Lc X.K W Eh tl' (whileL (b := b) p mc g m y) R Gs D B', fun σ' H' h => ⟨m, Nat.lt_succ_self m, h⟩, x, B', F1, st2, ?_, ?_, ?_, ?_, ?_, ?_⟩
          · intro q
            exact l3.ne (by rw [q]; rfl)
          · intro r q v σ' F' H' st'
            exact l3.ret r (by rw [q]; rfl) v σ' F' H' st'
          · intro y q σ' F' H' st'
            rw [q] at l3
            exact ⟨F', y, st', l3⟩
          · intro y q σ' F' H' st'
            exact l3.nx y (by rw [q]; rfl) σ' F' H' st'
          · intro y q σ' F' H' st'
            rw [q] at l3
            exact ⟨F', y, st', l3⟩
          · intro er q σ' F' H' st'
            exact l3.er er (by rw [q]; rfl) σ' F' H' st'
      · rintro er q F' H' gg
        have := l2.er (p er x) (by rw [q]; rfl) σ F' H' ((hp x).i er _ _ _ _ _ (st.grow gg))
        rw [(hp x).c er] at this
        exact this
end
section
variable {X : Cx} {W : WX} {G : Gm} {k : Nat}
theorem fe_callEW {α ρ : Type} {j : Nat} {ps : List Str} {x : Str} {p pos : Pos} {e : Expr} {es : List Expr} {par : Addr × Obj → α → List Sl} {mir : α → M ρ} {res : ρ → Sl} {R : Rl ρ} {m : M α} {mm : M ρ} {A : Ra α} {pp : Addr × Obj} (tk : Takes X W) (hp0 : pp ∈ X.pn) (hr0 : RoomH k X.A)
    (h : CalE X.prog X.w X.K X.mg X.base x ps j (fun pp => spP X.K (par pp) mir res)) (hj : j ≤ k) (hp : ArgOk A (par pp)) (hr : ResOf res R) (ha : FA X W G (e :: es) m A) (hme : m.bind mir = mm := by rfl)
    (hg : Gl X x := by rfl) (hdb : (x == ("__debug__" : Str)) = false := by decide) (he : starEach (e :: es) X.env = (false, eval e X.env) :: starEach es X.env := by rfl) (hpl : (backTo pos (starEach es X.env)).any (·.1) = false := by rfl) :
    FE X W G (.Call (.Name x p) (e :: es) [] pos) mm R := by
  obtain ⟨f, fd, hm, hk, hb, Fk⟩ := h
  rw [← hme]
  exact PE.weak (pe_callE (E := WE W) (Fk.mono hj) hr0 hp0 hg hm hk hb (fun σ => passAt tk σ) ha hdb he hpl) fun σ H Q ⟨B, tl, F, D⟩ => ⟨B, tl, F, D.seq fun a F1 H1 _ g1 D1 vs rv =>
    ask_pure hp hr g1.h.kn D1 rv⟩
theorem fv_callEW {α ρ : Type} {j : Nat} {ps : List Str} {x : Str} {p pos : Pos} {e : Expr} {es : List Expr} {par : Addr × Obj → α → List Sl} {mir : α → M ρ} {res : ρ → Sl} {R : Rl ρ} {a : α} {mm : M ρ} {A : Ra α} {pp : Addr × Obj} (tk : Takes X W) (hp0 : pp ∈ X.pn) (hr0 : RoomH k X.A)
    (h : CalE X.prog X.w X.K X.mg X.base x ps j (fun pp => spP X.K (par pp) mir res)) (hj : j ≤ k) (hp : ArgOk A (par pp)) (hr : ResOf res R) (ha : FA X W G (e :: es) (M.ok a) A) (hme : mir a = mm := by rfl)
    (hg : Gl X x := by rfl) (hdb : (x == ("__debug__" : Str)) = false := by decide) (he : starEach (e :: es) X.env = (false, eval e X.env) :: starEach es X.env := by rfl) (hpl : (backTo pos (starEach es X.env)).any (·.1) = false := by rfl) :
    FE X W G (.Call (.Name x p) (e :: es) [] pos) mm R := fe_callEW tk hp0 hr0 h hj hp hr ha hme hg hdb he hpl
theorem pe_methSH {f C : Addr} {fd : FuncData} {ps : List Str} {sp : Sp} {E : L2.St → XK} {m : Str} {apos pos : Pos} {o e : Expr} {es : List Expr} {ta : TE} {t : TA} {pl : Sem Bool} {p : Addr × Obj} (he : PE X o ta) (c : Cls X.K C) (hm : Meth X.K C m f) (F : FnS X.prog X.w X.K X.mg X.base k f fd ps sp) (hr : RoomH k X.A) (hp : p ∈ X.pn) (hb : Binds X.K fd ps []) (hx : ∀ σ, PassesAt (L2.CX X.prog X.w) X σ (E σ)) (ha : PA X (e :: es) t)
    (hst : starEach (e :: es) X.env = (false, eval e X.env) :: starEach es X.env := by rfl) (hpl : (backTo pos (starEach es X.env)).any (·.1) = false := by rfl)
    (ht : eval (.Call (.Attribute o m apos) (e :: es) [] pos) X.env = (do
      let ov ← eval o X.env
      standAt apos.atName
      let (f, first) ← holding [ov] (getMethod ov m pl)
      callWith pos f first (backTo pos (starEach (e :: es) X.env)) (backToKw pos (keywordEach [] X.env))) := by rfl) :
    PE X (.Call (.Attribute o m apos) (e :: es) [] pos) (tMethS C m sp E ta t) := by
  refine ⟨fun pins s σ H Q I h => ?_⟩
  refine PySem.W.methodCall_KW (pl := pl) (thn (he.run pins s σ H _ I h) fun u s1 ⟨x, H1, I1, rx, a, dx, fs, ex, ea, l, q⟩ => ?_) ht
  subst ex
  obtain rfl : u = Value.ref a := rx
  refine getmeth_ok I1 ea c hm l ?_
  refine PySem.W.callWith_K (first := [.ref a]) (h₀ := X.base) I.ok.mod.kin hm.kp (thn (ha.run pos pins s1 σ H1 _ I1 q) fun us s2 ⟨vs, H2, I2, r, q2⟩ => ⟨I2.kIn, ?_⟩) hst hpl
  exact LK.run_fnS (us := .ref a :: us) (vs := .ref a :: vs) F hr hp hb (hx σ) I2 (.cons rfl r) q2
theorem fe_methCS {α κ ρ : Type} {j : Nat} {Cl : Addr} {U : κ → Fs} {names : List Str} {ps : List Str} {m : Str} {o e : Expr} {es : List Expr} {apos pos : Pos} {a0 : κ} {par : κ × α → List Sl} {mir : κ × α → M ρ} {res : ρ → Sl} {R : Rl ρ} {ma : M α} {mm : M ρ} {A : Ra α} {pl : Sem Bool} {p : Addr × Obj} (tk : Takes X W) (hp0 : p ∈ X.pn) (hr0 : RoomH k X.A)
    (h : CalMS X.prog X.w X.K X.mg X.base Cl m ps j (spP X.K par mir res)) (hj : j ≤ k) (cC : Cls X.K Cl) (hU : (U a0).map (·.1) = names) (hno : m ∉ names) (hp : ArgOk (rac (nw (tBx Cl U)) A) par) (hr : ResOf res R) (he : FE X W G o (M.ok a0) (nw (tBx Cl U))) (ha : FA X W G (e :: es) ma A) (hme : (ma.bind fun a => mir (a0, a)) = mm := by rfl)
    (hst : starEach (e :: es) X.env = (false, eval e X.env) :: starEach es X.env := by rfl) (hpl : (backTo pos (starEach es X.env)).any (·.1) = false := by rfl)
    (ht : eval (.Call (.Attribute o m apos) (e :: es) [] pos) X.env = (do
      let ov ← eval o X.env
      standAt apos.atName
      let (f, first) ← holding [ov] (getMethod ov m pl)
      callWith pos f first (backTo pos (starEach (e :: es) X.env)) (backToKw pos (keywordEach [] X.env))) := by rfl) :
    FE X W G (.Call (.Attribute o m apos) (e :: es) [] pos) mm R := by
  obtain ⟨f, fd, hm, hb, Fk⟩ := h
  rw [← hme]
  refine PE.weak (pe_methSH (E := WE W) he cC hm (Fk.mono hj) hr0 hp0 hb (fun σ => passAt tk σ) ha hst hpl ht) fun σ H Q ⟨B, tl, F, D⟩ => ?_
  have D' : Told X.K W G ((M.ok a0 : M κ).bind fun a0 => ma.bind fun a => mir (a0, a)) _ σ H B tl F := D
  refine ⟨B, tl, F, D'.seq fun a F1 H1 ea g1 D1 v rv => ?_⟩
  cases M.ok_inj ea
  obtain ⟨p, dx, fs, ev, hp1, hrd⟩ := rv
  refine ⟨p, dx, fs, ev, hp1, hrd.no hU hno, B, tl, F1, D1.seq fun b F2 H2 eb g2 D2 vs rvs => ?_⟩
  have hob : (nw (tBx Cl U)).r a0 H1 F2 H2 v := (nw (tBx Cl U)).st (H0 := H1) (show (nw (tBx Cl U)).r a0 H1 F1 H1 v from ⟨p, dx, fs, ev, hp1, hrd⟩) g2
  exact ask_pure (A := rac (nw (tBx Cl U)) A) (a := (a0, b)) (vs := v :: vs) hp hr (g1.h.trans g2.h).kn D2 ⟨v, vs, rfl, hob, A.pre rvs g1.h.kn⟩
end
/-! ### tuples of one kind, of any length -/
structure TLC {α β : Type} (T : Tv α) (A : Rf β) (f : α → List β) : Prop where
  run : ∀ {a F vs}, T.r a F vs → Pw (fun b x => A.r b F x) (f a) vs
theorem tlc_1 {β : Type} {A : Rf β} : TLC (tv1 A) A (fun a => [a]) := ⟨fun ⟨x, e, h⟩ => by subst e; exact .cons h .nil⟩
theorem tlc_c {α β : Type} {T : Tv α} {A : Rf β} {f : α → List β} (h : TLC T A f) : TLC (tvc A T) A (fun a => a.1 :: f a.2) := ⟨fun ⟨x, r, e, h1, h2⟩ => by subst e; exact .cons h1 (h.run h2)⟩
section
variable {X : Cx} {W : WX} {G : Gm} {k : Nat} {α β : Type} {T : Tv α} {A : Rf β} {f : α → List β} {K : PySem.W.Frag}
theorem fe_tlN {e : Expr} {m : M α} (c : TLC T A f) (h : FE X W G e m (fTup X.K T).up) : FE X W G e (m.bind fun a => M.ok (f a)) (fTupL X.K A).up := fe_map (R' := (fTupL X.K A).up) f h fun a H0 F H v ⟨p, vs, ev, hs, q⟩ => ⟨p, vs, ev, hs, c.run q⟩
theorem fv_tlN {e : Expr} {a : α} (c : TLC T A f) (h : FE X W G e (M.ok a) (fTup X.K T).up) : FE X W G e (M.ok (f a)) (fTupL X.K A).up := fe_tlN c h
theorem ol_ixTL {as : List β} {i : Int} : OpP (rIxT K) (fTupL K A).up fInt.up as i (at_ as i) A.up :=
  ⟨at_err, fun F H v w H0 Q x ⟨p, vs, ev, h, q⟩ hb c e k => by
    cases hb
    subst ev
    obtain ⟨z, h1, h2⟩ := q.atI (at_ok e)
    exact ⟨p, vs, i, z, rfl, rfl, sqT_ex x h, h1, k z F H (Gr.refl x) h2⟩⟩
def dTupL (D : Dt K A) : Dt K (fTupL K A) := ⟨fun as => .tuple (as.map D.d), D.n + 1, fun {a F H v} ⟨p, vs, e, h, q⟩ x => by
  subst e
  exact .tup (sqT_ex x h) (dpAll_pw D x q), fun {a F v} ⟨p, vs, e, h, q⟩ => ⟨(okAll_pw D q).1, Nat.succ_le_succ (okAll_pw D q).2⟩, fun a b => eqvAll_map D a b⟩
theorem fe_oget {e : Expr} {m : M (Option β)} (h : FE X W G e m (fOpt A).up) : FE X W G e (m.bind fun a => oget a) A.up :=
  PE.weak h fun σ H Q ⟨B, tl, F, D⟩ => ⟨B, tl, F, D.seq fun a F1 H1 _ g T1 v r => by
    cases a with
    | none => exact absurd rfl T1.ne
    | some a => exact T1.ok a rfl F1 H1 (Gr.refl g.fh) v r.1⟩
end
end LK
namespace LK
open PySem L2
/-! ### a number or a text -/
inductive Nt where
  | int (i : Int)
  | txt (s : List Nat)
  deriving DecidableEq
def atR : Nt → Hp → V → Prop
  | .int i, F, v => fInt.r i F v
  | .txt s, F, v => fTxt.r s F v
def fAt : Rf Nt := ⟨atR, fun {a} => by
  cases a with
  | int i => exact fun h x => fInt.sx h x
  | txt s => exact fun h x => fTxt.sx h x⟩
def Nt.isI : Nt → Bool
  | .int _ => true
  | .txt _ => false
def asI : Nt → M Int
  | .int i => M.ok i
  | .txt _ => none
def asT : Nt → M (List Nat)
  | .int _ => none
  | .txt s => M.ok s
def strA : Nt → M (List Nat)
  | .int i => M.need (i.natAbs.log2 < 1920 ∧ tOk (strI i)) (M.ok (strI i))
  | .txt s => M.ok s
def atTy : Nt → String
  | .int _ => "int"
  | .txt _ => "str"
section
variable {X : Cx} {W : WX} {G : Gm} {K : PySem.W.Frag}
theorem fe_atI {e : Expr} {m : M Int} (h : FE X W G e m fInt.up) : FE X W G e (m.bind fun a => M.ok (Nt.int a)) fAt.up := fe_map Nt.int h fun a H0 F H v r => r
theorem fv_atI {e : Expr} {a : Int} (h : FE X W G e (M.ok a) fInt.up) : FE X W G e (M.ok (Nt.int a)) fAt.up := fe_atI h
theorem fe_atT {e : Expr} {m : M (List Nat)} (h : FE X W G e m fTxt.up) : FE X W G e (m.bind fun a => M.ok (Nt.txt a)) fAt.up := fe_map Nt.txt h fun a H0 F H v r => r
theorem fv_atT {e : Expr} {a : List Nat} (h : FE X W G e (M.ok a) fTxt.up) : FE X W G e (M.ok (Nt.txt a)) fAt.up := fe_atT h
theorem fe_asI {e : Expr} {m : M Nt} (h : FE X W G e m fAt.up) : FE X W G e (m.bind asI) fInt.up :=
  PE.weak h fun σ H Q ⟨B, tl, F, D⟩ => ⟨B, tl, F, D.seq fun a F1 H1 _ g T1 v r => by
    cases a with
    | txt s => exact absurd rfl T1.ne
    | int i => exact T1.ok i rfl F1 H1 (Gr.refl g.fh) v r⟩
theorem fv_asI {e : Expr} {a : Nt} (h : FE X W G e (M.ok a) fAt.up) : FE X W G e (asI a) fInt.up := fe_asI h
theorem fe_asT {e : Expr} {m : M Nt} (h : FE X W G e m fAt.up) : FE X W G e (m.bind asT) fTxt.up :=
  PE.weak h fun σ H Q ⟨B, tl, F, D⟩ => ⟨B, tl, F, D.seq fun a F1 H1 _ g T1 v r => by
    cases a with
    | int s => exact absurd rfl T1.ne
    | txt i => exact T1.ok i rfl F1 H1 (Gr.refl g.fh) v r⟩
theorem fv_asT {e : Expr} {a : Nt} (h : FE X W G e (M.ok a) fAt.up) : FE X W G e (asT a) fTxt.up := fe_asT h
theorem tlc_1I : TLC (tv1 fInt) fAt (fun a => [Nt.int a]) := ⟨fun ⟨x, e, h⟩ => by subst e; exact .cons h .nil⟩
theorem tlc_1T : TLC (tv1 fTxt) fAt (fun a => [Nt.txt a]) := ⟨fun ⟨x, e, h⟩ => by subst e; exact .cons h .nil⟩
theorem tlc_cI {α : Type} {T : Tv α} {f : α → List Nt} (h : TLC T fAt f) : TLC (tvc fInt T) fAt (fun a => Nt.int a.1 :: f a.2) := ⟨fun ⟨x, r, e, h1, h2⟩ => by subst e; exact .cons h1 (h.run h2)⟩
theorem tlc_cT {α : Type} {T : Tv α} {f : α → List Nt} (h : TLC T fAt f) : TLC (tvc fTxt T) fAt (fun a => Nt.txt a.1 :: f a.2) := ⟨fun ⟨x, r, e, h1, h2⟩ => by subst e; exact .cons h1 (h.run h2)⟩
theorem nn_at : NoN fAt := fun a F v h => by
  cases a with
  | int i => exact nn_int i F v h
  | txt s => exact nn_str s F v h
theorem nn_tupl {β : Type} {A : Rf β} : NoN (fTupL K A) := fun a F v ⟨p, vs, e, _⟩ => by subst e; exact fun z => nomatch z
theorem ta_at {a : Nt} : TyA X.K fAt.up a (atTy a) := ⟨fun H0 F H v x h => by
  cases a with
  | int i => exact (ta_int (X := X) (a := i)).run H0 F H v x h
  | txt s => exact (ta_str (X := X) (a := s)).run H0 F H v x h⟩
theorem ta_tupL {β : Type} {A : Rf β} {a : List β} : TyA X.K (fTupL X.K A).up a "tuple" := ⟨fun H0 F H v x ⟨p, vs, e, h, _⟩ => by
  subst e
  rcases sqT_ex x h with (h | ⟨o, h⟩) | ⟨o, its, n, h, hc, _⟩
  · exact .base (.tup h)
  · exact .fTuple h
  · exact .kTuple h hc⟩
theorem cl_isiAI {a : Nt} : CallP (rIsi X.K) (a2 fAt.up (fTy "int").up) (a, (), ()) (M.ok a.isI) fBool.up := by
  cases a with
  | int i => exact cl_isi (X := X) (t := "int") (n := "int") (b := true) (ta_at (X := X) (a := Nt.int i)) (by decide +kernel)
  | txt s => exact cl_isi (X := X) (t := "str") (n := "int") (b := false) (ta_at (X := X) (a := Nt.txt s)) (by decide +kernel)
theorem cl_isiAS {a : Nt} : CallP (rIsi X.K) (a2 fAt.up (fTy "str").up) (a, (), ()) (M.ok (!a.isI)) fBool.up := by
  cases a with
  | int i => exact cl_isi (X := X) (t := "int") (n := "str") (b := false) (ta_at (X := X) (a := Nt.int i)) (by decide +kernel)
  | txt s => exact cl_isi (X := X) (t := "str") (n := "str") (b := true) (ta_at (X := X) (a := Nt.txt s)) (by decide +kernel)
theorem cl_isiAB {a : Nt} : CallP (rIsi X.K) (a2 fAt.up (fTy "bool").up) (a, (), ()) (M.ok false) fBool.up := by
  cases a with
  | int i => exact cl_isi (X := X) (t := "int") (n := "bool") (b := false) (ta_at (X := X) (a := Nt.int i)) (by decide +kernel)
  | txt s => exact cl_isi (X := X) (t := "str") (n := "bool") (b := false) (ta_at (X := X) (a := Nt.txt s)) (by decide +kernel)
open PySem (PyData) in
def atD : Nt → PyData
  | .int i => .int i
  | .txt s => .str (S s)
def dAt : Dt K fAt := ⟨atD, 0, fun {a F H v} h x => by
    cases a with
    | int i => exact (dInt (K := K)).at_ h x
    | txt s => exact (dTxt (K := K)).at_ h x,
  fun {a F v} h => by
    cases a with
    | int i => exact (dInt (K := K)).ok (F := F) h
    | txt s => exact (dTxt (K := K)).ok (F := F) h,
  fun a b => by
    cases a with
    | int i =>
      cases b with
      | int j => exact ((dInt (K := K)).eq i j).trans ⟨fun h => by rw [h], fun h => by injection h⟩
      | txt t => exact ⟨fun h => (nomatch h), fun h => (nomatch h)⟩
    | txt s =>
      cases b with
      | int j => exact ⟨fun h => (nomatch h), fun h => (nomatch h)⟩
      | txt t => exact ((dTxt (K := K)).eq s t).trans ⟨fun h => by rw [h], fun h => by injection h⟩⟩
/-! str(x) -/
def rStrA : List V → Hp → VK → Prop := fun xs H Q => (∃ i, xs = [.int i] ∧ i.natAbs.log2 < 1920 ∧ Q (.str (toString i)) H) ∨ (∃ a, xs = [.str a] ∧ Q (.str a) H)
theorem call_strA : CallR X (.type "str") rStrA := by
  intro pins s σ H xs us Q I r h
  rcases h with h | h
  · exact call_str_int pins s σ H xs us Q I r h
  · exact SkE.call_str_str pins s σ H xs us Q I r h
theorem cl_strS {a : List Nat} : CallP (fun xs H Q => ∃ a, xs = [.str a] ∧ Q (.str a) H) (a1 fTxt.up) (a, ()) (M.ok a) fTxt.up :=
  ⟨fun e q => (nomatch q), fun F H vs H0 Q x ⟨v, r, e, h1, h2⟩ c ec k => by
    cases M.ok_inj ec
    cases h2
    subst e
    obtain ⟨h1, h3⟩ := h1
    subst h1
    exact ⟨S a, rfl, k _ F H (Gr.refl x) ⟨rfl, h3⟩⟩⟩
theorem cl_strA {a : Nt} : CallP rStrA (a1 fAt.up) (a, ()) (strA a) fTxt.up := by
  cases a with
  | int i => exact ⟨(cl_str (a := i)).ne, fun F H vs H0 Q x h c ec k => .inl ((cl_str (a := i)).run F H vs H0 Q x h c ec k)⟩
  | txt s => exact ⟨(cl_strS (a := s)).ne, fun F H vs H0 Q x h c ec k => .inr ((cl_strS (a := s)).run F H vs H0 Q x h c ec k)⟩
/-! slices of tuples of one kind, tuple(list) -/
theorem sp_tupL {α : Type} {A : Rf α} {o : List α} {lo hi : Option Int} : SlP (rSlA K) (fTupL K A).up o lo hi (M.ok (cut o lo hi)) (fTupL K A).up :=
  ⟨fun e q => (nomatch q), fun F H v H0 Q x ⟨p, vs, e, h, q⟩ c ec k => by
    cases M.ok_inj ec
    refine ⟨p, vs, e, sqT_ex x h, fun hw => k _ F H (Gr.refl x) ⟨p, vs, rfl, h, ?_⟩, fun hw l hl => k (.ref l) _ _ (Gr.newF x hl) ⟨l, cutV vs lo hi, rfl, .inl (.inl upd_same), ?_⟩⟩
    · have : cut o lo hi = o := by
        unfold cut
        rw [q.len, hw.1, hw.2, List.drop_zero, Nat.sub_zero, ← q.len, List.take_length]
      rw [this]
      exact q
    · unfold cutV cut
      rw [q.len]
      exact ((q.drop _).take _).imp fun _ _ z => A.st z (Ex.new (x.free hl))⟩
theorem cl_tupL {α : Type} {A : Rf α} {a : List α} : CallP (fun xs H Q => ∃ p ys, xs = [.ref p] ∧ ((SqL K H p ys ∧ ∀ l, H l = none → Q (.ref l) (upd H l (.tup ys))) ∨ (SqT K H p ys ∧ Q (.ref p) H))) (a1 (bLst K A)) (a, ()) (M.ok a) (fTupL K A).up :=
  ⟨fun e q => (nomatch q), fun F H vs H0 Q x ⟨v, r, e, ⟨p, ws, ev, h, q⟩, h2⟩ c ec k => by
    cases M.ok_inj ec
    cases h2
    subst ev
    subst e
    exact ⟨p, ws, rfl, .inl ⟨h, fun l hl => k (.ref l) _ _ (Gr.newF x hl) ⟨l, ws, rfl, .inl (.inl upd_same), q.imp fun _ _ z => A.st z (Ex.new (x.free hl))⟩⟩⟩⟩
theorem cl_lenTN {α : Type} {A : Rf α} {a : List α} : CallP (fun xs H Q => ∃ x n, xs = [x] ∧ LenV K x H n ∧ Q (.int n) H) (a1 (fTupL K A).up) (a, ()) (M.ok (a.length : Int)) fInt.up := cp1 fun F H v H0 Q x ⟨p, vs, e, h, q⟩ k => by
  subst e
  exact ⟨_, vs.length, rfl, .inr ⟨vs, sqT_ex x h, rfl⟩, k _ (by rw [q.len]; rfl)⟩
/-! a < b < c < d -/
def tChain3 (r r' r'' : R2) (ta tb tc td : TE) : TE := fun σ H Q => ta σ H fun x H1 => tb σ H1 fun y H2 => r x y H2 fun z H3 => ∃ k, z = .bl k ∧
  (if k = true then tc σ H3 fun w H4 => r' y w H4 fun z' H5 => ∃ k', z' = .bl k' ∧ (if k' = true then td σ H5 fun w' H6 => r'' w w' H6 Q else Q (.bl false) H5) else Q (.bl false) H3)
theorem pe_chain3 {op op' op'' : CmpOp} {r r' r'' : R2} {a b c d : Expr} {pos : Pos} {ta tb tc td : TE} (ho : OpR X (compareOp op) r) (ho' : OpR X (compareOp op') r') (ho'' : OpR X (compareOp op'') r'') (ha : PE X a ta) (hb : PE X b tb) (hc : PE X c tc) (hd : PE X d td)
    (hm : lastMarks [op, op', op''] [b, c, d] = false := by with_unfolding_all rfl) : PE X (.Compare a [op, op', op''] [b, c, d] pos) (tChain3 r r' r'' ta tb tc td) := by
  refine ⟨fun pins s σ H Q I h => ?_⟩
  refine PyProof.Rows.Compare_chain (thn (ha.run pins s σ H _ I h) fun v s1 ⟨x, H1, I1, r1, q1⟩ => PyProof.Rows.chain_link (thn (hb.run pins s1 σ H1 _ I1 q1) fun u s2 ⟨y, H2, I2, r2, q2⟩ =>
    thn (ho pins s2 σ H2 x y v u _ I2 r1 r2 q2) fun d s3 ⟨z, H3, I3, r3, k, e, q3⟩ => ?_)) hm
  subst e
  cases r3
  refine wpAny_truthy_bool ?_
  cases k with
  | false => exact PyProof.Rows.ite_ff ⟨.bl false, H3, I3, rfl, q3⟩
  | true =>
    refine PyProof.Rows.ite_tt (PyProof.Rows.chain_link (thn (hc.run pins s3 σ H3 _ I3 q3) fun u' s4 ⟨w, H4, I4, r4, q4⟩ => thn (ho' pins s4 σ H4 y w u u' _ I4 r2 r4 q4) fun d' s5 ⟨z', H5, I5, r5, k', e', q5⟩ => ?_))
    subst e'
    cases r5
    refine wpAny_truthy_bool ?_
    cases k' with
    | false => exact PyProof.Rows.ite_ff ⟨.bl false, H5, I5, rfl, q5⟩
    | true => exact PyProof.Rows.ite_tt (PyProof.Rows.chain_last (thn (hd.run pins s5 σ H5 _ I5 q5) fun w' s6 ⟨z'', H6, I6, r6, q6⟩ => ho'' pins s6 σ H6 w z'' u' w' Q I6 r4 r6 q6))
theorem fe_chain3 {α β γ δ : Type} {op op' op'' : CmpOp} {r r' r'' : R2} {a b c d : Expr} {pos : Pos} {ma : M α} {mb : M β} {mc : M γ} {md : M δ} {g1 : α → β → M Bool} {g2 : β → γ → M Bool} {g3 : γ → δ → M Bool} {A : Rl α} {B : Rl β} {C : Rl γ} {D : Rl δ}
    (ho : OpR X (compareOp op) r) (ho' : OpR X (compareOp op') r') (ho'' : OpR X (compareOp op'') r'') (h1 : ∀ x y, OpP r A B x y (g1 x y) fBool.up) (h2 : ∀ x y, OpP r' B C x y (g2 x y) fBool.up) (h3 : ∀ x y, OpP r'' C D x y (g3 x y) fBool.up)
    (ha : FE X W G a ma A) (hb : FE X W G b mb B) (hc : FE X W G c mc C) (hd : FE X W G d md D) (hm : lastMarks [op, op', op''] [b, c, d] = false := by with_unfolding_all rfl) :
    FE X W G (.Compare a [op, op', op''] [b, c, d] pos) (ma.bind fun x => mb.bind fun y => (g1 x y).bind fun k => if k = true then mc.bind fun z => (g2 y z).bind fun k2 => if k2 = true then md.bind fun w => g3 z w else M.ok false else M.ok false) fBool.up :=
  PE.weak (pe_chain3 ho ho' ho'' ha hb hc hd hm) fun σ H Q ⟨Bs, tl, F, T⟩ => by
    refine ⟨Bs, tl, F, T.seq fun x F1 H1 _ g1' T1 v rv => ⟨Bs, tl, F1, T1.seq fun y F2 H2 _ g2' T2 w rw => ?_⟩⟩
    cases eg : g1 x y with
    | none => exact absurd (by rw [eg]; rfl) T2.ne
    | some q =>
      cases q with
      | error e => exact absurd eg ((h1 x y).ne e)
      | ok k =>
        rw [eg] at T2
        refine (h1 x y).run F2 H2 v w H _ T2.fh (A.st rv g2') (B.pre rw g1'.h.kn) k eg fun u F3 H3 g3' ru => ⟨k, ru, ?_⟩
        cases k with
        | false => exact T2.ok _ rfl F3 H3 g3' _ rfl
        | true =>
          have T3 : Told X.K W G (mc.bind fun z => (g2 y z).bind fun k2 => if k2 = true then md.bind fun w => g3 z w else M.ok false) _ σ H3 Bs tl F3 := ⟨T2.st.grow g3', T2.ne, fun a e F' H' g => T2.ok a e F' H' (g3'.trans g), fun e q' F' H' g => T2.er e q' F' H' (g3'.trans g)⟩
          refine ⟨Bs, tl, F3, T3.seq fun z F4 H4 _ g4 T4 u rz => ?_⟩
          cases eg2 : g2 y z with
          | none => exact absurd (by rw [eg2]; rfl) T4.ne
          | some q2 =>
            cases q2 with
            | error e => exact absurd eg2 ((h2 y z).ne e)
            | ok k2 =>
              rw [eg2] at T4
              refine (h2 y z).run F4 H4 w u H1 _ T4.fh (B.st rw (g3'.trans g4)) (C.pre rz (g2'.h.trans g3'.h).kn) k2 eg2 fun t F5 H5 g5 rt => ⟨k2, rt, ?_⟩
              cases k2 with
              | false => exact T4.ok _ rfl F5 H5 g5 _ rfl
              | true =>
                have T5 : Told X.K W G (md.bind fun w => g3 z w) _ σ H5 Bs tl F5 := ⟨T4.st.grow g5, T4.ne, fun a e F' H' g => T4.ok a e F' H' (g5.trans g), fun e q' F' H' g => T4.er e q' F' H' (g5.trans g)⟩
                refine ⟨Bs, tl, F5, T5.seq fun w' F6 H6 _ g6 T6 u' rw' => ?_⟩
                obtain ⟨c', e', q'⟩ := T6.out (h3 z w').ne
                exact (h3 z w').run F6 H6 u u' H3 Q T6.fh (C.st rz (g5.trans g6)) (D.pre rw' (g4.h.trans g5.h).kn) c' e' fun t F7 H7 g7 rt => T6.ok c' e' F7 H7 g7 t rt
end
end LK
namespace LK
open PySem L2
/-! ### list.count, list.index of texts -/
def rCntS (K : PySem.W.Frag) : V → List V → Hp → VK → Prop := fun x xs H Q => ∃ (p : Addr) (ys : List Str) (z : Str), x = .ref p ∧ xs = [.str z] ∧ SqL K H p (ys.map V.str) ∧ Q (.int (ys.count z : Nat)) H
theorem cnt_vals {z : Str} : ∀ {ys : List Str} {us : List Value}, Vals (ys.map V.str) us → us.countP (eqU (.str z)) = ys.count z
  | [], _, .nil => rfl
  | y :: ys, _, .cons r t => by
    rw [List.countP_cons, List.count_cons, cnt_vals t, eqU_of r rfl]
    rfl
theorem mt_countS {X : Cx} : MtR X "list.count" (rCntS X.K) := by
  intro pins s σ H x xs v us Q I rx rs h
  obtain ⟨p, ys, z, rfl, rfl, hq, q⟩ := h
  cases rx
  obtain ⟨u, rfl, t, rfl⟩ := vals1 rs
  obtain ⟨its, rv, ⟨⟨cls, dd, data, sl⟩, n, ho, hc, hdn, hd⟩, hlen⟩ := I.list hq
  simp only at hc hd
  subst hc hd
  refine call_meets PySem.F.slot_list_count ⟨_, ho, rfl⟩ PySem.F.entry_list_count (PySem.F.args_list_count_2 _ _) (SeqAt.list_countAt p its.toArray n dd sl (.str z t) (eqU (.str z))) ⟨ho, fun w hw => mem_eqAt (x := .str z) ⟨t, rfl⟩ rfl rv (flat_strs ys) w (by simpa using hw), ?_⟩
  refine ⟨.int (ys.count z : Nat), H, I.tok _, ⟨s.toks, ?_⟩, q⟩
  show Value.int ((its.toArray.toList.countP (eqU (.str z)) : Nat) : Int) s.toks = Value.int ((ys.count z : Nat) : Int) s.toks
  rw [show its.toArray.toList = its from rfl, cnt_vals rv]
theorem cnt_S {a : List Nat} : ∀ as : List (List Nat), (as.map S).count (S a) = as.count a
  | [] => rfl
  | x :: as => by
    rw [List.map_cons, List.count_cons, List.count_cons, cnt_S as]
    have : (S x == S a) = (x == a) := by
      rw [Bool.eq_iff_iff, beq_iff_eq, beq_iff_eq]
      exact ⟨fun h => S_inj h, fun h => by rw [h]⟩
    rw [this]
theorem ml_cntS {K : PySem.W.Frag} {a : List Nat} {as : List (List Nat)} : MetP (rCntS K) (bLst K fTxt) (a1 fTxt.up) as (a, ()) (M.ok ((as.count a : Nat) : Int)) fInt.up :=
  ⟨fun e q => (nomatch q), fun F H v vs H0 Q x ⟨p, ws, ev, h, q⟩ ⟨w, r, e1, ⟨e2, _⟩, e3⟩ c ec k => by
    cases M.ok_inj ec
    cases e3
    subst e2
    refine ⟨p, as.map S, S a, ev, e1, by rw [← pw_strs q]; exact h, ?_⟩
    rw [cnt_S]
    exact k _ F H (Gr.refl x) rfl⟩
theorem ml_ixL {K : PySem.W.Frag} {a : List Nat} {as : List (List Nat)} : MetP (rIndex K) (bLst K fTxt) (a1 fTxt.up) as (a, ()) (ixT a as) fInt.up :=
  ⟨fun e q => ixT_ne q, fun F H v vs H0 Q x ⟨p, ws, ev, h, q⟩ ⟨w, r, e1, ⟨e2, _⟩, e3⟩ c ec k => by
    cases e3
    subst e2
    obtain ⟨j, ej, h1, h2⟩ := ixT_ok ec
    refine ⟨p, (as.map S).map V.str, .str (S a), j, .str (S a), ev, e1, by rw [← pw_strs q]; exact h, rfl, flat_strs _, by rw [List.getElem?_map, List.getElem?_map, h1]; rfl, beq_self_eq_true (S a), fun m z' hm hz => ?_, k _ F H (Gr.refl x) (by rw [ej]; rfl)⟩
    rw [List.getElem?_map, List.getElem?_map] at hz
    cases q : as[m]? with
    | none => rw [q] at hz; cases hz
    | some b =>
      rw [q] at hz
      injection hz with hz
      subst hz
      exact beq_eq_false_iff_ne.mpr fun e => h2 m hm (by rw [q, S_inj e])⟩
/-! ### t[1:] of a tuple -/
section
variable {X : Cx} {W : WX} {G : Gm} {α β : Type} {A : Rf α} {T : Tv β}
theorem cutV_tail (x : V) (r : List V) : cutV (x :: r) (some 1) none = r := by
  unfold cutV HT.sIx
  simp
theorem sp_tail {K : PySem.W.Frag} {a : α × β} : SlP (rSlA K) (fTup K (tvc A T)).up a (some 1) none (M.ok a.2) (fTup K T).up :=
  ⟨fun e q => (nomatch q), fun F H v H0 Q x ⟨p, vs, e, h, ⟨y, r, e2, h1, h2⟩⟩ c ec k => by
    cases M.ok_inj ec
    subst e2
    refine ⟨p, y :: r, e, sqT_ex x h, fun hw => ?_, fun hw l hl => k (.ref l) _ _ (Gr.newF x hl) ⟨l, cutV (y :: r) (some 1) none, rfl, .inl (.inl upd_same), ?_⟩⟩
    · exfalso
      have := hw.1
      unfold HT.sIx at this
      simp at this
    · rw [cutV_tail]
      exact T.st h2 (Ex.new (x.free hl))⟩
theorem fe_tail {e : Expr} {lo hi : Option Expr} {p2 pos : Pos} {me : M (α × β)} (he : FE X W G e me (fTup X.K (tvc A T)).up) (h1 : FO X W G lo (M.ok (some 1))) (h2 : FO X W G hi (M.ok none)) : FE X W G (.Subscript e (.Slice lo hi none p2) pos) (me.bind fun x => M.ok x.2) (fTup X.K T).up :=
  PE.weak (pe_slice sl_tupA he h1 h2) fun σ H Q ⟨B, tl, F, D⟩ => by
    have D : Told X.K W G (me.bind fun x => (M.ok (some (1 : Int))).bind fun _ => (M.ok (none : Option Int)).bind fun _ => M.ok x.2) _ σ H B tl F := D
    refine ⟨B, tl, F, D.seq fun x F1 H1 _ g1 D1 v rv => ⟨B, tl, F1, D1.seq fun a F2 H2 ea g2 D2 => ⟨B, tl, F2, D2.seq fun b F3 H3 eb g3 D3 => ?_⟩⟩⟩
    cases M.ok_inj ea
    cases M.ok_inj eb
    exact sp_tail.run F3 H3 v H Q g3.fh ((fTup X.K (tvc A T)).up.st rv (g2.trans g3)) _ rfl fun z F' H' g4 rz => D3.ok _ rfl F' H' g4 z ((fTup X.K T).up.pre rz ((g1.h.trans g2.h).trans g3.h).kn)
end
end LK
namespace LK
open PySem L2
/-! ### a list of texts, a dict from texts to numbers among the module's names -/
def xListS (x : Str) (ss : List (List Nat)) : Lk1 := fun K => match K.lookup (He.ga K x) with
  | some o => (decide (o.cls = .type "list") && o.dict.isNone) && (match o.data with
    | .seq its _ => decide (its.size ≤ sizeLine) && (decide (its.toList.map txtV = ss.map some) && ss.all tOkB)
    | _ => false)
  | none => false
theorem pw_mods {F : Hp} : ∀ {ss : List (List Nat)}, ss.all tOkB = true → Pw (fun a x => fTxt.r a F x) ss (ss.map fun s => V.str (S s))
  | [], _ => .nil
  | s :: ss, h => by
    rw [List.all_cons, Bool.and_eq_true] at h
    exact .cons ⟨rfl, h.1⟩ (pw_mods h.2)
def intV : Value → Option Int
  | .int i _ => some i
  | _ => none
def xDictI (x : Str) (kvs : List (List Nat × Int)) : Lk1 := fun K => match K.lookup (He.ga K x) with
  | some ⟨_, _, .dict es _, _⟩ => decide (es.toList.map (fun e => (txtV e.key, intV e.val)) = kvs.map (fun q => (some q.1, some q.2)))
  | _ => false
def fDctG (K : PySem.W.Frag) (w : World) : Rf (List (List Nat × Int)) := ⟨fun kvs _ v => ∃ (p : Addr) (es : Array DictEntry) (n : Nat), v = .ref p ∧ KDict K w p es n ∧ es.toList.map (fun e => (txtV e.key, intV e.val)) = kvs.map (fun q => (some q.1, some q.2)), fun h _ => h⟩
theorem txtV_str {v : Value} {s : List Nat} (h : txtV v = some s) : ∃ t, v = .str (S s) t := by
  cases v with
  | str y t =>
    injection h with h
    exact ⟨t, by rw [← h, S_of]⟩
  | _ => cases h
theorem intV_int {v : Value} {i : Int} (h : intV v = some i) : ∃ t, v = .int i t := by
  cases v with
  | int y t =>
    injection h with h
    exact ⟨t, by rw [← h]⟩
  | _ => cases h
theorem ns_aux (k : List Nat) : ∀ (l : List DictEntry) (kvs : List (List Nat × Int)), l.map (fun e => (txtV e.key, intV e.val)) = kvs.map (fun q => (some q.1, some q.2)) →
    l.any (·.refKey) = false ∧ match dget kvs k with
      | none => l.find? (·.key.isStr (S k)) = none
      | some i => ∃ e t, l.find? (·.key.isStr (S k)) = some e ∧ e.val = .int i t
  | [], [], _ => ⟨rfl, rfl⟩
  | [], _ :: _, h => nomatch h
  | _ :: _, [], h => nomatch h
  | e :: l, q :: kvs, h => by
    rw [List.map_cons, List.map_cons, List.cons.injEq, Prod.mk.injEq] at h
    obtain ⟨⟨h1, h2⟩, h3⟩ := h
    obtain ⟨t1, e1⟩ := txtV_str h1
    obtain ⟨t2, e2⟩ := intV_int h2
    obtain ⟨r1, r2⟩ := ns_aux k l kvs h3
    refine ⟨?_, ?_⟩
    · rw [List.any_cons, r1, Bool.or_false]
      unfold DictEntry.refKey
      rw [e1]
    · have hs : e.key.isStr (S k) = decide (q.1 = k) := by
        rw [e1]
        show (S q.1 == S k) = decide (q.1 = k)
        rw [Bool.eq_iff_iff, beq_iff_eq, decide_eq_true_eq]
        exact ⟨fun z => S_inj z, fun z => by rw [z]⟩
      by_cases c : q.1 = k
      · have hd : dget (q :: kvs) k = some q.2 := by
          unfold dget
          rw [List.find?_cons, decide_eq_true c]
          rfl
        rw [hd]
        exact ⟨e, t2, by rw [List.find?_cons, hs, decide_eq_true c], e2⟩
      · have hd : dget (q :: kvs) k = dget kvs k := by
          unfold dget
          rw [List.find?_cons, decide_eq_false c]
        have hf : (e :: l).find? (·.key.isStr (S k)) = l.find? (·.key.isStr (S k)) := by rw [List.find?_cons, hs, decide_eq_false c]
        rw [hd, hf]
        exact r2
theorem ns_in {K : PySem.W.Frag} {p : Addr} {es : Array DictEntry} {n : Nat} {kvs : List (List Nat × Int)} (h : K.lookup p = some ⟨.type "dict", none, .dict es n, #[]⟩) (e : es.toList.map (fun e => (txtV e.key, intV e.val)) = kvs.map (fun q => (some q.1, some q.2))) (k : List Nat) :
    match dget kvs k with
      | none => PySem.W.nsIn K p (S k) = some none
      | some i => ∃ t, PySem.W.nsIn K p (S k) = some (some (.int i t)) := by
  obtain ⟨r1, r2⟩ := ns_aux k es.toList kvs e
  cases hd : dget kvs k with
  | none =>
    rw [hd] at r2
    show PySem.W.nsIn K p (S k) = some none
    unfold PySem.W.nsIn
    rw [h]
    show (match es.toList.find? (·.key.isStr (S k)) with | some e => some (some e.val) | none => if es.toList.any (·.refKey) then none else some none) = _
    rw [r2, r1]
    rfl
  | some i =>
    rw [hd] at r2
    obtain ⟨e, t, f1, f2⟩ := r2
    refine ⟨t, ?_⟩
    unfold PySem.W.nsIn
    rw [h]
    show (match es.toList.find? (·.key.isStr (S k)) with | some e => some (some e.val) | none => if es.toList.any (·.refKey) then none else some none) = _
    rw [f1]
    show some (some e.val) = _
    rw [f2]
def rInDG (K : PySem.W.Frag) (w : World) : R2 := fun x y H Q => ∃ (d : Addr) (es : Array DictEntry) (n : Nat) (z : Str) (r : Option Value), KDict K w d es n ∧ x = .str z ∧ y = .ref d ∧ PySem.W.nsIn K d z = some r ∧ Q (.bl r.isSome) H
def rNinDG (K : PySem.W.Frag) (w : World) : R2 := fun x y H Q => ∃ (d : Addr) (es : Array DictEntry) (n : Nat) (z : Str) (r : Option Value), KDict K w d es n ∧ x = .str z ∧ y = .ref d ∧ PySem.W.nsIn K d z = some r ∧ Q (.bl (!r.isSome)) H
section
variable {X : Cx} {W : WX} {G : Gm}
theorem op_inDG : OpR X (compareOp .In) (rInDG X.K X.w) := by
  intro pins s σ H x y v u Q I rx ry h
  obtain ⟨d, es, n, z, r, D, e1, e2, e, q⟩ := h
  exact op_in_kd D pins s σ H x y v u Q I rx ry ⟨z, r, e1, e2, e, q⟩
theorem op_ninDG : OpR X (compareOp .NotIn) (rNinDG X.K X.w) := by
  intro pins s σ H x y v u Q I rx ry h
  obtain ⟨d, es, n, z, r, D, e1, e2, e, q⟩ := h
  exact op_notIn_kd D pins s σ H x y v u Q I rx ry ⟨z, r, e1, e2, e, q⟩
theorem ol_dinG {K : PySem.W.Frag} {w : World} {k : List Nat} {kvs : List (List Nat × Int)} : OpP (rInDG K w) fTxt.up (fDctG K w).up k kvs (M.ok (dget kvs k).isSome) fBool.up := opp fun F H v u Q x ha hb q => by
  obtain ⟨e1, _⟩ := ha
  obtain ⟨p, es, n, e2, D, he⟩ := hb
  have hn := ns_in D.at_ he k
  cases hd : dget kvs k with
  | none => rw [hd] at hn q; exact ⟨p, es, n, S k, none, D, e1, e2, hn, q _ rfl⟩
  | some i =>
    rw [hd] at hn q
    obtain ⟨t, hn⟩ := hn
    exact ⟨p, es, n, S k, _, D, e1, e2, hn, q _ rfl⟩
theorem ol_ndinG {K : PySem.W.Frag} {w : World} {k : List Nat} {kvs : List (List Nat × Int)} : OpP (rNinDG K w) fTxt.up (fDctG K w).up k kvs (M.ok (!(dget kvs k).isSome)) fBool.up := opp fun F H v u Q x ha hb q => by
  obtain ⟨e1, _⟩ := ha
  obtain ⟨p, es, n, e2, D, he⟩ := hb
  have hn := ns_in D.at_ he k
  cases hd : dget kvs k with
  | none => rw [hd] at hn q; exact ⟨p, es, n, S k, none, D, e1, e2, hn, q _ rfl⟩
  | some i =>
    rw [hd] at hn q
    obtain ⟨t, hn⟩ := hn
    exact ⟨p, es, n, S k, _, D, e1, e2, hn, q _ rfl⟩
theorem oget_err {β : Type} {o : Option β} {e : Er} : oget o ≠ M.err e := by cases o <;> exact fun z => nomatch z
theorem ol_ixDG {K : PySem.W.Frag} {w : World} {k : List Nat} {kvs : List (List Nat × Int)} : OpP (rIxD K w) (fDctG K w).up fTxt.up kvs k (oget (dget kvs k)) fInt.up :=
  ⟨fun e => oget_err, fun F H v u H0 Q x hb ha c ec q => by
    obtain ⟨e1, _⟩ := ha
    obtain ⟨p, es, n, e2, D, he⟩ := hb
    have hn := ns_in D.at_ he k
    cases hd : dget kvs k with
    | none => rw [hd] at ec; cases ec
    | some i =>
      rw [hd] at hn ec
      cases M.ok_inj ec
      obtain ⟨t, hn⟩ := hn
      exact ⟨p, S k, .int _, e2, e1, ⟨es, n, _, D.at_, D.lit, hn, ⟨t, rfl⟩⟩, q _ F H (Gr.refl x) rfl⟩⟩
theorem fe_globLS {x : Str} {pos : Pos} {ss : List (List Nat)} (hm : X.mg x = some (.ref (He.ga X.K x))) (hx : xListS x ss X.K = true) (hg : Gl X x := by rfl) (hd : (x == ("__debug__" : Str)) = false := by decide) : FE X W G (.Name x pos) (M.ok ss) (bLst X.K fTxt) := by
  refine fe_now (pe_glob (v := .ref (He.ga X.K x)) hg hm rfl hd) fun B tl σ F H Q st k => k _ F H (Gr.refl st.fh) ?_
  unfold xListS at hx
  cases e : X.K.lookup (He.ga X.K x) with
  | none => rw [e] at hx; cases hx
  | some o =>
    rw [e] at hx
    obtain ⟨h1, h2⟩ := Bool.and_eq_true_iff.mp hx
    obtain ⟨h1, h0⟩ := Bool.and_eq_true_iff.mp h1
    cases ed : o.data with
    | seq its n =>
      rw [ed] at h2
      obtain ⟨h3, h4⟩ := Bool.and_eq_true_iff.mp h2
      obtain ⟨h4, h5⟩ := Bool.and_eq_true_iff.mp h4
      exact ⟨_, ss.map fun s => V.str (S s), rfl, .inr ⟨o, its, n, e, of_decide_eq_true h1, Option.isNone_iff_eq_none.mp h0, ed, of_decide_eq_true h3, vals_txtT (of_decide_eq_true h4)⟩, pw_mods h5⟩
    | _ => rw [ed] at h2; cases h2
theorem fe_globDI {x : Str} {pos : Pos} {kvs : List (List Nat × Int)} (hm : X.mg x = some (.ref (He.ga X.K x))) (hx : xDictI x kvs X.K = true) (ht : ∃ es n, KDict X.K X.w (He.ga X.K x) es n) (hg : Gl X x := by rfl) (hd : (x == ("__debug__" : Str)) = false := by decide) : FE X W G (.Name x pos) (M.ok kvs) (fDctG X.K X.w).up := by
  refine fe_glob (v := .ref (He.ga X.K x)) hg hm rfl (fun F => ?_) hd
  obtain ⟨es, n, D⟩ := ht
  unfold xDictI at hx
  rw [D.at_] at hx
  exact ⟨_, es, n, rfl, D, of_decide_eq_true hx⟩
end
theorem pw_nt {F : Hp} : ∀ {as : List (List Nat)} {vs : List V}, Pw (fun a x => fTxt.r a F x) as vs → Pw (fun a x => fAt.r a F x) (as.map Nt.txt) vs
  | _, _, .nil => .nil
  | _, _, .cons h t => .cons h (pw_nt t)
theorem fe_tlT {X : Cx} {W : WX} {G : Gm} {e : Expr} {m : M (List (List Nat))} (h : FE X W G e m (fTupL X.K fTxt).up) : FE X W G e (m.bind fun a => M.ok (a.map Nt.txt)) (fTupL X.K fAt).up := fe_map (R' := (fTupL X.K fAt).up) (fun a => a.map Nt.txt) h fun a H0 F H v ⟨p, vs, ev, hs, q⟩ => ⟨p, vs, ev, hs, pw_nt q⟩
/-! ### split -/
def splM (o a : List Nat) : M (List (List Nat)) := M.need (a ≠ [] ∧ a.all (· < 256) = true ∧ o.length + 2 ≤ sizeLine ∧ (TL.spl a 0 [] o).all tOkB = true) (M.ok (TL.spl a 0 [] o))
theorem ro_new {K : PySem.W.Frag} {as : List (List Nat)} {H0 F H : Hp} (x : Ex F H) (h : as.all tOkB = true) {p : Addr} (hp : H p = none) : (ro (tL K fTxt)).r as H F (upd H p (.lst ((as.map S).map V.str))) (.ref p) := by
  refine ⟨[p], ⟨p, _, rfl, upd_same, ?_, rfl⟩, fun y hy => ?_⟩
  · have := pw_mods (F := F) h
    rw [List.map_map]
    exact this
  · cases List.mem_singleton.mp hy
    exact ⟨hp, x.free hp, NT.up⟩
theorem ml_split1 {K : PySem.W.Frag} {o a : List Nat} : MetP (fun x xs H Q => ∃ a b, x = .str a ∧ xs = [.str b] ∧ (b.length == 0) = false ∧ a.length + 2 ≤ sizeLine ∧ rNewStrs (Txt.split a b) H Q) fTxt.up (a1 fTxt.up) o (a, ()) (splM o a) (ro (tL K fTxt)) :=
  ⟨need_err, fun F H v vs H0 Q x ⟨e, _⟩ ⟨w, r, e1, ⟨e2, _⟩, e3⟩ c ec k => by
    obtain ⟨⟨c1, c2, c3, c4⟩, rfl⟩ := need_ok ec
    cases e3
    subst e2
    refine ⟨S o, S a, e, e1, ?_, by rw [S_len]; exact c3, fun p hp => ?_⟩
    · rw [S_len, beq_eq_false_iff_ne]
      exact fun z => c1 (List.length_eq_zero_iff.mp z)
    · show Q (V.ref p) (upd H p (.lst ((Txt.split (SX.S o) (SX.S a)).map V.str)))
      rw [SX.split_S c1 c2]
      exact k _ F _ (Gr.newM x hp) (ro_new (H0 := H) x c4 hp)⟩
/-- the parts, at most k cuts -/
def cutsM (o a : List Nat) (k : Int) : List Nat := Builtin.Str.occurrences (S o) (S a) 0 o.length (limitOf (S o) k)
def prtM (o a : List Nat) (k : Int) : List (List Nat) := (Builtin.Str.partsBetween (S o) (cutsM o a k) a.length).map uS
def splN (o a : List Nat) (k : Int) : M (List (List Nat)) := M.need (a ≠ [] ∧ (decide (k < -(2 ^ 63 : Int)) || decide (k ≥ 2 ^ 63)) = false ∧ (decide (o.length < a.length) || decide (Builtin.Str.strKind (S o) < Builtin.Str.strKind (S a))) = false ∧ (cutsM o a k).isEmpty = false ∧ o.length + 2 ≤ sizeLine ∧ (cutsM o a k).length + 2 ≤ sizeLine ∧ (prtM o a k).all tOkB = true) (M.ok (prtM o a k))
theorem S_uS (x : Str) : S (uS x) = x := S_of x
theorem mt_split2 {X : Cx} : MtR X "str.split" (fun x xs H Q => ∃ a b k, x = .str a ∧ xs = [.str b, .int k] ∧ (b.length == 0) = false ∧ (decide (k < -(2 ^ 63 : Int)) || decide (k ≥ 2 ^ 63)) = false ∧ (decide (a.length < b.length) || decide (Builtin.Str.strKind a < Builtin.Str.strKind b)) = false ∧ (Builtin.Str.occurrences a b 0 a.length (limitOf a k)).isEmpty = false ∧ a.length + 2 ≤ sizeLine ∧ (Builtin.Str.occurrences a b 0 a.length (limitOf a k)).length + 2 ≤ sizeLine ∧
    rNewStrs (Builtin.Str.partsBetween a (Builtin.Str.occurrences a b 0 a.length (limitOf a k)) b.length) H Q) := by
  intro pins s σ H x xs v us Q I rx rs h
  obtain ⟨a, b, k, rfl, rfl, hb, hk, h1, hf, hz, hz2, h⟩ := h
  obtain ⟨t, rfl⟩ := rx
  cases rs with
  | cons r1 rs =>
    cases rs with
    | cons r2 rs =>
      cases rs
      obtain ⟨u, rfl⟩ := r1
      obtain ⟨u2, rfl⟩ := r2
      have hn : (Builtin.Str.partsBetween a (Builtin.Str.occurrences a b 0 a.length (limitOf a k)) b.length).length ≤ sizeLine := by
        rw [length_partsBetween]; omega
      refine call_meets F.slot_str_split (typeIs_str _ _ _) F.entry_str_split (F.args_str_split_3 _ _ _) (meets_str_split_sep_max a b k t u u2 hk h1 hb hf (by omega) hn) ?_
      show EP X pins σ Q (.ref s.heap.objs.size) { s with toks := _, heap := s.heap.push { cls := .type "list", data := .seq (strsFrom s.toks (Builtin.Str.partsBetween a (Builtin.Str.occurrences a b 0 a.length (limitOf a k)) b.length)).toArray } }
      rw [strsFrom_eq]
      exact laid_strs I (numbered_texts _ _) hn h
theorem ml_split2 {K : PySem.W.Frag} {o a : List Nat} {i : Int} : MetP (fun x xs H Q => ∃ a b k, x = .str a ∧ xs = [.str b, .int k] ∧ (b.length == 0) = false ∧ (decide (k < -(2 ^ 63 : Int)) || decide (k ≥ 2 ^ 63)) = false ∧ (decide (a.length < b.length) || decide (Builtin.Str.strKind a < Builtin.Str.strKind b)) = false ∧ (Builtin.Str.occurrences a b 0 a.length (limitOf a k)).isEmpty = false ∧ a.length + 2 ≤ sizeLine ∧ (Builtin.Str.occurrences a b 0 a.length (limitOf a k)).length + 2 ≤ sizeLine ∧
    rNewStrs (Builtin.Str.partsBetween a (Builtin.Str.occurrences a b 0 a.length (limitOf a k)) b.length) H Q) fTxt.up (a2 fTxt.up fInt.up) o (a, i, ()) (splN o a i) (ro (tL K fTxt)) :=
  ⟨need_err, fun F H v vs H0 Q x ⟨e, _⟩ ⟨w, r, e1, ⟨e2, _⟩, ⟨w2, r2, e3, h3, h4⟩⟩ c ec k => by
    obtain ⟨⟨c1, c2, c3, c4, c5, c6, c7⟩, rfl⟩ := need_ok ec
    cases h4
    cases h3
    subst e2
    subst e3
    refine ⟨S o, S a, i, e, e1, ?_, c2, by rw [S_len, S_len]; exact c3, by rw [S_len]; exact c4, by rw [S_len]; exact c5, by rw [S_len]; exact c6, fun p hp => ?_⟩
    · rw [S_len, beq_eq_false_iff_ne]
      exact fun z => c1 (List.length_eq_zero_iff.mp z)
    · have := ro_new (K := K) (H0 := H) x c7 hp
      unfold prtM at this
      rw [List.map_map (g := S), show (S ∘ uS) = id from funext fun z => S_uS z, List.map_id] at this
      rw [S_len, S_len]
      exact k _ F _ (Gr.newM x hp) this⟩
/-! ### a comprehension over a tuple of one kind -/
section
variable {X : Cx} {W : WX} {G : Gm} {α β : Type} {A : Rf α} {E : Rf β} {Gw : Gm} {kk : Nat}
theorem tLcT_run {elt tg iter : Expr} {ifs : List Expr} {scope : Scope} {own : List (Str × Nat)} {m : M (List α)} {c : α → M Bool} {f : α → M β} {G2 : α → Gm} (C : Cok X W kk) (hi : FE X W G iter m (fTupL X.K A).up) (d : Imp G Gw) (hw : ∀ i ∈ own.map (·.2), ∀ t, Gw[i]? ≠ some (some t))
    (ok : BlkOk X.N X.env.scope scope own) (hg : ∀ s H C cl fp, FG (blkX X scope s H C cl fp) (own.map (·.2)) (fun _ : α => Gw) tg A (fun z => z) G2) (ht : ∀ a s H C cl fp, FTs (blkX X scope s H C cl fp) W0 (G2 a) ifs (c a)) (he : ∀ a s H C cl fp, FE (blkX X scope s H C cl fp) W0 (G2 a) elt (f a) E.up)
    (hs : ∀ x, foldedSetIterable iter X.env x = pure x) {σ : St} {H : Hp} {Q : VK} (h : tE X.K W G (m.bind fun as => lcL c f as []) (ro (tL X.K E)) σ H Q) : tLc (iTup X.K (tE X.K W G m (fTupL X.K A).up)) (tGt (own.map (·.2)) (fun _ : α => Gw) A (fun z => z) G2) (tTu X.K G2 c) (tEu X.K G2 f E) (own.map (·.2)) σ H Q := by
  obtain ⟨B, tl, F, T⟩ := h
  refine ⟨B, tl, F, T.seq fun as F1 H1 _ g1 T1 v ⟨q, vs, ev, hq0, pw⟩ => ?_⟩
  subst ev
  have hq := sqT_ex g1.fh hq0
  refine ⟨q, rfl, ⟨vs, hq⟩, fun D hD => ?_⟩
  have st := T1.st.wipe d hw
  refine lc_tup (K := X.K) (a := q) (xs := vs) (g := tGt (own.map (·.2)) (fun _ : α => Gw) A (fun z => z) G2) (tt := tTu X.K G2 c) (te := tEu X.K G2 f E) (D := D) (Qd := fun H => Q (.ref D) H) (fun i H => ∃ F acc accv, Gr F1 H1 F H ∧ F D = none ∧ H D = some (.lst accv) ∧ Pw (fun b x => E.r b F x) acc accv ∧ lcL c f as [] = lcL c f (as.drop i) acc) ?_ ?_ ?_ ?_
  · exact ⟨F1, [], [], Gr.newM g1.fh hD, g1.fh.free hD, upd_same, .nil, rfl⟩
  · rintro i H _ ⟨F, acc, accv, g, _⟩
    exact sqT_ex g.h hq
  · rintro i x H hx ⟨F, acc, accv, g, hF, hDl, pa, el⟩
    obtain ⟨a, ha, hv⟩ := pw.getV hx
    refine lc_turn st rfl hD ha g hF (A.st hv g.f) hDl pa (by rw [← el]; exact T1.ne) (te := tEu X.K G2 f E) (tt := tTu X.K G2 c) (fun _ _ _ h => h) (fun _ _ _ h => h) fun F' H' acc' accv' g' h1 h2 h3 h4 => ⟨F', acc', accv', g', h1, h2, h3, el.trans h4⟩
  · rintro H ⟨F, acc, accv, g, hF, hDl, pa, el⟩
    rw [← pw.len, List.drop_length] at el
    refine T1.ok acc el F H g (.ref D) ⟨[D], ⟨D, accv, rfl, hDl, pa, rfl⟩, fun y hy => ?_⟩
    cases List.mem_singleton.mp hy
    exact ⟨g1.h.free hD, hF, .of hDl⟩
theorem fe_lcTL {elt tg iter : Expr} {ifs : List Expr} {scope : Scope} {own : List (Str × Nat)} {pos : Pos} {m : M (List α)} {c : α → M Bool} {f : α → M β} {G2 : α → Gm} (C : Cok X W kk) (hi : FE X W G iter m (fTupL X.K A).up) (d : Imp G Gw) (hw : ∀ i ∈ own.map (·.2), ∀ t, Gw[i]? ≠ some (some t))
    (ok : BlkOk X.N X.env.scope scope own) (hg : ∀ s H C cl fp, FG (blkX X scope s H C cl fp) (own.map (·.2)) (fun _ : α => Gw) tg A (fun z => z) G2) (ht : ∀ a s H C cl fp, FTs (blkX X scope s H C cl fp) W0 (G2 a) ifs (c a)) (he : ∀ a s H C cl fp, FE (blkX X scope s H C cl fp) W0 (G2 a) elt (f a) E.up)
    (hs : ∀ x, foldedSetIterable iter X.env x = pure x := by intro _; rfl) : FE X W G (.ListComp elt [⟨tg, iter, ifs, 0⟩] scope pos) (m.bind fun as => lcL c f as []) (ro (tL X.K E)) :=
  PE.weak (pe_lc (tt := tTu X.K G2 c) (te := tEu X.K G2 f E) C.calm C.nd (pi_tup hi) ok (fun s H C cl fp => hg s H C cl fp) (fun s H C cl fp => ⟨fun pins s1 σ H1 Q I ⟨a, q⟩ => (ht a s H C cl fp).run pins s1 σ H1 Q I q⟩) (fun s H C cl fp => ⟨fun pins s1 σ H1 Q I ⟨a, q⟩ => (he a s H C cl fp).run pins s1 σ H1 Q I q⟩) hs) fun σ H Q h => tLcT_run C hi d hw ok hg ht he hs h
end
end LK
namespace LK
open PySem L2
/-! ### tuples that stand in the frozen heap; dicts whose keys are such -/
theorem tup_xs {F F' : Hp} {a : Addr} {vs : List V} (e : XS F F') (h : F a = some (.tup vs)) : F' a = some (.tup vs) := by
  rcases e a _ h with q | ⟨w, hw, ho, q⟩
  · exact q
  · rcases ho with rfl | ⟨z, e⟩
    · exact hw.elim
    · cases e
def fTS {α : Type} (T : Tv α) : Rf α := ⟨fun a F v => ∃ p vs, v = .ref p ∧ F p = some (.tup vs) ∧ T.r a F vs, fun ⟨p, vs, e, h, q⟩ x => ⟨p, vs, e, tup_xs x h, T.sx q x⟩⟩
theorem fTS_w {K : PySem.W.Frag} {α : Type} {T : Tv α} {a : α} {F : Hp} {v : V} (h : (fTS T).r a F v) : (fTup K T).r a F v := by
  obtain ⟨p, vs, e, h1, h2⟩ := h
  exact ⟨p, vs, e, .inl (.inl h1), h2⟩
structure KYT (κ : Type) where
  A : Rf κ
  ok : κ → Prop
  k : κ → List Key
  inj : ∀ {a b}, k a = k b → a = b
  of : ∀ {x F v}, A.r x F v → ∃ p, v = .ref p ∧ F p = some (.tup ((k x).map kV)) ∧ ok x
  to : ∀ {x p F}, ok x → F p = some (.tup ((k x).map kV)) → A.r x F (.ref p)
def kTT : KYT (List Nat × List Nat) := ⟨fTS (tvc fTxt (tv1 fTxt)), fun x => tOk x.1 ∧ tOk x.2, fun x => [.inr (S x.1), .inr (S x.2)],
  fun {a b} h => by
    simp only [List.cons.injEq, Sum.inr.injEq, and_true] at h
    exact Prod.ext (S_inj h.1) (S_inj h.2),
  fun {x F v} ⟨p, vs, e, h, x1, r1, q1, h1, x2, q2, h2⟩ => by
    subst q1 q2
    obtain ⟨rfl, t1⟩ := h1
    obtain ⟨rfl, t2⟩ := h2
    exact ⟨p, e, h, t1, t2⟩,
  fun {x p F} ⟨t1, t2⟩ h => ⟨p, _, rfl, h, _, _, rfl, ⟨rfl, t1⟩, _, rfl, rfl, t2⟩⟩
inductive PdT {κ α : Type} (T : KYT κ) (R : α → V → Prop) : List (κ × α) → List (List Key × V) → Prop where
  | nil : PdT T R [] []
  | cons {k a v r ws} : T.ok k → R a v → PdT T R r ws → PdT T R ((k, a) :: r) ((T.k k, v) :: ws)
section
variable {κ α : Type} {T : KYT κ}
theorem PdT.imp {R R' : α → V → Prop} (f : ∀ a v, R a v → R' a v) : ∀ {as vs}, PdT T R as vs → PdT T R' as vs
  | _, _, .nil => .nil
  | _, _, .cons t h r => .cons t (f _ _ h) (r.imp f)
theorem PdT.len {R : α → V → Prop} : ∀ {as vs}, PdT T R as vs → as.length = vs.length
  | _, _, .nil => rfl
  | _, _, .cons _ _ r => congrArg (· + 1) r.len
theorem PdT.keys {R : α → V → Prop} : ∀ {d ws}, PdT T R d ws → ws.map (·.1) = d.map fun p => T.k p.1
  | _, _, .nil => rfl
  | _, _, .cons t h p => by rw [List.map_cons, List.map_cons, p.keys]
theorem PdT.tks {R : α → V → Prop} : ∀ {d ws}, PdT T R d ws → ∀ p ∈ d, T.ok p.1
  | _, _, .nil, _, h => nomatch h
  | _, _, .cons t h p, x, hx => (List.mem_cons.mp hx).elim (fun e => by rw [e]; exact t) (p.tks x)
theorem PdT.at {R : α → V → Prop} : ∀ {d : List (κ × α)} {ws : List (List Key × V)}, PdT T R d ws → ∀ {i : Nat} {k : List Key} {v : V}, ws[i]? = some (k, v) → ∃ kk a, d[i]? = some (kk, a) ∧ k = T.k kk ∧ T.ok kk ∧ R a v
  | _, _, .nil, i, k, v, h => by simp at h
  | _, _, @PdT.cons _ _ _ _ k' a v' r ws t h p, 0, k, v, e => by
    simp only [List.getElem?_cons_zero, Option.some.injEq, Prod.mk.injEq] at e
    exact ⟨k', a, rfl, e.1.symm, t, by rw [← e.2]; exact h⟩
  | _, _, @PdT.cons _ _ _ _ k' a v' r ws t h p, i + 1, k, v, e => by
    rw [List.getElem?_cons_succ] at e
    obtain ⟨kk, a', h1, h2, h3, h4⟩ := p.at e
    exact ⟨kk, a', by rw [List.getElem?_cons_succ]; exact h1, h2, h3, h4⟩
variable [DecidableEq κ]
theorem KYT.iff {k k' : κ} : (T.k k = T.k k') ↔ k = k' := ⟨T.inj, fun h => by rw [h]⟩
theorem KYT.dec (k k' : κ) : decide (T.k k = T.k k') = decide (k = k') := decide_eq_decide.mpr T.iff
theorem PdT.get {R : α → V → Prop} {k : κ} : ∀ {d ws}, PdT T R d ws → (dget d k = none ∧ valV ws (T.k k) = none) ∨ ∃ a v, dget d k = some a ∧ valV ws (T.k k) = some v ∧ R a v
  | _, _, .nil => .inl ⟨rfl, rfl⟩
  | _, _, @PdT.cons _ _ _ _ k' a v r ws t h p => by
    by_cases e : k' = k
    · subst e
      exact .inr ⟨a, v, by simp [dget], by simp [valV], h⟩
    · have e1 : dget ((k', a) :: r) k = dget r k := by simp [dget, List.find?_cons, e]
      have e2 : valV ((T.k k', v) :: ws) (T.k k) = valV ws (T.k k) := valV_neg (fun z => e (T.iff.mp z))
      rw [e1, e2]
      exact p.get
theorem PdT.any {R : α → V → Prop} {k : κ} : ∀ {d ws}, PdT T R d ws → (ws.any fun kv => decide (kv.1 = T.k k)) = d.any fun p => decide (p.1 = k)
  | _, _, .nil => rfl
  | _, _, .cons t h p => by rw [List.any_cons, List.any_cons, p.any, KYT.dec]
theorem PdT.map {R : α → V → Prop} {k : κ} {a : α} {v : V} (ha : R a v) : ∀ {d ws}, PdT T R d ws → PdT T R (d.map fun p => if p.1 = k then (p.1, a) else p) (ws.map fun kv => if kv.1 = T.k k then (kv.1, v) else kv)
  | _, _, .nil => .nil
  | _, _, @PdT.cons _ _ _ _ k' _ _ r ws t h p => by
    rw [List.map_cons, List.map_cons]
    by_cases e : k' = k
    · rw [if_pos e, if_pos (T.iff.mpr e)]
      exact .cons t ha (p.map ha)
    · rw [if_neg e, if_neg (fun z => e (T.iff.mp z))]
      exact .cons t h (p.map ha)
theorem PdT.snoc {R : α → V → Prop} {k : κ} {a : α} {v : V} (t : T.ok k) (ha : R a v) : ∀ {d ws}, PdT T R d ws → PdT T R (d ++ [(k, a)]) (ws ++ [(T.k k, v)])
  | _, _, .nil => .cons t ha .nil
  | _, _, .cons t' h p => .cons t' h (p.snoc t ha)
theorem PdT.put {R : α → V → Prop} {k : κ} {a : α} {v : V} {d ws} (t : T.ok k) (ha : R a v) (p : PdT T R d ws) : PdT T R (dput d k a) (putK ws (T.k k) v) := by
  unfold dput putK
  rw [p.any]
  split
  · exact p.map ha
  · exact p.snoc t ha
theorem PdT.del {R : α → V → Prop} {k : κ} : ∀ {d ws}, PdT T R d ws → PdT T R (ddel d k) (dropK ws (T.k k))
  | _, _, .nil => .nil
  | _, _, @PdT.cons _ _ _ _ k' _ _ r ws t h p => by
    unfold ddel dropK
    rw [List.filter_cons, List.filter_cons]
    by_cases e : k' = k
    · rw [if_neg (by simpa using e), if_neg (by simpa using T.iff.mpr e)]
      exact p.del
    · rw [if_pos (by simpa using e), if_pos (by simpa using fun z => e (T.iff.mp z))]
      exact .cons t h p.del
end

/-- a dict -/
def tDT {κ α : Type} (T : KYT κ) (A : Rf α) : Th (List (κ × α)) := ⟨fun d F X v => ∃ p ws, v = .ref p ∧ Rd X p (.dT ws) ∧ PdT T (fun a x => A.r a F x) d ws,
  fun d F H v ms => ∃ p ws, v = .ref p ∧ H p = some (.dT ws) ∧ PdT T (fun a x => A.r a F x) d ws ∧ ms = [p],
  fun ⟨p, vs, e, h, q⟩ x y => ⟨p, vs, e, Rd.xs y h fun _ _ z => (nomatch z), q.imp fun _ _ z => A.sx z x⟩,
  fun ⟨p, vs, e, h, q, m⟩ x k => ⟨p, vs, e, k p (by rw [m]; simp) _ h, q.imp fun _ _ z => A.sx z x, m⟩,
  fun ⟨p, vs, e, h, q, m⟩ k _ => ⟨p, vs, e, .inl (k p (by rw [m]; simp) _ h), q⟩⟩
abbrev bDT {κ α : Type} (T : KYT κ) (A : Rf α) : Rl (List (κ × α)) := nw (tDT T A)
section
variable {ε : Type} {Eh : EH ε} {X : Cx} {W : WX} {G : Gm} {kk : Nat} {κ α : Type} [DecidableEq κ] {T : KYT κ} {A : Rf α}
/-- d[k] -/
theorem fe_dgetT {o i : Expr} {pos : Pos} {md : M (List (κ × α))} {mk : M κ} (C : Cok X W kk) (ho : FE X W G o md (bDT T A)) (hi : FE X W G i mk T.A.up) (hs : NoSl i := by intro _ _; rfl) : FE X W G (.Subscript o i pos) (md.bind fun d => mk.bind fun k => oget (dget d k)) A.up :=
  PE.weak (pe_dget C.un ho hi hs) fun σ H Q ⟨B, tl, F, D⟩ => ⟨B, tl, F, D.seq fun d F1 H1 e1 g1 T1 v rv => ⟨B, tl, F1, T1.seq fun k F2 H2 e2 g2 T2 w rw' => by
    obtain ⟨p, ws, rfl, h, q⟩ := (bDT T A).st rv g2
    obtain ⟨b, rfl, hb, ht⟩ := T.of rw'
    rcases q.get (k := k) with ⟨h1, h2⟩ | ⟨a, x, h1, h2, h3⟩
    · exact absurd (by rw [h1]; rfl) T2.ne
    · rw [h1] at T2
      exact ⟨p, x, rfl, .inr ⟨ws, T.k k, b, h, rfl, g2.fh _ _ hb, h2.symm⟩, T2.ok a rfl F2 H2 (Gr.refl g2.fh) x h3⟩⟩⟩
/-- an empty one -/
theorem fe_dnewT {pos : Pos} : FE X W G (.Dict [] [] pos) (M.ok ([] : List (κ × α))) (ro (tDT T A)) :=
  fe_now pe_dnewT fun B tl σ F H Q st k => fun p hp => k (.ref p) F _ (Gr.newM st.fh hp) ⟨[p], ⟨p, [], rfl, upd_same, .nil, rfl⟩, fun y hy => by
    cases List.mem_singleton.mp hy
    exact ⟨hp, st.fh.free hp, NT.up⟩⟩
/-- list(d) -/
theorem keys_pw {R : α → V → Prop} {H F' : Hp} : ∀ {d : List (κ × α)} {ws : List (List Key × V)} {bs : List Addr}, PdT T R d ws → Paired (fun p b => H b = some (.tup (p.1.map kV))) ws bs → (∀ b ∈ bs, ∀ o, H b = some o → F' b = some o) → Pw (fun a x => T.A.r a F' x) (d.map (·.1)) (bs.map V.ref)
  | _, _, _, .nil, .nil, _ => .nil
  | _, _, _, .cons t h p, .cons h2 q, hf => .cons (T.to t (hf _ List.mem_cons_self _ h2)) (keys_pw p q fun b hb => hf b (List.mem_cons_of_mem _ hb))
theorem keys_tup {H : Hp} : ∀ {ws : List (List Key × V)} {bs : List Addr}, Paired (fun p b => H b = some (.tup (p.1.map kV))) ws bs → ∀ b ∈ bs, ∃ xs, H b = some (.tup xs)
  | _, _, .nil, b, hb => nomatch hb
  | _, _, .cons h2 q, b, hb => by
    rcases List.mem_cons.mp hb with rfl | hb
    · exact ⟨_, h2⟩
    · exact keys_tup q b hb
theorem cl_listDT {K : PySem.W.Frag} {d : List (κ × α)} : CallP (fun xs H Q => ∃ d kvs, xs = [V.ref d] ∧ Rd H d (.dT kvs) ∧ ∀ p bs, H p = none → IsKeys H kvs bs → Q (.ref p) (upd H p (.lst (bs.map V.ref)))) (a1 (bDT T A)) (d, ()) (M.ok (d.map (·.1))) (ro (tL K T.A)) :=
  ⟨fun e q => (nomatch q), fun F H vs H0 Q x ⟨v, r, e, ⟨p, ws, ev, h, q⟩, h2⟩ c ec k => by
    cases M.ok_inj ec
    cases h2
    subst ev
    subst e
    refine ⟨p, ws, rfl, h, fun l bs hl hk => ?_⟩
    let F' : Hp := fun a => if a ∈ bs then H a else F a
    have f1 : ∀ {a}, a ∈ bs → F' a = H a := fun hx => if_pos hx
    have f2 : ∀ {a}, a ∉ bs → F' a = F a := fun hx => if_neg hx
    have x1 : Ex F F' := fun a o ha => by
      by_cases z : a ∈ bs
      · rw [f1 z]; exact x a o ha
      · rw [f2 z]; exact ha
    have lb : l ∉ bs := fun z => by
      obtain ⟨xs, hx⟩ := keys_tup hk l z
      rw [hl] at hx
      cases hx
    have x2 : Ex F' (upd H l (.lst (bs.map V.ref))) := fun a o ha => by
      have hal : a ≠ l := fun z => by
        subst z
        rw [f2 lb] at ha
        have := x _ _ ha
        rw [hl] at this
        cases this
      rw [upd_ne hal]
      by_cases z : a ∈ bs
      · rw [f1 z] at ha; exact ha
      · rw [f2 z] at ha; exact x a o ha
    have g : Gr F H F' (upd H l (.lst (bs.map V.ref))) := ⟨x1, Ex.new hl, x2, fun a h1 h2 => by
      by_cases z : a ∈ bs
      · obtain ⟨xs, hx⟩ := keys_tup hk a z
        obtain ⟨o, h3, h4⟩ := h2
        rw [hx] at h3
        cases h3
        exact absurd rfl (h4 xs)
      · rw [f2 z]; exact h1⟩
    refine k (.ref l) F' _ g ⟨[l], ⟨l, _, rfl, upd_same, keys_pw q hk fun b hb o ho => by rw [f1 hb]; exact ho, rfl⟩, fun y hy => ?_⟩
    cases List.mem_singleton.mp hy
    exact ⟨hl, by rw [f2 lb]; exact x.free hl, NT.up⟩⟩
end
section
variable {ε : Type} {Eh : EH ε} {X : Cx} {W : WX} {G : Gm} {kk : Nat} {κ α : Type} [DecidableEq κ] {T : KYT κ} {A : Rf α}
variable {tl : List Nat} {ρ b s : Type} {R : ρ → V → Gm} {Gb : b → Gm} {N : s → Gm}
/-- o[k] = e, the dict at place j known by its value -/
theorem fs_dputT {j : Nat} {q : V} {o i value : Expr} {pos pos' : Pos} {rest : List Stmt} {d : List (κ × α)} {p : Er → ε} {mv : M α} {mk : M κ} {g : κ → α → Mg ε (Fl ρ b s)} (C : Cok X W kk)
    (hG : G[j]? = some (some (pn q (ob (tDT T A) d)))) (ho : FE X W G o (M.ok ()) (rV q)) (hv : FE X W G value mv A.up) (hi : FE X W G i mk T.A.up) (hr : ∀ k a, FS X W Eh tl (G.set j (some (pn q (ob (tDT T A) (dput d k a))))) rest (g k a) R Gb N)
    (hs : swapsWith value (some (.Subscript o i pos')) pos.line X.env = pure false := by rfl) (hp : Pay Eh G p := by exact pay0 rfl) :
    FS X W Eh tl G (.Assign [.Subscript o i pos'] value pos :: rest) (mv.bindP p fun a => mk.bindP p fun k => M.need (d.length < sizeLine) (g k a)) R Gb N :=
  PSs.weak (pss_cons (ps_dput C.un ho hi hv hs) (pss_ex fun z : κ × α => hr z.1 z.2)) fun D σ H ⟨B, F, T0⟩ => by
    refine ⟨B, tl, F, T0.tellE hp fun a F1 H1 ea g1 v rv => ?_⟩
    have T1 := T0.rest ea (T0.st.grow g1)
    have T1' : ToldS X.K W Eh tl G ((M.ok () : M Unit).bindP p fun _ => mk.bindP p fun k => M.need (d.length < sizeLine) (g k a)) R Gb N D σ H1 B F1 := T1
    refine ⟨B, tl, F1, T1'.tellE hp fun _ F3 H3 e3 g3 vo ro' => ?_⟩
    have T1 := T1'.rest e3 (T1.st.grow g3)
    refine ⟨B, tl, F3, T1.tellE hp fun k F2 H2 ek g2 w rw' => ?_⟩
    obtain ⟨bk, ew, hbk, ht⟩ := T.of rw'
    subst ew
    have T2 := T1.rest ek (T1.st.grow g2)
    obtain ⟨hlt, e2⟩ := M.need_ne T2.ne
    obtain ⟨ms, z2⟩ := T2.st.sl
    obtain ⟨u, h1, rfl, qa, ws, rfl, hh, pw, em⟩ := z2.has j _ hG
    cases (show vo = V.ref qa from ro')
    obtain ⟨hF, hH⟩ := z2.mem j qa (by rw [em]; simp)
    refine ⟨qa, _, rfl, .inr ⟨ws, T.k k, bk, hh, rfl, g2.fh _ _ hbk, by rw [← pw.len]; exact hlt, rfl⟩, (k, a), B, F2, ?_⟩
    rw [e2] at T2
    refine ⟨T2.st.mut z2 hG rfl h1 (by rw [em]; exact GrX.at T2.st.fh hF) ⟨rfl, qa, _, rfl, upd_same, pw.put ht (A.st rv (g3.trans g2).f), rfl⟩ (fun y hy => ?_), T2.ne, T2.ret, T2.nx, T2.bk, T2.ct, T2.er⟩
    cases List.mem_singleton.mp hy
    exact ⟨.inl (by rw [em]; simp), hF, NT.up⟩
end
/-! del -/
section
variable {X : Cx} {pins : List (Addr × Obj)} {σ : St} {H : Hp} {s : Shared} {a b : Addr} {kvs : List (List Key × V)} {k : List Key} {A : Around} {E : Value → Shared → Prop}
theorem d_delItemT {Q : Unit → Shared → Prop} (hu : A.units + 1 < cLine) (I : Inv X pins σ H s) (e : H a = some (.dT kvs)) (eb : H b = some (.tup (k.map kV))) (l : (valV kvs k).isSome = true) (h : ∀ s', Inv X pins σ (upd H a (.dT (dropK kvs k))) s' → Q () s') :
    wpAny (model X.prog X.w) A (delItem (.ref a) (.ref b)) Q E s := by
  obtain ⟨z, hd, xs, rel, dd⟩ := dt_of I.hok e
  have hz : xs.length ≤ sizeLine := by rw [← Paired.length rel]; exact z
  obtain ⟨p, hp⟩ : ∃ p, atKey xs k = some p := by
    have r := rel.val k
    cases hq : atKey xs k with
    | some p => exact ⟨p, rfl⟩
    | none =>
      rw [hq] at r
      cases ev : valV kvs k with
      | none => rw [ev] at l; cases l
      | some v0 => rw [ev] at r; exact (show False from r).elim
  refine wpAny_delItem_heap (hsz := hz) (tupleKind_room_in1 hu) (key_of I.hok eb) hd dd hp fun h' dd' hs => h _ ?_
  obtain ⟨q, es, ep, hq, h2, h3, h4, _, h5⟩ := dd'
  refine d_write I (by rw [e]; exact True.intro) hs ⟨q, hq⟩ ⟨Nat.le_trans (dropK_le kvs k) z, hd, _, (DX.KT_drop k rel).keeps (fun c ys ec => (by rw [upd_ne (ne_of ec e (fun z => nomatch z))]; exact ec)), q, es, ep, hq, h2, h3, h4, h5⟩
end
def sDDelT (td ty : TE) : TS := fun D σ H => td σ H fun x H1 => ty σ H1 fun y H2 => ∃ a kvs k b, x = .ref a ∧ H2 a = some (.dT kvs) ∧ y = .ref b ∧ H2 b = some (.tup (k.map kV)) ∧ (valV kvs k).isSome = true ∧ D.nx σ (upd H2 a (.dT (dropK kvs k)))
theorem ps_ddelT {X : Cx} {o i : Expr} {pos tpos : Pos} {td ty : TE} (hu : X.A.units + 1 < cLine) (ho : PE X o td) (hi : PE X i ty) : PS X (.Delete [.Subscript o i tpos] pos) (sDDelT td ty) := by
  refine ⟨fun pins s σ H D I h => ?_⟩
  refine wpAny_Delete (wpAny_deleteEach_cons (wpAny_delete_Subscript (thn (ho.run pins s σ H _ I h) fun u s1 ⟨x, H1, I1, rx, q1⟩ => thn (hi.run pins s1 σ H1 _ I1 q1) fun iv s2 ⟨y, H2, I2, ry, a, kvs, k, b, ex, e, ey, eb, l, q2⟩ => ?_)))
  subst ex ey
  obtain rfl : u = Value.ref a := rx
  obtain rfl : iv = Value.ref b := ry
  exact d_delItemT hu I2 e eb l fun s3 I3 => wpAny_deleteEach_nil ⟨σ, _, I3, q2⟩
section
variable {ε : Type} {Eh : EH ε} {X : Cx} {W : WX} {G : Gm} {kk : Nat} {κ α : Type} [DecidableEq κ] {T : KYT κ} {A : Rf α}
variable {tl : List Nat} {ρ b s : Type} {R : ρ → V → Gm} {Gb : b → Gm} {N : s → Gm}
/-- del o[k] -/
theorem fs_ddelT {j : Nat} {q : V} {o i : Expr} {pos pos' : Pos} {rest : List Stmt} {d : List (κ × α)} {p : Er → ε} {mk : M κ} {g : κ → Mg ε (Fl ρ b s)} (C : Cok X W kk)
    (hG : G[j]? = some (some (pn q (ob (tDT T A) d)))) (ho : FE X W G o (M.ok ()) (rV q)) (hi : FE X W G i mk T.A.up) (hr : ∀ k, FS X W Eh tl (G.set j (some (pn q (ob (tDT T A) (ddel d k))))) rest (g k) R Gb N) (hp : Pay Eh G p := by exact pay0 rfl) :
    FS X W Eh tl G (.Delete [.Subscript o i pos'] pos :: rest) (mk.bindP p fun k => M.need ((dget d k).isSome = true) (g k)) R Gb N :=
  PSs.weak (pss_cons (ps_ddelT C.un ho hi) (pss_ex hr)) fun D σ H ⟨B, F, T0⟩ => by
    have T1' : ToldS X.K W Eh tl G ((M.ok () : M Unit).bindP p fun _ => mk.bindP p fun k => M.need ((dget d k).isSome = true) (g k)) R Gb N D σ H B F := T0
    refine ⟨B, tl, F, T1'.tellE hp fun _ F3 H3 e3 g3 vo ro' => ?_⟩
    have T1 := T1'.rest e3 (T0.st.grow g3)
    refine ⟨B, tl, F3, T1.tellE hp fun k F2 H2 ek g2 w rw' => ?_⟩
    obtain ⟨bk, ew, hbk, ht⟩ := T.of rw'
    subst ew
    have T2 := T1.rest ek (T1.st.grow g2)
    obtain ⟨hlt, e2⟩ := M.need_ne T2.ne
    obtain ⟨ms, z2⟩ := T2.st.sl
    obtain ⟨u, h1, rfl, qa, ws, rfl, hh, pw, em⟩ := z2.has j _ hG
    cases (show vo = V.ref qa from ro')
    obtain ⟨hF, hH⟩ := z2.mem j qa (by rw [em]; simp)
    have hsome : (valV ws (T.k k)).isSome = true := by
      rcases pw.get (k := k) with ⟨q1, q2⟩ | ⟨a, v, q1, q2, q3⟩
      · rw [q1] at hlt; cases hlt
      · rw [q2]; rfl
    refine ⟨qa, ws, T.k k, bk, rfl, hh, rfl, g2.fh _ _ hbk, hsome, k, B, F2, ?_⟩
    rw [e2] at T2
    refine ⟨T2.st.mut z2 hG rfl h1 (by rw [em]; exact GrX.at T2.st.fh hF) ⟨rfl, qa, _, rfl, upd_same, pw.del, rfl⟩ (fun y hy => ?_), T2.ne, T2.ret, T2.nx, T2.bk, T2.ct, T2.er⟩
    cases List.mem_singleton.mp hy
    exact ⟨.inl (by rw [em]; simp), hF, NT.up⟩
end
/-! sorted, and they stay strict -/
theorem cl_sortR {K : PySem.W.Frag} {α : Type} {T : Tv α} {R : Rf α} {enc : α → List At} {as : List α} (hR : ∀ a F v, R.r a F v → (fTup K T).r a F v) (hE : EncT T enc) (hne : ∀ a, enc a ≠ []) : CallP (rSortA K) (a1 (bLst K R)) (as, ()) (M.ok (sortE enc as)) (ro (tL K R)) :=
  ⟨fun e q => (nomatch q), fun F H vs H0 Q x ⟨v, r, e, ⟨p, ws, ev, h, q⟩, h2⟩ c ec k => by
    cases M.ok_inj ec
    cases h2
    subst ev
    subst e
    obtain ⟨z1, z2, z3⟩ := pw_zip q
    let ps := as.zip ws
    have hc : ∃ c, ∀ a, ∃ y r, enc a = y :: r ∧ y.kd = c := by
      by_cases he : Nonempty α
      · obtain ⟨a0⟩ := he
        cases e0 : enc a0 with
        | nil => exact absurd e0 (hne a0)
        | cons y0 r0 =>
          refine ⟨y0.kd, fun a => ?_⟩
          cases ea : enc a with
          | nil => exact absurd ea (hne a)
          | cons y r =>
            have := hE.kd a a0
            rw [ea, e0] at this
            simp only [List.map_cons, List.cons.injEq] at this
            exact ⟨y, r, rfl, this.1⟩
      · exact ⟨true, fun a => absurd ⟨a⟩ he⟩
    obtain ⟨c, hc⟩ := hc
    refine ⟨p, ps.map fun z => (z.2, enc z.1), c, rfl, ?_, fun z hz => ?_, fun z hz y hy => ?_, fun z hz => ?_, fun zs' l hp hs hl => ?_⟩
    · rw [List.map_map]
      show SqL K H p (ps.map (·.2))
      rw [z2]
      exact h
    · obtain ⟨y, hy, rfl⟩ := List.mem_map.mp hz
      obtain ⟨t, ws', e1, e2, e3⟩ := hR _ _ _ (z3 y hy)
      refine ⟨t, e1, ?_⟩
      rw [← hE.run _ _ _ e3]
      exact sqT_ex x e2
    · obtain ⟨y1, _, rfl⟩ := List.mem_map.mp hz
      obtain ⟨y2, _, rfl⟩ := List.mem_map.mp hy
      exact hE.kd _ _
    · obtain ⟨y1, _, rfl⟩ := List.mem_map.mp hz
      exact hc _
    · obtain ⟨ps', hp', e'⟩ := perm_lift (fun z : α × V => (z.2, enc z.1)) hp ps rfl
      subst e'
      have es : ps'.map (·.1) = sortE enc as := by
        refine sortE_uniq hE.inj ?_ ?_
        · have := hp'.map (·.1)
          rw [show ps.map (·.1) = as from z1] at this
          exact this
        · refine List.pairwise_map.mpr ((List.pairwise_map.mp hs).imp fun h => ?_)
          unfold leE
          rw [h]
          rfl
      rw [List.map_map]
      refine k (.ref l) F _ (Gr.newM x hl) ⟨[l], ⟨l, _, rfl, upd_same, ?_, rfl⟩, fun y hy => ?_⟩
      · rw [← es]
        exact (zip_pw (R := fun a v => R.r a F v) fun z hz => z3 z (hp'.mem_iff.mp hz))
      · cases List.mem_singleton.mp hy
        exact ⟨hl, x.free hl, NT.up⟩⟩
/-! a display; what is strict is a tuple -/
section
variable {X : Cx} {W : WX} {G : Gm}
theorem fe_tupS {α β : Type} {es : List Expr} {k : Nat} {pos : Pos} {m : M α} {R : Ra α} {T : Tv β} {l : α → β} (h : FA X W G es m R) (hl : To T R l) (hz : ∀ a H0 F H vs, R.r a H0 F H vs → vs.length ≤ sizeLine) : FE X W G (.Tuple es k pos) (m.bind fun a => M.ok (l a)) (fTS T).up :=
  PE.weak (pe_tup h) fun σ H Q ⟨B, tl, F, D⟩ => ⟨B, tl, F, D.seq fun a F1 H1 _ g1 D1 vs r => by
    have q := hl.run _ _ _ _ _ r
    exact ⟨hz _ _ _ _ _ r, fun p hp => D1.ok (l a) rfl _ _ (Gr.newF g1.fh hp) (.ref p) ⟨p, vs, rfl, upd_same, T.st q (Ex.new (g1.fh.free hp))⟩⟩⟩
theorem fv_tupS {α β : Type} {es : List Expr} {k : Nat} {pos : Pos} {a : α} {R : Ra α} {T : Tv β} {l : α → β} {ls : β} (h : FA X W G es (M.ok a) R) (hl : To T R l) (hz : ∀ a H0 F H vs, R.r a H0 F H vs → vs.length ≤ sizeLine) (hme : l a = ls := by rfl) : FE X W G (.Tuple es k pos) (M.ok ls) (fTS T).up := by
  rw [← hme]
  exact fe_tupS h hl hz
theorem fe_sw {α : Type} {T : Tv α} {e : Expr} {m : M α} (h : FE X W G e m (fTS T).up) : FE X W G e m (fTup X.K T).up := fe_imp h fun a H0 F H v x r => fTS_w r
theorem fe_lswo {α : Type} {T : Tv α} {e : Expr} {m : M (List α)} (h : FE X W G e m (ro (tL X.K (fTS T)))) : FE X W G e m (ro (tL X.K (fTup X.K T))) := fe_imp h fun a H0 F H v x ⟨ms, ⟨p, vs, e, h1, q, em⟩, k⟩ => ⟨ms, ⟨p, vs, e, h1, q.imp fun _ _ z => fTS_w z, em⟩, k⟩
theorem fe_lswb {α : Type} {T : Tv α} {e : Expr} {m : M (List α)} (h : FE X W G e m (bLst X.K (fTS T))) : FE X W G e m (bLst X.K (fTup X.K T)) := fe_imp h fun a H0 F H v x ⟨p, vs, e, h1, q⟩ => ⟨p, vs, e, h1, q.imp fun _ _ z => fTS_w z⟩
theorem fe_lswv {α : Type} {T : Tv α} {e : Expr} {m : M (List α)} (h : FE X W G e m (fLst X.K (fTS T)).up) : FE X W G e m (fLst X.K (fTup X.K T)).up := fe_imp h fun a H0 F H v x ⟨p, vs, e, h1, q⟩ => ⟨p, vs, e, h1, q.imp fun _ _ z => fTS_w z⟩
end
end LK
namespace LK
open PySem L2
/-! ### a frozen list of several types, its length known -/
def fMix (K : PySem.W.Frag) {α : Type} (T : Tv α) : Rf α := ⟨fun a F v => ∃ p vs, v = .ref p ∧ SqL K F p vs ∧ T.r a F vs, fun ⟨p, vs, e, h, q⟩ x => ⟨p, vs, e, sqL_xs x h, T.sx q x⟩⟩
section
variable {X : Cx} {W : WX} {G : Gm}
theorem fe_mix {α β : Type} {es : List Expr} {pos : Pos} {m : M α} {R : Ra α} {T : Tv β} {l : α → β} (h : FA X W G es m R) (hl : To T R l) (hz : ∀ a H0 F H vs, R.r a H0 F H vs → vs.length ≤ sizeLine) : FE X W G (.List es pos) (m.bind fun a => M.ok (l a)) (fMix X.K T).up :=
  PE.weak (pe_lst h) fun σ H Q ⟨B, tl, F, D⟩ => ⟨B, tl, F, D.seq fun a F1 H1 _ g1 D1 vs r => by
    have q := hl.run _ _ _ _ _ r
    exact ⟨hz _ _ _ _ _ r, fun p hp => D1.ok (l a) rfl _ _ (Gr.newF g1.fh hp) (.ref p) ⟨p, vs, rfl, .inl (.inl upd_same), T.st q (Ex.new (g1.fh.free hp))⟩⟩⟩
theorem fv_mix {α β : Type} {es : List Expr} {pos : Pos} {a : α} {R : Ra α} {T : Tv β} {l : α → β} {ls : β} (h : FA X W G es (M.ok a) R) (hl : To T R l) (hz : ∀ a H0 F H vs, R.r a H0 F H vs → vs.length ≤ sizeLine) (hme : l a = ls := by rfl) : FE X W G (.List es pos) (M.ok ls) (fMix X.K T).up := by
  rw [← hme]
  exact fe_mix h hl hz
theorem ol_ixM {K : PySem.W.Frag} {α β : Type} {T : Tv α} {A : Rf β} {i : Nat} {a : α} {b : β} (p : Part T A i a b) : OpP (rIxL K) (fMix K T).up fInt.up a (i : Int) (M.ok b) A.up := opp fun F H v w Q x ⟨q, vs, ev, h, t⟩ hb k => by
  cases hb
  obtain ⟨p⟩ := p
  obtain ⟨z, h1, h2⟩ := p F vs t
  exact ⟨q, vs, i, z, ev, rfl, sqL_ex x h, atI_nat h1, k z h2⟩
theorem nn_mix {K : PySem.W.Frag} {α : Type} {T : Tv α} : NoN (fMix K T) := fun a F v ⟨p, vs, h, _⟩ e => by subst h; cases e
end
section
variable {ε : Type} {Eh : EH ε} {X : Cx} {W : WX} {G : Gm} {tl : List Nat} {α δ γ : Type}
/-- what a changing call answers, compared with what is told behind it -/
theorem fx_cmpG {β : Type} {op : CmpOp} {r : R2} {a b : Expr} {pos : Pos} {y : α → γ} {g : α → β → Bool} {A : Rf γ} {Bf : Rl β} {ma : Mg ε α} {mb : α → M β} {N1 : α → Gm} {p : α → Er → ε} (h : α → β → δ) (fb : δ → Bool) (N2 : δ → Gm) (ho : OpR X (compareOp op) r) (hl : ∀ c x, OpP r A.up Bf (y c) x (M.ok (g c x)) fBool.up)
    (ha : FX X W Eh tl G a ma (fun c => A.r (y c)) (fun c _ => N1 c)) (hb : ∀ c, FE X W (N1 c) b (mb c) Bf) (hf : ∀ c x, fb (h c x) = g c x := by exact fun _ _ => rfl) (hN : ∀ c x, N2 (h c x) = N1 c := by exact fun _ _ => rfl) (hp : ∀ c, Pay Eh (N1 c) (p c) := by exact fun _ => pay0 rfl) (hm : behindInMarks op b = false := by first | exact nomark _ | rfl) :
    FX X W Eh tl G (.Compare a [op] [b] pos) (ma.bind fun c => (mb c).bindP (p c) fun x => M.ok (h c x)) (fun d => fBool.r (fb d)) (fun d _ => N2 d) :=
  PE.weak (pe_cmpR ho ha (pe_exC hb) hm) fun σ H Q ⟨B, F, T⟩ => ⟨B, F, T.st, fun e => T.ne (by rw [e]; rfl), fun c e w F2 H2 x2 st2 rw' => by
    have T1 := T.sub e x2 st2
    exact ⟨c, B, tl, F2, T1.tellE (hp c) fun x F3 H3 ex g3 T3 v rv => (hl c x).run F3 H3 w v H2 Q g3.fh (A.sx rw' g3.f.xs) rv (g c x) rfl fun z F' H' g4 rz => T3.ok (h c x) rfl z F' H' g4.f (by rw [hN]; exact T3.st.grow g4) (by show fBool.r (fb (h c x)) F' z; rw [hf]; exact rz)⟩, fun q e F2 H2 st2 => T.er q (by rw [e]; rfl) F2 H2 st2⟩
theorem fxt_cmpG {β : Type} {op : CmpOp} {r : R2} {a b : Expr} {pos : Pos} {y : α → γ} {g : α → β → Bool} {A : Rf γ} {Bf : Rl β} {ma : Mg ε α} {mb : α → M β} {N1 : α → Gm} {p : α → Er → ε} (h : α → β → δ) (fb : δ → Bool) (N2 : δ → Gm) (ho : OpR X (compareOp op) r) (hl : ∀ c x, OpP r A.up Bf (y c) x (M.ok (g c x)) fBool.up)
    (ha : FX X W Eh tl G a ma (fun c => A.r (y c)) (fun c _ => N1 c)) (hb : ∀ c, FE X W (N1 c) b (mb c) Bf) (hf : ∀ c x, fb (h c x) = g c x := by exact fun _ _ => rfl) (hN : ∀ c x, N2 (h c x) = N1 c := by exact fun _ _ => rfl) (hp : ∀ c, Pay Eh (N1 c) (p c) := by exact fun _ => pay0 rfl) (hm : behindInMarks op b = false := by first | exact nomark _ | rfl) :
    FXT X W Eh tl G (.Compare a [op] [b] pos) (ma.bind fun c => (mb c).bindP (p c) fun x => M.ok (h c x)) fb N2 :=
  PT.weak (pt_cmpR ho ha (pe_exC hb) hm) fun σ H Q ⟨B, F, T⟩ => ⟨B, F, T.st, fun e => T.ne (by rw [e]; rfl), fun c e w F2 H2 x2 st2 rw' => by
    have T1 := T.sub e x2 st2
    exact ⟨c, B, tl, F2, T1.tellE (hp c) fun x F3 H3 ex g3 T3 v rv => (hl c x).run F3 H3 w v H2 _ g3.fh (A.sx rw' g3.f.xs) rv (g c x) rfl fun z F' H' g4 rz => ⟨g c x, rz, by rw [← hf]; exact T3.ok (h c x) rfl z F' H' g4.f (by rw [hN]; exact T3.st.grow g4)⟩⟩, fun q e F2 H2 st2 => T.er q (by rw [e]; rfl) F2 H2 st2⟩
end
end LK
namespace LK
open PySem L2
/-! ### plain laws about the mirrors' pieces -/
theorem seqF_nx {ε ρ b s1 s : Type} (y : s1) (k : s1 → Mg ε (Fl ρ b s)) : seqF (M.ok (.nx y)) k = k y := rfl
theorem seqF_ret {ε ρ b s1 s : Type} (y : ρ) (k : s1 → Mg ε (Fl ρ b s)) : seqF (M.ok (.ret y)) k = M.ok (.ret y) := rfl
theorem seqF_bk {ε ρ b s1 s : Type} (y : b) (k : s1 → Mg ε (Fl ρ b s)) : seqF (M.ok (.bk y)) k = M.ok (.bk y) := rfl
theorem seqF_ct {ε ρ b s1 s : Type} (y : b) (k : s1 → Mg ε (Fl ρ b s)) : seqF (M.ok (.ct y)) k = M.ok (.ct y) := rfl
theorem seqF_err {ε ρ b s1 s : Type} (y : ε) (k : s1 → Mg ε (Fl ρ b s)) : seqF (M.err y) k = M.err y := rfl
theorem fin_ret {ε ρ s : Type} (d : Option (s → ρ)) (r : ρ) : fin d (M.ok (.ret r) : Mg ε (Fl ρ Unit s)) = M.ok r := rfl
theorem fin_err {ε ρ s : Type} (d : Option (s → ρ)) (e : ε) : fin d (M.err e : Mg ε (Fl ρ Unit s)) = M.err e := rfl
theorem fin_nx {ε ρ s : Type} (f : s → ρ) (x : s) : fin (some f) (M.ok (.nx x) : Mg ε (Fl ρ Unit s)) = M.ok (f x) := rfl
theorem seqF_ite {ε ρ b s1 s : Type} (c : Prop) [Decidable c] (x y : Mg ε (Fl ρ b s1)) (k : s1 → Mg ε (Fl ρ b s)) : seqF (if c then x else y) k = if c then seqF x k else seqF y k := by
  split <;> rfl
theorem bind_ite {ε1 ε α β : Type} (p : ε1 → ε) (c : Prop) [Decidable c] (x y : Mg ε1 α) (k : α → Mg ε β) : Mg.bindP p (if c then x else y) k = if c then Mg.bindP p x k else Mg.bindP p y k := by
  split <;> rfl
section
variable {ε α ρ b s : Type} {f : s → α → Mg ε (Fl ρ s s)}
theorem forL_nil (x : s) : forL (b := b) f [] x = M.ok (.nx x) := rfl
theorem forL_nx {a : α} {r : List α} {x y : s} (h : f x a = M.ok (.nx y)) : forL (b := b) f (a :: r) x = forL f r y := by
  show Mg.bind (f x a) _ = _
  rw [h]
  rfl
theorem forL_ct {a : α} {r : List α} {x y : s} (h : f x a = M.ok (.ct y)) : forL (b := b) f (a :: r) x = forL f r y := by
  show Mg.bind (f x a) _ = _
  rw [h]
  rfl
theorem forL_bk {a : α} {r : List α} {x y : s} (h : f x a = M.ok (.bk y)) : forL (b := b) f (a :: r) x = M.ok (.nx y) := by
  show Mg.bind (f x a) _ = _
  rw [h]
  rfl
theorem forL_ret {a : α} {r : List α} {x : s} {v : ρ} (h : f x a = M.ok (.ret v)) : forL (b := b) f (a :: r) x = M.ok (.ret v) := by
  show Mg.bind (f x a) _ = _
  rw [h]
  rfl
theorem forL_er {a : α} {r : List α} {x : s} {v : ε} (h : f x a = M.err v) : forL (b := b) f (a :: r) x = M.err v := by
  show Mg.bind (f x a) _ = _
  rw [h]
  rfl
/-- a loop by an invariant P over the turn; Q what holds behind it -/
theorem forL_ind (P : Nat → s → Prop) (Q : s → Prop) : ∀ (as : List α) (i : Nat) (x : s), P i x →
    (∀ j x a, a ∈ as → i ≤ j → j < i + as.length → P j x → (∃ y, (f x a = M.ok (.nx y) ∨ f x a = M.ok (.ct y)) ∧ P (j + 1) y) ∨ ∃ y, f x a = M.ok (.bk y) ∧ Q y) → (∀ y, P (i + as.length) y → Q y) → ∃ y, forL (b := b) f as x = M.ok (.nx y) ∧ Q y
  | [], i, x, h, _, hq => ⟨x, rfl, hq x h⟩
  | a :: r, i, x, h, hs, hq => by
    rcases hs i x a List.mem_cons_self (Nat.le_refl _) (by rw [List.length_cons]; omega) h with ⟨y, hy, hp⟩ | ⟨y, hy, hp⟩
    · obtain ⟨z, hz, q⟩ := forL_ind P Q r (i + 1) y hp (fun j x c hc h1 h2 => hs j x c (List.mem_cons_of_mem _ hc) (by omega) (by rw [List.length_cons]; omega)) (fun z hz => hq z (by rw [List.length_cons]; rw [show i + (r.length + 1) = i + 1 + r.length from by omega]; exact hz))
      refine ⟨z, ?_, q⟩
      rcases hy with hy | hy
      · rw [forL_nx hy]; exact hz
      · rw [forL_ct hy]; exact hz
    · exact ⟨y, forL_bk hy, hp⟩
/-- a loop whose turns all go on: a fold -/
theorem forL_fold (g : s → α → s) (I : s → Prop) : ∀ (as : List α) (x : s), I x → (∀ x a, a ∈ as → I x → f x a = M.ok (.nx (g x a)) ∧ I (g x a)) → forL (b := b) f as x = M.ok (.nx (as.foldl g x)) ∧ I (as.foldl g x)
  | [], x, h, _ => ⟨rfl, h⟩
  | a :: r, x, h, hs => by
    obtain ⟨h1, h2⟩ := hs x a List.mem_cons_self h
    rw [forL_nx h1]
    exact forL_fold g I r (g x a) h2 fun x c hc => hs x c (List.mem_cons_of_mem _ hc)
/-- two loops that go the same way -/
theorem forL_congr {g : s → α → Mg ε (Fl ρ s s)} : ∀ (as : List α) (x : s), (∀ x a, a ∈ as → f x a = g x a) → forL (b := b) f as x = forL g as x
  | [], _, _ => rfl
  | a :: r, x, h => by
    show Mg.bind (f x a) _ = Mg.bind (g x a) _
    rw [h x a List.mem_cons_self]
    congr 1
    funext o
    cases o with
    | ret v => rfl
    | bk y => rfl
    | nx y => exact forL_congr r y fun x c hc => h x c (List.mem_cons_of_mem _ hc)
    | ct y => exact forL_congr r y fun x c hc => h x c (List.mem_cons_of_mem _ hc)
/-- a search: no item stops it -/
theorem forL_all : ∀ (as : List α) (x : s), (∀ a, a ∈ as → f x a = M.ok (.nx x)) → forL (b := b) f as x = M.ok (.nx x)
  | [], x, _ => rfl
  | a :: r, x, h => by
    rw [forL_nx (h a List.mem_cons_self)]
    exact forL_all r x fun c hc => h c (List.mem_cons_of_mem _ hc)
end
theorem lcL_map {α β : Type} {f : α → M β} (g : α → β) : ∀ (as : List α) (acc : List β), (∀ a ∈ as, f a = M.ok (g a)) → acc.length + as.length ≤ sizeLine → lcL (fun _ => M.ok true) f as acc = M.ok (acc ++ as.map g)
  | [], acc, _, _ => by rw [List.map_nil, List.append_nil]; rfl
  | a :: r, acc, h, hl => by
    rw [List.length_cons] at hl
    show (noerr (f a)).bind (fun y => M.need (acc.length < sizeLine) (lcL _ f r (acc ++ [y]))) = _
    rw [h a List.mem_cons_self]
    show M.need (acc.length < sizeLine) (lcL _ f r (acc ++ [g a])) = _
    rw [M.need_pos (by omega), lcL_map g r _ (fun c hc => h c (List.mem_cons_of_mem _ hc)) (by rw [List.length_append]; simp; omega)]
    simp
theorem lcL_filter {α β : Type} {c : α → M Bool} {f : α → M β} (p : α → Bool) (g : α → β) : ∀ (as : List α) (acc : List β), (∀ a ∈ as, c a = M.ok (p a)) → (∀ a ∈ as, p a = true → f a = M.ok (g a)) → acc.length + as.length ≤ sizeLine → lcL c f as acc = M.ok (acc ++ (as.filter p).map g)
  | [], acc, _, _, _ => by rw [List.filter_nil, List.map_nil, List.append_nil]; rfl
  | a :: r, acc, h1, h2, hl => by
    rw [List.length_cons] at hl
    show (noerr (c a)).bind (fun t => if t = true then (noerr (f a)).bind (fun y => M.need (acc.length < sizeLine) (lcL _ f r (acc ++ [y]))) else lcL _ f r acc) = _
    rw [h1 a List.mem_cons_self]
    show (if p a = true then (noerr (f a)).bind (fun y => M.need (acc.length < sizeLine) (lcL _ f r (acc ++ [y]))) else lcL _ f r acc) = _
    cases hp : p a with
    | false =>
      rw [if_neg Bool.false_ne_true, lcL_filter p g r acc (fun x hx => h1 x (List.mem_cons_of_mem _ hx)) (fun x hx => h2 x (List.mem_cons_of_mem _ hx)) (by omega), List.filter_cons, hp, if_neg Bool.false_ne_true]
    | true =>
      rw [if_pos rfl, h2 a List.mem_cons_self hp]
      show M.need (acc.length < sizeLine) (lcL _ f r (acc ++ [g a])) = _
      rw [M.need_pos (by omega), lcL_filter p g r _ (fun x hx => h1 x (List.mem_cons_of_mem _ hx)) (fun x hx => h2 x (List.mem_cons_of_mem _ hx)) (by rw [List.length_append]; simp; omega), List.filter_cons, hp, if_pos rfl]
      simp
theorem at_nat {α : Type} {xs : List α} {i : Nat} {a : α} (h : xs[i]? = some a) : at_ xs (i : Int) = M.ok a := by
  unfold at_
  rw [atI_nat h]
theorem at_lt {α : Type} {xs : List α} {i : Int} (h0 : 0 ≤ i) (h1 : i < (xs.length : Int)) : at_ xs i = M.ok (xs[i.toNat]'(by omega)) := by
  have h := at_nat (List.getElem?_eq_getElem (show i.toNat < xs.length by omega))
  rwa [Int.toNat_of_nonneg h0] at h
theorem cut_nat {α : Type} (l : List α) (i j : Nat) : cut l (some (i : Int)) (some (j : Int)) = (l.drop i).take (j - i) := by
  unfold cut
  rw [HT.sIx_nat, HT.sIx_nat]
  have hd : (l.drop i).length = l.length - i := List.length_drop ..
  by_cases hi : i ≤ l.length
  · rw [Nat.min_eq_left hi]
    by_cases hj : j ≤ l.length
    · rw [Nat.min_eq_left hj]
    · rw [Nat.min_eq_right (by omega), List.take_of_length_le (by omega), List.take_of_length_le (by omega)]
  · rw [Nat.min_eq_right (a := i) (by omega), List.drop_length, List.drop_eq_nil_of_le (by omega), List.take_nil, List.take_nil]
theorem cut_nat' {α : Type} (l : List α) (i : Nat) : cut l (some (i : Int)) none = l.drop i := by
  unfold cut
  rw [HT.sIx_nat, HT.sIx_none]
  have hd : (l.drop i).length = l.length - i := List.length_drop ..
  by_cases hi : i ≤ l.length
  · rw [Nat.min_eq_left hi, List.take_of_length_le (by omega)]
  · rw [Nat.min_eq_right (a := i) (by omega), List.drop_length, List.drop_eq_nil_of_le (by omega), List.take_nil]
theorem cut_to {α : Type} (l : List α) (j : Nat) : cut l none (some (j : Int)) = l.take j := by
  unfold cut
  rw [HT.sIx_nat, HT.sIx_none, List.drop_zero]
  by_cases hi : j ≤ l.length
  · rw [Nat.min_eq_left hi]; rfl
  · rw [Nat.min_eq_right (by omega), List.take_of_length_le (by omega), List.take_of_length_le (by omega)]
theorem cut_all {α : Type} (l : List α) : cut l none none = l := by
  unfold cut
  rw [HT.sIx_none, HT.sIx_none, List.drop_zero, List.take_of_length_le (by omega)]
/-- the piece in the middle -/
theorem cut_mid {α : Type} {l A B C : List α} {i j : Int} (h : l = A ++ (B ++ C)) (hi : i = (A.length : Int)) (hj : j = ((A.length + B.length : Nat) : Int)) : cut l (some i) (some j) = B := by
  subst hi hj h
  rw [cut_nat, List.drop_left', show A.length + B.length - A.length = B.length from by omega, List.take_left']
  · rfl
  · rfl
/-! ### texts joined -/
def inter (a : List Nat) : List (List Nat) → List Nat
  | [] => []
  | x :: r => x ++ r.flatMap fun y => a ++ y
theorem joinL_eq (a : List Nat) (xs : List (List Nat)) : joinL a xs = inter a xs := by
  have key : ∀ (r : List (List Nat)) (acc : Array Nat), ((r.map S).foldl (fun acc p => acc ++ (S a).cps ++ p.cps) acc).toList = acc.toList ++ r.flatMap fun y => a ++ y := by
    intro r
    induction r with
    | nil => intro acc; simp
    | cons y r ih =>
      intro acc
      rw [List.map_cons, List.foldl_cons, ih]
      simp [S]
  cases xs with
  | nil => rfl
  | cons x r =>
    show ((r.map S).foldl (fun acc p => acc ++ (S a).cps ++ p.cps) (S x).cps).toList = _
    rw [key]
    simp [S, inter]
theorem inter_nil (xs : List (List Nat)) : inter [] xs = xs.flatten := by
  cases xs with
  | nil => rfl
  | cons x r => simp [inter, List.flatten_cons, List.flatMap]
theorem flatten_one (l : List Nat) : (l.map fun c => [c]).flatten = l := by
  induction l with
  | nil => rfl
  | cons c r ih => rw [List.map_cons, List.flatten_cons, ih]; rfl
theorem sum_ones {α : Type} (l : List α) (f : α → List Nat) (h : ∀ a ∈ l, (f a).length = 1) : ((l.map f).map List.length).sum = l.length := by
  induction l with
  | nil => rfl
  | cons a r ih =>
    rw [List.map_cons, List.map_cons, List.sum_cons, ih fun x hx => h x (List.mem_cons_of_mem _ hx), h a List.mem_cons_self, List.length_cons]
    omega
/-! ### what a mirror answers, from behind -/
def wm {ε α : Type} (m : Mg ε α) (φ : α → Prop) (ψ : ε → Prop) : Prop := (∃ y, m = M.ok y ∧ φ y) ∨ ∃ e, m = M.err e ∧ ψ e
section
variable {ε ε1 α β ρ b s s1 : Type} {φ : α → Prop} {ψ : ε → Prop}
theorem ok_inj {x y : α} (h : (M.ok x : Mg ε α) = M.ok y) : x = y := by injection h with h; injection h
theorem err_inj {x y : ε} (h : (M.err x : Mg ε α) = M.err y) : x = y := by injection h with h; injection h
theorem ok_ne_err {x : α} {y : ε} (h : (M.ok x : Mg ε α) = M.err y) : False := by injection h with h; exact nomatch h
theorem wm_ok (x : α) : wm (M.ok x) φ ψ ↔ φ x :=
  ⟨fun h => h.elim (fun ⟨y, e, q⟩ => ok_inj e ▸ q) fun ⟨y, e, q⟩ => (ok_ne_err e).elim, fun h => .inl ⟨x, rfl, h⟩⟩
theorem wm_err (x : ε) : wm (M.err x) φ ψ ↔ ψ x :=
  ⟨fun h => h.elim (fun ⟨y, e, q⟩ => (ok_ne_err e.symm).elim) fun ⟨y, e, q⟩ => err_inj e ▸ q, fun h => .inr ⟨x, rfl, h⟩⟩
theorem wm_none : wm (none : Mg ε α) φ ψ ↔ False := by
  constructor
  · rintro (⟨y, e, q⟩ | ⟨y, e, q⟩)
    · exact nomatch e
    · exact nomatch e
  · exact False.elim
theorem wm_mono {φ' : α → Prop} {ψ' : ε → Prop} {m : Mg ε α} (h : wm m φ' ψ') (h1 : ∀ y, φ' y → φ y) (h2 : ∀ e, ψ' e → ψ e) : wm m φ ψ :=
  h.elim (fun ⟨y, e, q⟩ => .inl ⟨y, e, h1 y q⟩) fun ⟨y, e, q⟩ => .inr ⟨y, e, h2 y q⟩
/-- by what is known of it, where nothing goes wrong -/
theorem wm_by {φ' : α → Prop} {m : Mg ε α} (h : wm m φ' (fun _ => False)) (h1 : ∀ y, φ' y → φ y) : wm m φ ψ := wm_mono h h1 fun _ z => z.elim
theorem wm_bind {p : ε1 → ε} {m : Mg ε1 β} {k : β → Mg ε α} : wm (m.bindP p k) φ ψ ↔ wm m (fun y => wm (k y) φ ψ) (fun e => ψ (p e)) := by
  cases m with
  | none => exact wm_none.trans wm_none.symm
  | some r =>
    cases r with
    | error e => exact (wm_err (p e)).trans (wm_err (ψ := fun e => ψ (p e)) e).symm
    | ok y => exact (wm_ok (φ := fun y => wm (k y) φ ψ) y).symm
theorem wm_need {c : Prop} [Decidable c] {m : Mg ε α} : wm (M.need c m) φ ψ ↔ c ∧ wm m φ ψ := by
  by_cases h : c
  · rw [M.need_pos h]
    exact ⟨fun z => ⟨h, z⟩, fun z => z.2⟩
  · have : M.need c m = none := if_neg h
    rw [this]
    exact ⟨fun z => (wm_none.mp z).elim, fun z => (h z.1).elim⟩
theorem wm_ite {c : Prop} [Decidable c] {m n : Mg ε α} : wm (if c then m else n) φ ψ ↔ (c → wm m φ ψ) ∧ (¬ c → wm n φ ψ) := by
  by_cases h : c
  · rw [if_pos h]
    exact ⟨fun z => ⟨fun _ => z, fun k => (k h).elim⟩, fun z => z.1 h⟩
  · rw [if_neg h]
    exact ⟨fun z => ⟨fun k => (h k).elim, fun _ => z⟩, fun z => z.2 h⟩
/-- what a block's end must bring -/
def flw (k : s1 → Mg ε (Fl ρ b s)) (φ : Fl ρ b s → Prop) (ψ : ε → Prop) : Fl ρ b s1 → Prop
  | .ret v => φ (.ret v)
  | .bk y => φ (.bk y)
  | .ct y => φ (.ct y)
  | .nx y => wm (k y) φ ψ
theorem flw_ret {k : s1 → Mg ε (Fl ρ b s)} {φ} (v : ρ) : flw k φ ψ (.ret v) ↔ φ (.ret v) := Iff.rfl
theorem flw_bk {k : s1 → Mg ε (Fl ρ b s)} {φ} (v : b) : flw k φ ψ (.bk v) ↔ φ (.bk v) := Iff.rfl
theorem flw_ct {k : s1 → Mg ε (Fl ρ b s)} {φ} (v : b) : flw k φ ψ (.ct v) ↔ φ (.ct v) := Iff.rfl
theorem flw_nx {k : s1 → Mg ε (Fl ρ b s)} {φ} (v : s1) : flw k φ ψ (.nx v) ↔ wm (k v) φ ψ := Iff.rfl
theorem wm_seq {m : Mg ε (Fl ρ b s1)} {k : s1 → Mg ε (Fl ρ b s)} {φ : Fl ρ b s → Prop} : wm (seqF m k) φ ψ ↔ wm m (flw k φ ψ) ψ := by
  cases m with
  | none => exact wm_none.trans wm_none.symm
  | some r =>
    cases r with
    | error e => exact (wm_err e).trans (wm_err e).symm
    | ok y =>
      refine Iff.trans ?_ (wm_ok (φ := flw k φ ψ) y).symm
      cases y with
      | nx y => exact Iff.rfl
      | ret v => exact wm_ok (Fl.ret v)
      | bk v => exact wm_ok (Fl.bk v)
      | ct v => exact wm_ok (Fl.ct v)
def fnw (d : Option (s → ρ)) (φ : ρ → Prop) : Fl ρ Unit s → Prop
  | .ret v => φ v
  | .nx x => ∃ f, d = some f ∧ φ (f x)
  | _ => False
theorem fnw_ret {d : Option (s → ρ)} {φ : ρ → Prop} (v : ρ) : fnw d φ (.ret v) ↔ φ v := Iff.rfl
theorem fnw_nx {φ : ρ → Prop} (f : s → ρ) (x : s) : fnw (some f) φ (.nx x) ↔ φ (f x) := ⟨fun ⟨w, e, q⟩ => by cases e; exact q, fun q => ⟨f, rfl, q⟩⟩
theorem wm_fin {d : Option (s → ρ)} {m : Mg ε (Fl ρ Unit s)} {φ : ρ → Prop} (h : wm m (fnw d φ) ψ) : wm (fin d m) φ ψ := by
  rcases h with ⟨y, rfl, q⟩ | ⟨e, rfl, q⟩
  · cases y with
    | ret v => exact (wm_ok v).mpr q
    | nx u =>
      obtain ⟨v, rfl, q⟩ := q
      exact (wm_ok (v u)).mpr q
    | bk u => exact q.elim
    | ct u => exact q.elim
  · exact (wm_err e).mpr q
/-- how a turn ends -/
def trn (P Q : s → Prop) (R : ρ → Prop) : Fl ρ s s → Prop
  | .ret v => R v
  | .nx y => P y
  | .ct y => P y
  | .bk y => Q y
theorem trn_ret {P Q : s → Prop} {R : ρ → Prop} (v : ρ) : trn P Q R (.ret v) ↔ R v := Iff.rfl
theorem trn_nx {P Q : s → Prop} {R : ρ → Prop} (v : s) : trn P Q R (.nx v) ↔ P v := Iff.rfl
theorem trn_ct {P Q : s → Prop} {R : ρ → Prop} (v : s) : trn P Q R (.ct v) ↔ P v := Iff.rfl
theorem trn_bk {P Q : s → Prop} {R : ρ → Prop} (v : s) : trn P Q R (.bk v) ↔ Q v := Iff.rfl
/-- how a loop ends -/
def eol (Q : s → Prop) (R : ρ → Prop) : Fl ρ b s → Prop
  | .ret v => R v
  | .nx y => Q y
  | _ => False
theorem wm_for {f : s → α → Mg ε (Fl ρ s s)} {φ : Fl ρ b s → Prop} (P : Nat → s → Prop) (Q : s → Prop) (R : ρ → Prop) : ∀ (as : List α) (i : Nat) (x : s), P i x →
    (∀ j x a, as[j - i]? = some a → i ≤ j → j < i + as.length → P j x → wm (f x a) (trn (P (j + 1)) Q R) ψ) → (∀ y, P (i + as.length) y → Q y) → (∀ y, Q y → φ (.nx y)) → (∀ v, R v → φ (.ret v)) → wm (forL f as x) φ ψ
  | [], i, x, h, _, hq, k1, k2 => (wm_ok _).mpr (k1 x (hq x h))
  | a :: r, i, x, h, hs, hq, k1, k2 => by
    rcases hs i x a (by simp) (Nat.le_refl _) (by rw [List.length_cons]; omega) h with ⟨o, e, q⟩ | ⟨er, e, q⟩
    · have go : ∀ y, P (i + 1) y → wm (forL (b := b) f r y) φ ψ := fun y hy => wm_for P Q R r (i + 1) y hy
        (fun j x c hc h1 h2 => hs j x c (by rw [show j - i = (j - (i + 1)) + 1 from by omega]; exact hc) (by omega) (by rw [List.length_cons]; omega))
        (fun z hz => hq z (by rw [List.length_cons]; rw [show i + (r.length + 1) = i + 1 + r.length from by omega]; exact hz)) k1 k2
      cases o with
      | ret v => rw [forL_ret e]; exact (wm_ok _).mpr (k2 v q)
      | nx y => rw [forL_nx e]; exact go y q
      | ct y => rw [forL_ct e]; exact go y q
      | bk y => rw [forL_bk e]; exact (wm_ok _).mpr (k1 y q)
    · rw [forL_er e]
      exact (wm_err _).mpr q
theorem whileL_step {p : Er → s → ε} {c : s → M Bool} {f : s → Mg ε (Fl ρ s s)} {n : Nat} {x : s} {φ : Fl ρ b s → Prop}
    (h : wm (c x) (fun t => (t = true → wm (f x) (trn (fun y => wm (whileL (b := b) p c f n y) φ ψ) (fun y => φ (.nx y)) (fun v => φ (.ret v))) ψ) ∧ (t = false → φ (.nx x))) (fun e => ψ (p e x))) : wm (whileL p c f (n + 1) x) φ ψ := by
  show wm (Mg.bindP (fun e => p e x) (c x) _) φ ψ
  rw [wm_bind]
  refine wm_mono h (fun t ht => ?_) fun _ z => z
  rw [wm_ite]
  refine ⟨fun e => ?_, fun e => (wm_ok _).mpr (ht.2 (Bool.eq_false_iff.mpr e))⟩
  rw [wm_bind]
  refine wm_mono (ht.1 e) (fun o ho => ?_) fun _ z => z
  cases o with
  | ret v => exact (wm_ok _).mpr ho
  | nx v => exact ho
  | ct v => exact ho
  | bk v => exact (wm_ok _).mpr ho
/-- a loop on a condition: a measure, an invariant -/
theorem wm_while {p : Er → s → ε} {c : s → M Bool} {f : s → Mg ε (Fl ρ s s)} {φ : Fl ρ b s → Prop} (P : Nat → s → Prop) (hs : ∀ n x, P n x → wm (c x) (fun t => (t = true → wm (f x) (trn (fun y => ∃ k < n, P k y) (fun y => φ (.nx y)) (fun v => φ (.ret v))) ψ) ∧ (t = false → φ (.nx x))) (fun e => ψ (p e x))) :
    ∀ (N n : Nat) (x : s), P n x → n < N → wm (whileL p c f N x) φ ψ
  | 0, n, x, h, hn => by omega
  | N + 1, n, x, h, hn => whileL_step (wm_mono (hs n x h) (fun t ht => ⟨fun e => wm_mono (ht.1 e) (fun o ho => by
      cases o with
      | ret v => exact ho
      | nx v => obtain ⟨k, hk, hp⟩ := ho; exact wm_while P hs N k v hp (by omega)
      | ct v => obtain ⟨k, hk, hp⟩ := ho; exact wm_while P hs N k v hp (by omega)
      | bk v => exact ho) fun _ z => z, ht.2⟩) fun _ z => z)
end
/-- two lists, side by side -/
inductive P2 {α β : Type} (G : α → β → Prop) : List α → List β → Prop where
  | nil : P2 G [] []
  | cons {a b as bs} : G a b → P2 G as bs → P2 G (a :: as) (b :: bs)
theorem P2.len {α β : Type} {G : α → β → Prop} : ∀ {as bs}, P2 G as bs → bs.length = as.length
  | _, _, .nil => rfl
  | _, _, .cons _ t => congrArg (· + 1) t.len
theorem P2.mem {α β : Type} {G : α → β → Prop} : ∀ {as bs}, P2 G as bs → ∀ b ∈ bs, ∃ a ∈ as, G a b
  | _, _, .nil, b, h => nomatch h
  | _, _, .cons h t, b, hb => (List.mem_cons.mp hb).elim (fun e => ⟨_, List.mem_cons_self, e ▸ h⟩) fun hb => (t.mem b hb).elim fun a z => ⟨a, List.mem_cons_of_mem _ z.1, z.2⟩
theorem P2.map {α β : Type} {g : α → β} : ∀ {as bs}, P2 (fun a b => b = g a) as bs → bs = as.map g
  | _, _, .nil => rfl
  | _, _, .cons h t => by rw [h, t.map]; rfl
theorem lcL_wm {α β : Type} {f : β → M α} {G : β → α → Prop} : ∀ (as : List β) (acc : List α), acc.length + as.length ≤ sizeLine → (∀ a ∈ as, wm (f a) (G a) (fun _ => False)) → ∃ r, lcL (fun _ => M.ok true) f as acc = M.ok (acc ++ r) ∧ P2 G as r
  | [], acc, _, _ => ⟨[], by rw [List.append_nil]; rfl, .nil⟩
  | a :: r, acc, hl, h => by
    rw [List.length_cons] at hl
    rcases h a List.mem_cons_self with ⟨y, e, q⟩ | ⟨_, _, q⟩
    · obtain ⟨z, ez, qz⟩ := lcL_wm r (acc ++ [y]) (by rw [List.length_append]; simp; omega) fun c hc => h c (List.mem_cons_of_mem _ hc)
      refine ⟨y :: z, ?_, .cons q qz⟩
      show (noerr (f a)).bind (fun y => M.need (acc.length < sizeLine) (lcL _ f r (acc ++ [y]))) = _
      rw [e]
      show M.need (acc.length < sizeLine) (lcL _ f r (acc ++ [y])) = _
      rw [M.need_pos (by omega), ez]
      simp
    · exact q.elim
/-- a comprehension: each item's answer -/
theorem wm_lc {α β : Type} {f : β → M α} {φ : List α → Prop} {ψ : Er → Prop} (G : β → α → Prop) {as : List β} (hl : as.length ≤ sizeLine) (h : ∀ a ∈ as, wm (f a) (G a) (fun _ => False)) (k : ∀ r : List α, P2 G as r → φ r) : wm (lcL (fun _ => M.ok true) f as []) φ ψ := by
  obtain ⟨r, e, q⟩ := lcL_wm as [] (by simpa using hl) h
  rw [e]
  exact (wm_ok _).mpr (k r q)
theorem wm_lcF {α β : Type} {c : β → M Bool} {f : β → M α} {φ : List α → Prop} {ψ : Er → Prop} (p : β → Bool) (g : β → α) {as : List β} (hl : as.length ≤ sizeLine) (h1 : ∀ a ∈ as, c a = M.ok (p a)) (h2 : ∀ a ∈ as, p a = true → f a = M.ok (g a)) (k : φ ((as.filter p).map g)) : wm (lcL c f as []) φ ψ := by
  rw [lcL_filter p g as [] h1 h2 (by simpa using hl)]
  exact (wm_ok _).mpr k
theorem wm_eq {ε α : Type} {m : Mg ε α} {v : α} {φ : α → Prop} {ψ : ε → Prop} (h : m = M.ok v) (k : φ v) : wm m φ ψ := .inl ⟨v, h, k⟩
theorem wm_true {m : M Bool} (h : wm m (fun r => r = true) (fun _ => False)) : m = M.ok true := h.elim (fun ⟨y, e, q⟩ => q ▸ e) fun ⟨_, _, q⟩ => q.elim
theorem wm_val {ε α : Type} {m : Mg ε α} {v : α} (h : wm m (fun r => r = v) (fun _ => False)) : m = M.ok v := h.elim (fun ⟨y, e, q⟩ => q ▸ e) fun ⟨_, _, q⟩ => q.elim
theorem wm_ex {ε α : Type} {m : Mg ε α} {φ : α → Prop} (h : wm m φ (fun _ => False)) : ∃ v, m = M.ok v ∧ φ v := h.elim id fun ⟨_, _, q⟩ => q.elim
theorem mem_rng {n a : Int} (h : a ∈ rngL n) : 0 ≤ a ∧ a < n := by
  unfold rngL at h
  obtain ⟨k, hk, rfl⟩ := List.mem_map.mp h
  have := List.mem_range.mp hk
  omega
theorem wm_at {α : Type} {xs : List α} {i : Int} {φ : α → Prop} {ψ : Er → Prop} (h0 : 0 ≤ i) (h1 : i < (xs.length : Int)) (k : φ (xs[i.toNat]'(by omega))) : wm (at_ xs i) φ ψ := wm_eq (at_lt h0 h1) k
section
open Builtin.Str
theorem occ_full (s sub : Str) (hi : Nat) : ∀ (l : List Nat) (st : Array Nat × Nat), st.fst.size = 1 → (forIn l st (StrLaws.occBody s sub hi 1)).run.fst = st.fst
  | [], st, h => rfl
  | a :: l, st, h => by
    rw [List.forIn_cons]
    unfold StrLaws.occBody
    rw [if_neg (fun z => by have := z.1.1.1; omega)]
    exact occ_full s sub hi l (st.fst, st.snd) h
theorem occ_first (s sub : Str) (hi : Nat) : ∀ (l : List Nat) (free : Nat), (∀ i ∈ l, free ≤ i) →
    (forIn l ((#[] : Array Nat), free) (StrLaws.occBody s sub hi 1)).run.fst.toList = (l.find? fun i => decide (i + sub.length ≤ hi) && subAt s sub i).toList
  | [], free, _ => rfl
  | a :: l, free, hf => by
    rw [List.forIn_cons, List.find?_cons]
    unfold StrLaws.occBody
    by_cases hc : a + sub.length ≤ hi ∧ subAt s sub a = true
    · rw [if_pos ⟨⟨⟨by show 0 < 1; omega, hf a List.mem_cons_self⟩, hc.1⟩, hc.2⟩]
      have e : (decide (a + sub.length ≤ hi) && subAt s sub a) = true := by rw [hc.2, decide_eq_true hc.1]; rfl
      rw [e]
      have := occ_full s sub hi l ((#[] : Array Nat).push a, a + sub.length) rfl
      exact congrArg Array.toList this
    · rw [if_neg (fun z => hc ⟨z.1.2, z.2⟩)]
      have e : (decide (a + sub.length ≤ hi) && subAt s sub a) = false := by
        cases h : (decide (a + sub.length ≤ hi) && subAt s sub a) with
        | false => rfl
        | true =>
          rw [Bool.and_eq_true, decide_eq_true_eq] at h
          exact absurd h hc
      rw [e]
      exact occ_first s sub hi l free fun i hi' => hf i (List.mem_cons_of_mem _ hi')
theorem occ1 (s sub : Str) (lo hi : Nat) : occurrences s sub lo hi 1 = ((List.range' lo (hi + 1 - lo)).find? fun i => decide (i + sub.length ≤ hi) && subAt s sub i).toList := by
  rw [StrLaws.occ_eq]
  exact occ_first s sub hi _ lo fun i h => (List.mem_range'_1.mp h).1
theorem subAt_one (a : List Nat) (c i : Nat) : subAt (S a) (S [c]) i = decide (a[i]? = some c) := by
  unfold subAt
  rw [Bool.eq_iff_iff, beq_iff_eq, decide_eq_true_eq, ← Array.toList_inj, Array.toList_extract]
  show (a.drop i).take _ = [c] ↔ _
  rw [show i + (S [c]).length - i = 1 from by show i + 1 - i = 1; omega]
  cases h : a[i]? with
  | none =>
    rw [List.drop_eq_nil_of_le (List.getElem?_eq_none_iff.mp h)]
    simp
  | some d =>
    rw [List.drop_eq_getElem_cons (by exact (List.getElem?_eq_some_iff.mp h).1)]
    have := (List.getElem?_eq_some_iff.mp h).2
    simp [this]
/-- the place of a sign, from place i on -/
def posC (a : List Nat) (c i : Nat) : Option Nat := (List.range' i (a.length + 1 - i)).find? fun k => decide (a[k]? = some c)
theorem find3_one (a : List Nat) (c i : Nat) : Txt.find3 (S a) (S [c]) (i : Int) = match posC a c i with | some k => (k : Int) | none => -1 := by
  unfold Txt.find3
  have e : (fromIndex (S a).length (i : Int)) = i := by
    unfold fromIndex
    rw [if_neg (by omega)]
    omega
  rw [e, occ1]
  have e2 : (List.range' i ((S a).length + 1 - i)).find? (fun k => decide (k + (S [c]).length ≤ (S a).length) && subAt (S a) (S [c]) k) = posC a c i := by
    unfold posC
    rw [show (S a).length = a.length from S_len a]
    congr 1
    funext k
    rw [subAt_one, show (S [c]).length = 1 from rfl]
    by_cases h : a[k]? = some c
    · have hk : k < a.length := (List.getElem?_eq_some_iff.mp h).1
      rw [show decide (k + 1 ≤ a.length) = true from decide_eq_true (by omega)]
      rfl
    · rw [decide_eq_false h, Bool.and_false]
  rw [e2]
  cases posC a c i <;> rfl
theorem posC_hit {a : List Nat} {c i : Nat} {m r : List Nat} (h : a.drop i = m ++ c :: r) (hm : c ∉ m) : posC a c i = some (i + m.length) := by
  unfold posC
  have hlen : a.length - i = m.length + r.length + 1 := by
    rw [← List.length_drop, h, List.length_append, List.length_cons]; omega
  have hg : ∀ k, a[i + k]? = (m ++ c :: r)[k]? := fun k => by rw [← h, List.getElem?_drop]
  rw [List.find?_range'_eq_some]
  refine ⟨by rw [hg, List.getElem?_append_right (Nat.le_refl _)]; simp, by rw [List.mem_range'_1]; omega, fun j h1 h2 => ?_⟩
  obtain ⟨k, rfl⟩ := Nat.exists_eq_add_of_le h1
  rw [hg, List.getElem?_append_left (by omega)]
  simp only [Bool.not_eq_true', decide_eq_false_iff_not]
  intro hk
  exact hm (List.mem_of_getElem? hk)
theorem find3_hit {a : List Nat} {c i : Nat} {m r : List Nat} (h : a.drop i = m ++ c :: r) (hm : c ∉ m) : Txt.find3 (S a) (S [c]) (i : Int) = ((i + m.length : Nat) : Int) := by
  rw [find3_one, posC_hit h hm]
end
end LK
namespace Pf
open PySem L2 LK
def law_row_b (p0 : List (Int)) : Mg Er (Fl (List (Int)) Unit Unit) :=
  (M.ok ([])).bind fun v1 => seqF (s1 := (List (Int))) (M.need (-(2 ^ 62) ≤ (p0.length : Int) ∧ (p0.length : Int) < 2 ^ 62) (forL (fun s3 a4 => (((((at_ p0 a4).bind fun x5 => (M.ok ()).bind fun y6 => M.ok (x5, y6)).bind fun a7 => M.ok (a7.1)).bind fun x8 => (M.ok ()).bind fun y9 => M.ok (x8, y9)).bind fun a10 => M.ok ((if a10.1 < 0 then -a10.1 else a10.1))).bind fun v11 => if (decide ((10 : Int) ^ ((18 : Int)).toNat ≤ v11)) = true then seqF (s1 := Int × (List (Int))) (forL (fun s12 a13 => if (decide ((0 : Int) < s12.1)) = true then (M.ok (s12.1 % (1009 : Int))).bind fun v14 => M.need (s12.2.length < sizeLine) ((M.ok (s12.1 / (1009 : Int))).bind fun v15 => M.ok (.nx (v15, (s12.2 ++ [v14])))) else M.ok (.nx (s12.1, s12.2))) (rngL (40 : Int)) (v11, s3)) fun s16 => M.ok (.nx s16.2) else (M.ok ((((v11 * (48271 : Int)) + (a4 * (69621 : Int))) + (12345 : Int)) % (2147483647 : Int))).bind fun v17 => seqF (s1 := Int × (List (Int))) (forL (fun s18 a19 => (M.ok ((((s18.1 * (16807 : Int)) + ((11 : Int) * a19)) + (1 : Int)) % (2147483647 : Int))).bind fun v20 => (M.ok ((v20 / (7 : Int)) % (1009 : Int))).bind fun v21 => M.need (s18.2.length < sizeLine) (M.ok (.nx (v20, (s18.2 ++ [v21]))))) (rngL (6 : Int)) (v17, s3)) fun s22 => M.ok (.nx s22.2)) (rngL (p0.length : Int)) v1)) fun s23 => M.ok (.ret s23)
def law_row_m (p0 : List (Int)) : Mg Er (List (Int)) := fin none (law_row_b p0)
def law_names_b (p0 : Int) : Mg Er (Fl (List (List Nat)) Unit Unit) :=
  (M.ok (([97, 98, 99, 100, 101, 102, 103, 104, 105, 106, 107, 108, 109, 110, 111, 112, 113, 114, 115, 116, 117, 118, 119, 120, 121, 122, 48, 49, 50, 51, 52, 53, 54, 55, 56, 57] : List Nat))).bind fun v1 => ((at_ v1 (p0 % (36 : Int))).bind fun c => M.ok [c]).bind fun v2 => ((M.ok (v2)).bind fun x3 => ((at_ v1 (((p0 * (5 : Int)) + (3 : Int)) % (36 : Int))).bind fun c => M.ok [c]).bind fun x4 => M.need (x3.length + x4.length ≤ sizeLine) (M.ok (x3 ++ x4))).bind fun v5 => ((at_ v1 ((p0 + (11 : Int)) % (36 : Int))).bind fun c => M.ok [c]).bind fun v6 => (((((at_ v1 ((p0 + (23 : Int)) % (36 : Int))).bind fun c => M.ok [c]).bind fun x7 => ((at_ v1 ((p0 / (3 : Int)) % (36 : Int))).bind fun c => M.ok [c]).bind fun x8 => M.need (x7.length + x8.length ≤ sizeLine) (M.ok (x7 ++ x8))).bind fun x9 => (M.ok (v2)).bind fun x10 => M.need (x9.length + x10.length ≤ sizeLine) (M.ok (x9 ++ x10))).bind fun x11 => (M.ok (v6)).bind fun x12 => M.need (x11.length + x12.length ≤ sizeLine) (M.ok (x11 ++ x12))).bind fun v13 => M.ok (.ret [v2, v5, v6, v13])
def law_names_m (p0 : Int) : Mg Er (List (List Nat)) := fin none (law_names_b p0)
def law_pack_b (p0 : List (List Nat)) : Mg Er (Fl (List Nat) Unit Unit) :=
  ((M.ok (([] : List Nat))).bind fun x7 => ((lcL (fun a1 => M.ok (true)) (fun a1 => (joinM [M.need ((a1.length : Int).natAbs.log2 < 1920 ∧ tOk (strI (a1.length : Int))) (M.ok (strI (a1.length : Int))), M.ok (([58] : List Nat))] []).bind fun x2 => (M.ok (a1)).bind fun x3 => M.need (x2.length + x3.length ≤ sizeLine) (M.ok (x2 ++ x3))) p0 []).bind fun x5 => (M.ok ()).bind fun y6 => M.ok (x5, y6)).bind fun a8 => M.need ((a8.1.map List.length).sum + a8.1.length * x7.length ≤ 16777216 ∧ tOk (joinL x7 a8.1)) (M.ok (joinL x7 a8.1))).bind fun r9 => M.ok (.ret r9)
def law_pack_m (p0 : List (List Nat)) : Mg Er (List Nat) := fin none (law_pack_b p0)
def Duties_init_b  : Mg Er (Fl (List (((List Nat) × (List Nat)) × Int)) Unit ((List (((List Nat) × (List Nat)) × Int)))) :=
  (M.ok ([])).bind fun v1 => M.ok (.nx v1)
def Duties_init_m  : Mg Er (List (((List Nat) × (List Nat)) × Int)) := fin (some fun (s : (List (((List Nat) × (List Nat)) × Int))) => s) (Duties_init_b )
def number_of_b (p0 : List Nat) : Mg Er (Fl Int Unit Unit) :=
  if ((!(Txt.isdigit (S p0))) || (decide ((9 : Int) < (p0.length : Int)))) = true then M.err Er.badForm else ((((at_ p0 (0 : Int)).bind fun c => M.ok [c]).bind fun x1 => (M.ok (([48] : List Nat))).bind fun x2 => M.ok (decide (x1 = x2))).bind fun b3 => if b3 = true then M.ok (decide ((1 : Int) < (p0.length : Int))) else M.ok false).bind fun b5 => if b5 = true then M.err Er.badForm else (M.need (p0.length ≤ 640) (intS p0)).bind fun r4 => M.ok (.ret r4)
def number_of_m (p0 : List Nat) : Mg Er Int := fin none (number_of_b p0)
def part_at_b (p0 : List Nat) (p1 : Int) : Mg Er (Fl (((List Nat) × Int)) Unit Unit) :=
  (M.ok (Txt.find3 (S p0) (S ([58] : List Nat)) p1)).bind fun v1 => if (decide (v1 < (0 : Int))) = true then M.err Er.badForm else ((M.ok (v1 + (1 : Int))).bind fun x2 => (number_of_m (cut p0 (some p1) (some v1))).bind fun x3 => M.ok (x2 + x3)).bind fun v4 => if (decide ((p0.length : Int) < v4)) = true then M.err Er.badForm else M.ok (.ret (cut p0 (some (v1 + (1 : Int))) (some v4), v4))
def part_at_m (p0 : List Nat) (p1 : Int) : Mg Er (((List Nat) × Int)) := fin none (part_at_b p0 p1)
def unpack_b (p0 : List Nat) : Mg Er (Fl (List (List Nat)) Unit Unit) :=
  (M.ok ([])).bind fun v1 => (M.ok ((0 : Int))).bind fun v2 => seqF (s1 := Int × (List (List Nat))) (whileL (fun e _ => e) (fun s4 => M.ok (decide (s4.1 < (p0.length : Int)))) (fun s4 => (part_at_m p0 s4.1).bind fun v5 => (M.ok (v5.1)).bind fun v6 => M.need (s4.2.length < sizeLine) (M.ok (.nx (v5.2, (s4.2 ++ [v6]))))) (p0.length + 1) (v2, v1)) fun s7 => M.ok (.ret s7.2)
def unpack_m (p0 : List Nat) : Mg Er (List (List Nat)) := fin none (unpack_b p0)
def Duties_note_b (p0 : List (((List Nat) × (List Nat)) × Int)) (p1 : List Nat) (p2 : List Nat) (p3 : Int) : Mg (Er × (List (((List Nat) × (List Nat)) × Int))) (Fl (List (((List Nat) × (List Nat)) × Int)) Unit ((List (((List Nat) × (List Nat)) × Int)))) :=
  (M.ok (p3)).bindP (fun e => (e, p0)) fun v2 => (M.ok ((p1, p2))).bindP (fun e => (e, p0)) fun k3 => M.need (p0.length < sizeLine) (M.ok (.nx (dput p0 k3 v2)))
def Duties_note_m (p0 : List (((List Nat) × (List Nat)) × Int)) (p1 : List Nat) (p2 : List Nat) (p3 : Int) : Mg (Er × (List (((List Nat) × (List Nat)) × Int))) (List (((List Nat) × (List Nat)) × Int)) := fin (some fun (s : (List (((List Nat) × (List Nat)) × Int))) => s) (Duties_note_b p0 p1 p2 p3)
def Duties_pairs_b (p0 : List (((List Nat) × (List Nat)) × Int)) : Mg Er (Fl (List (((List Nat) × (List Nat)))) Unit Unit) :=
  M.ok (.ret (sortE (fun (a : ((List Nat) × (List Nat))) => [At.t a.1, At.t a.2]) (p0.map (·.1))))
def Duties_pairs_m (p0 : List (((List Nat) × (List Nat)) × Int)) : Mg Er (List (((List Nat) × (List Nat)))) := fin none (Duties_pairs_b p0)
def pack_b (p0 : List (List Nat)) : Mg Er (Fl (List Nat) Unit Unit) :=
  ((M.ok (([] : List Nat))).bind fun x5 => ((lcL (fun a1 => M.ok (true)) (fun a1 => joinM [M.need ((a1.length : Int).natAbs.log2 < 1920 ∧ tOk (strI (a1.length : Int))) (M.ok (strI (a1.length : Int))), M.ok (([58] : List Nat)), M.ok (a1)] []) p0 []).bind fun x3 => (M.ok ()).bind fun y4 => M.ok (x3, y4)).bind fun a6 => M.need ((a6.1.map List.length).sum + a6.1.length * x5.length ≤ 16777216 ∧ tOk (joinL x5 a6.1)) (M.ok (joinL x5 a6.1))).bind fun r7 => M.ok (.ret r7)
def pack_m (p0 : List (List Nat)) : Mg Er (List Nat) := fin none (pack_b p0)
def Duties_image_b (p0 : List (((List Nat) × (List Nat)) × Int)) : Mg Er (Fl (List Nat) Unit Unit) :=
  (M.ok ([])).bind fun v1 => seqF (s1 := (List (List Nat))) ((Duties_pairs_m p0).bind fun x9 => forL (fun s3 a4 => (M.ok (a4.1)).bind fun v5 => M.need (s3.length < sizeLine) ((M.ok (a4.2)).bind fun v6 => M.need ((s3 ++ [v5]).length < sizeLine) (M.ok (.nx ((s3 ++ [v5]) ++ [v6]))))) x9 v1) fun s7 => (pack_m s7).bind fun r8 => M.ok (.ret r8)
def Duties_image_m (p0 : List (((List Nat) × (List Nat)) × Int)) : Mg Er (List Nat) := fin none (Duties_image_b p0)
def is_name_b (p0 : List Nat) : Mg Er (Fl Bool Unit Unit) :=
  if (!((decide ((1 : Int) ≤ (p0.length : Int))) && (decide ((p0.length : Int) ≤ (4 : Int))))) = true then M.ok (.ret false) else ((M.ok (Txt.isalnum (S p0))).bind fun b4 => if b4 = true then (M.ok (p0)).bind fun x2 => (M.need (p0.length ≤ 5592405 ∧ tOk (uS (Txt.lower (S p0)))) (M.ok (uS (Txt.lower (S p0))))).bind fun x3 => M.ok (decide (x2 = x3)) else M.ok false).bind fun r5 => M.ok (.ret r5)
def is_name_m (p0 : List Nat) : Mg Er Bool := fin none (is_name_b p0)
def load_duties_b (p0 : List Nat) (p1 : Int) : Mg Er (Fl (List (((List Nat) × (List Nat)) × Int)) Unit Unit) :=
  (unpack_m p0).bind fun v1 => if ((decide ((v1.length : Int) = (0 : Int))) || (decide ((v1.length : Int) % (2 : Int) = (1 : Int)))) = true then M.err Er.badForm else (Duties_init_m).bind fun v2 => seqF (s1 := Unit) (forL (fun s4 a5 => ((is_name_m a5).bind fun b6 => M.ok (!b6)).bind fun b7 => if b7 = true then M.err Er.badForm else M.ok (.nx ())) v1 ()) fun s8 => seqF (s1 := (List (((List Nat) × (List Nat)) × Int))) ((M.ok ((0 : Int))).bind fun x26 => (M.ok ((v1.length : Int))).bind fun x27 => M.need (Builtin.Range.small x26 x27 (2) = true) (forL (fun s10 a11 => (((at_ v1 a11).bind fun x16 => ((at_ v1 (a11 + (1 : Int))).bind fun x14 => ((M.ok (p1)).bind fun x12 => (M.ok ()).bind fun y13 => M.ok (x12, y13)).bind fun y15 => M.ok (x14, y15)).bind fun y17 => M.ok (x16, y17)).bind fun a18 => (Duties_note_m s10 a18.1 a18.2.1 a18.2.2.1).bindP (fun (e21 : Er × (List (((List Nat) × (List Nat)) × Int))) => e21.1) fun r19 => M.ok r19).bind fun z20 => M.ok (.nx z20)) (rng3L x26 (2) (Builtin.Range.rangeSize x26 x27 (2)).toNat) v2)) fun s22 => ((Duties_image_m s22).bind fun x23 => (M.ok (p0)).bind fun x24 => M.ok (!decide (x23 = x24))).bind fun b25 => if b25 = true then M.err Er.badForm else M.ok (.ret s22)
def load_duties_m (p0 : List Nat) (p1 : Int) : Mg Er (List (((List Nat) × (List Nat)) × Int)) := fin none (load_duties_b p0 p1)
def law_at_b (p0 : List (Int)) (p1 : Int) : Mg Er (Fl Int Unit Unit) :=
  if ((decide ((0 : Int) ≤ p1)) && (decide (p1 < (p0.length : Int)))) = true then (at_ p0 p1).bind fun r1 => M.ok (.ret r1) else M.ok (.ret (0 : Int))
def law_at_m (p0 : List (Int)) (p1 : Int) : Mg Er Int := fin none (law_at_b p0 p1)
def law_flat_b (p0 : List (((List Nat) × (List Nat)))) : Mg Er (Fl (List (List Nat)) Unit Unit) :=
  (M.ok ([])).bind fun v1 => seqF (s1 := (List (List Nat))) (forL (fun s4 a5 => (M.ok (a5.1)).bind fun v6 => M.need (s4.length < sizeLine) ((M.ok (a5.2)).bind fun v7 => M.need ((s4 ++ [v6]).length < sizeLine) (M.ok (.nx ((s4 ++ [v6]) ++ [v7]))))) p0 v1) fun s8 => M.ok (.ret s8)
def law_flat_m (p0 : List (((List Nat) × (List Nat)))) : Mg Er (List (List Nat)) := fin none (law_flat_b p0)
def Duties_remove_noted_b (p0 : List (((List Nat) × (List Nat)) × Int)) (p1 : List Nat) (p2 : Int) : Mg (Er × (List (((List Nat) × (List Nat)) × Int))) (Fl (Bool × (List (((List Nat) × (List Nat)) × Int))) Unit ((List (((List Nat) × (List Nat)) × Int)))) :=
  ((Duties_pairs_m p0).bind fun x8 => lcL (fun a1 => (M.ok (decide (a1.2 = p1))).bind fun b6 => if b6 = true then ((M.ok (p0)).bind fun d2 => (M.ok (a1)).bind fun k3 => oget (dget d2 k3)).bind fun x4 => (M.ok (p2)).bind fun x5 => M.ok (decide (x4 < x5)) else M.ok false) (fun a1 => M.ok (a1)) x8 []).bindP (fun e => (e, p0)) fun v9 => seqF (s1 := (List (((List Nat) × (List Nat)) × Int))) (forL (fun s11 a12 => (M.ok (a12)).bindP (fun e => (e, s11)) fun k14 => M.need ((dget s11 k14).isSome = true) (M.ok (.nx (ddel s11 k14)))) v9 p0) fun s15 => M.ok (.ret (decide ((0 : Int) < (v9.length : Int)), s15))
def Duties_remove_noted_m (p0 : List (((List Nat) × (List Nat)) × Int)) (p1 : List Nat) (p2 : Int) : Mg (Er × (List (((List Nat) × (List Nat)) × Int))) (Bool × (List (((List Nat) × (List Nat)) × Int))) := fin none (Duties_remove_noted_b p0 p1 p2)
def law_refused_b (p0 : List Nat) : Mg Er (Fl Bool Unit Unit) :=
  seqF (s1 := Unit) (tryF ((load_duties_m p0 (3 : Int)).bindP (fun e => e) fun u3 => M.ok (.nx ())) (fun (e1 : Er) => exE [(.badForm, true)] e1 ((exI [(.badForm, true)] e1).bind fun r10 => M.ok (.ret r10)) (M.err e1))) fun s2 => M.ok (.ret false)
def law_refused_m (p0 : List Nat) : Mg Er Bool := fin none (law_refused_b p0)
def law_b (p0 : List (Int)) : Mg Er (Fl Bool Unit Unit) :=
  (law_row_m p0).bind fun v1 => (((law_at_m v1 (0 : Int)).bind fun x2 => (M.ok ()).bind fun y3 => M.ok (x2, y3)).bind fun a4 => law_names_m a4.1).bind fun v5 => ((((law_at_m v1 (1 : Int)).bind fun x6 => (M.ok ()).bind fun y7 => M.ok (x6, y7)).bind fun a8 => M.ok (a8.1)).bind fun x9 => M.ok (x9 % (1000 : Int))).bind fun v10 => (M.ok ([])).bind fun v11 => seqF (s1 := (List (((List Nat) × (List Nat))))) (((M.ok ((1 : Int))).bind fun x23 => ((((law_at_m v1 (2 : Int)).bind fun x19 => (M.ok ()).bind fun y20 => M.ok (x19, y20)).bind fun a21 => M.ok (a21.1)).bind fun x22 => M.ok (x22 % (6 : Int))).bind fun x24 => M.ok (x23 + x24)).bind fun x192 => M.need (-(2 ^ 62) ≤ x192 ∧ x192 < 2 ^ 62) (forL (fun s25 a26 => ((((M.ok (v5)).bind fun x31 => ((((law_at_m v1 ((3 : Int) + a26)).bind fun x27 => (M.ok ()).bind fun y28 => M.ok (x27, y28)).bind fun a29 => M.ok (a29.1)).bind fun x30 => M.ok (x30 % (4 : Int))).bind fun x32 => at_ x31 x32).bind fun x42 => (((M.ok ([([116, 49] : List Nat), ([118, 49] : List Nat), ([118, 49, 48] : List Nat)])).bind fun x38 => (((((law_at_m v1 ((3 : Int) + a26)).bind fun x33 => M.ok (x33 / (4 : Int))).bind fun x34 => (M.ok ()).bind fun y35 => M.ok (x34, y35)).bind fun a36 => M.ok (a36.1)).bind fun x37 => M.ok (x37 % (3 : Int))).bind fun x39 => at_ x38 x39).bind fun x40 => (M.ok ()).bind fun y41 => M.ok (x40, y41)).bind fun y43 => M.ok (x42, y43)).bind fun a44 => M.ok (a44.1, a44.2.1)).bind fun v45 => if (!(inB v45 s25)) = true then (M.ok (v45)).bind fun v46 => M.need (s25.length < sizeLine) (M.ok (.nx (s25 ++ [v46]))) else M.ok (.nx s25)) (rngL x192) v11)) fun s47 => (M.ok (sortE (fun (a : ((List Nat) × (List Nat))) => [At.t a.1, At.t a.2]) s47)).bind fun v48 => (((law_flat_m v48).bind fun x49 => (M.ok ()).bind fun y50 => M.ok (x49, y50)).bind fun a51 => law_pack_m a51.1).bind fun v52 => (Duties_init_m).bind fun v53 => seqF (s1 := (List (((List Nat) × (List Nat)) × Int))) (forL (fun s56 a57 => ((Duties_note_m s56 a57.1 a57.2 (1 : Int)).bindP (fun (e61 : Er × (List (((List Nat) × (List Nat)) × Int))) => e61.1) fun r59 => M.ok r59).bind fun z60 => M.ok (.nx z60)) v48 v53) fun s62 => ((Duties_image_m s62).bind fun x63 => (M.ok (v52)).bind fun x64 => M.ok (!decide (x63 = x64))).bind fun b190 => if b190 = true then M.ok (.ret false) else (load_duties_m v52 v10).bind fun v66 => (((Duties_pairs_m v66).bind fun x67 => (M.ok (v48)).bind fun x68 => M.ok (!decide (x67 = x68))).bind fun b71 => if b71 = true then M.ok true else (Duties_image_m v66).bind fun x69 => (M.ok (v52)).bind fun x70 => M.ok (!decide (x69 = x70))).bind fun b188 => if b188 = true then M.ok (.ret false) else seqF (s1 := (List (((List Nat) × (List Nat)) × Int))) (forL (fun s74 a75 => ((Duties_remove_noted_m s74 a75 v10).bindP (fun (e79 : Er × (List (((List Nat) × (List Nat)) × Int))) => e79.1) fun r77 => M.ok r77).bind fun z78 => if z78.1 = true then M.ok (.ret false) else (((Duties_remove_noted_m z78.2 a75 (v10 + (1 : Int))).bindP (fun (e85 : Er × (List (((List Nat) × (List Nat)) × Int))) => e85.1) fun r83 => M.ok r83).bind fun z84 => ((M.ok (a75)).bind fun x88 => (lcL (fun a86 => M.ok (true)) (fun a86 => M.ok (a86.2)) v48 []).bind fun x89 => M.ok (inB x88 x89)).bind fun x90 => M.ok (!decide (z84.1 = x90), z84.2)).bind fun z91 => if z91.1 = true then M.ok (.ret false) else M.ok (.nx z91.2)) [([116, 49] : List Nat), ([118, 49] : List Nat), ([118, 49, 48] : List Nat)] v66) fun s93 => ((Duties_pairs_m s93).bind fun x94 => (M.ok ([])).bind fun x95 => M.ok (!decide (x94 = x95))).bind fun b187 => if b187 = true then M.ok (.ret false) else (((M.ok ([(([65] : List Nat), ([116, 49] : List Nat))])).bind fun x119 => ((((((at_ v5 (0 : Int)).bind fun x99 => ((M.ok (([] : List Nat))).bind fun x97 => (M.ok ()).bind fun y98 => M.ok (x97, y98)).bind fun y100 => M.ok (x99, y100)).bind fun a101 => M.ok (a101.1, a101.2.1)).bind fun x102 => (M.ok ()).bind fun y103 => M.ok (x102, y103)).bind fun a104 => M.ok [a104.1]).bind fun x117 => ((M.ok ([(([97, 98, 99, 100, 101] : List Nat), ([116, 49] : List Nat))])).bind fun x115 => ((((((at_ v5 (0 : Int)).bind fun x107 => ((M.ok (([116, 45] : List Nat))).bind fun x105 => (M.ok ()).bind fun y106 => M.ok (x105, y106)).bind fun y108 => M.ok (x107, y108)).bind fun a109 => M.ok (a109.1, a109.2.1)).bind fun x110 => (M.ok ()).bind fun y111 => M.ok (x110, y111)).bind fun a112 => M.ok [a112.1]).bind fun x113 => (M.ok ()).bind fun y114 => M.ok (x113, y114)).bind fun y116 => M.ok (x115, y116)).bind fun y118 => M.ok (x117, y118)).bind fun y120 => M.ok (x119, y120)).bind fun a121 => M.ok [a121.1, a121.2.1, a121.2.2.1, a121.2.2.2.1]).bind fun v122 => seqF (s1 := Unit) (forL (fun s124 a125 => ((((((law_flat_m a125).bind fun x126 => (M.ok ()).bind fun y127 => M.ok (x126, y127)).bind fun a128 => law_pack_m a128.1).bind fun x129 => (M.ok ()).bind fun y130 => M.ok (x129, y130)).bind fun a131 => law_refused_m a131.1).bind fun b132 => M.ok (!b132)).bind fun b134 => if b134 = true then M.ok (.ret false) else M.ok (.nx ())) v122 ()) fun s135 => (((M.ok (([] : List Nat))).bind fun x159 => ((M.need (v52.length + ([49] : List Nat).length ≤ sizeLine) (M.ok (v52 ++ ([49] : List Nat)))).bind fun x157 => (((((law_flat_m v48).bind fun x136 => (M.ok (none)).bind fun x137 => (M.ok (some (-(1 : Int) : Int))).bind fun x138 => M.ok (cut x136 x137 x138)).bind fun x139 => (M.ok ()).bind fun y140 => M.ok (x139, y140)).bind fun a141 => law_pack_m a141.1).bind fun x155 => (((((((M.ok (v48)).bind fun x145 => (((at_ v48 (-(1 : Int) : Int)).bind fun x142 => (M.ok ()).bind fun y143 => M.ok (x142, y143)).bind fun a144 => M.ok [a144.1]).bind fun x146 => M.need (x145.length + x146.length ≤ sizeLine) (M.ok (x145 ++ x146))).bind fun x147 => (M.ok ()).bind fun y148 => M.ok (x147, y148)).bind fun a149 => law_flat_m a149.1).bind fun x150 => (M.ok ()).bind fun y151 => M.ok (x150, y151)).bind fun a152 => law_pack_m a152.1).bind fun x153 => (M.ok ()).bind fun y154 => M.ok (x153, y154)).bind fun y156 => M.ok (x155, y156)).bind fun y158 => M.ok (x157, y158)).bind fun y160 => M.ok (x159, y160)).bind fun a161 => M.ok [a161.1, a161.2.1, a161.2.2.1, a161.2.2.2.1]).bind fun v162 => seqF (s1 := (List (List Nat))) (if (decide ((1 : Int) < (v48.length : Int))) = true then ((((((((at_ v48 (1 : Int)).bind fun x167 => ((at_ v48 (0 : Int)).bind fun x165 => (M.ok ()).bind fun y166 => M.ok (x165, y166)).bind fun y168 => M.ok (x167, y168)).bind fun a169 => M.ok [a169.1, a169.2.1]).bind fun x170 => (M.ok (cut v48 (some (2 : Int)) (none))).bind fun x171 => M.need (x170.length + x171.length ≤ sizeLine) (M.ok (x170 ++ x171))).bind fun x172 => (M.ok ()).bind fun y173 => M.ok (x172, y173)).bind fun a174 => law_flat_m a174.1).bind fun x175 => (M.ok ()).bind fun y176 => M.ok (x175, y176)).bind fun a177 => law_pack_m a177.1).bind fun v178 => M.need (v162.length < sizeLine) (M.ok (.nx (v162 ++ [v178]))) else M.ok (.nx v162)) fun s163 => seqF (s1 := Unit) (forL (fun s180 a181 => ((law_refused_m a181).bind fun b182 => M.ok (!b182)).bind fun b184 => if b184 = true then M.ok (.ret false) else M.ok (.nx ())) s163 ()) fun s185 => M.ok (.ret true)
def law_m (p0 : List (Int)) : Mg Er Bool := fin none (law_b p0)
end Pf
/-! general laws about mirrors and dicts (texts of maths begin with this one) -/
namespace Pf
open PySem L2 LK
theorem wm_nx {ε ρ b s1 s : Type} {m : Mg ε (Fl ρ b s1)} {k : s1 → Mg ε (Fl ρ b s)} {φ : Fl ρ b s → Prop} {ψ : ε → Prop} (P : s1 → Prop) (h : wm m (fun o => ∃ v, o = Fl.nx v ∧ P v) (fun _ => False)) (q : ∀ v, P v → wm (k v) φ ψ) : wm (seqF m k) φ ψ := by
  rw [wm_seq]
  refine wm_by h fun o ⟨v, e, hv⟩ => ?_
  subst e
  exact q v hv
theorem wm_nx' {ε ρ b s1 s : Type} {m : Mg ε (Fl ρ b s1)} {k : s1 → Mg ε (Fl ρ b s)} {φ : Fl ρ b s → Prop} {ψ : ε → Prop} (P : s1 → Prop) (h : wm m (fun o => ∃ v, o = Fl.nx v ∧ P v) (fun _ => False)) (q : ∀ v, P v → wm (k v) φ ψ) : wm m (flw k φ ψ) ψ := by
  refine wm_mono h (fun o ⟨v, e, hv⟩ => ?_) fun e z => z.elim
  subst e
  rw [flw_nx]
  exact q v hv
theorem wm_at2 {α : Type} {xs : List α} {k : Nat} (d : α) {φ : α → Prop} {ψ : Er → Prop} (h : k < xs.length) : wm (at_ xs (k : Int)) φ ψ ↔ φ (xs.getD k d) := by
  have : xs[k]? = some (xs.getD k d) := by rw [List.getD_eq_getElem?_getD, List.getElem?_eq_getElem h]; rfl
  rw [at_nat this, wm_ok]
theorem wm_at3 {α : Type} {xs : List α} {i : Int} (d : α) {φ : α → Prop} {ψ : Er → Prop} (h0 : 0 ≤ i) (h : i < (xs.length : Int)) : wm (at_ xs i) φ ψ ↔ φ (xs.getD i.toNat d) := by
  obtain ⟨k, rfl⟩ : ∃ k : Nat, i = (k : Int) := ⟨i.toNat, by omega⟩
  exact wm_at2 d (by omega)
theorem wm_forP {ε α ρ b s : Type} {f : s → α → Mg ε (Fl ρ s s)} {φ : Fl ρ b s → Prop} {ψ : ε → Prop} (P : Nat → s → Prop) {as : List α} {x : s} (h0 : P 0 x) (hs : ∀ j x a, as[j]? = some a → j < as.length → P j x → wm (f x a) (fun o => ∃ y, o = Fl.nx y ∧ P (j + 1) y) (fun _ => False)) (hq : ∀ y, P as.length y → φ (.nx y)) : wm (forL f as x) φ ψ := by
  refine wm_for P (P as.length) (fun _ => False) as 0 x h0 (fun j x a ha _ hj hp => ?_) (fun y hy => by rw [Nat.zero_add] at hy; exact hy) hq (fun v z => z.elim)
  rw [Nat.sub_zero] at ha
  refine wm_by (hs j x a ha (by omega) hp) fun o ⟨y, e, hy⟩ => ?_
  subst e
  exact hy
theorem bp_ok {ε1 ε α β : Type} (p : ε1 → ε) (x : α) (f : α → Mg ε β) : Mg.bindP p (M.ok x) f = f x := rfl
theorem inB_no {α : Type} [DecidableEq α] {a : α} {as : List α} (h : a ∉ as) : inB a as = false := Bool.eq_false_iff.mpr fun z => h (inB_iff.mp z)
theorem inB_ya {α : Type} [DecidableEq α] {a : α} {as : List α} (h : a ∈ as) : inB a as = true := inB_iff.mpr h
theorem inB_d {α : Type} [DecidableEq α] {a : α} {as : List α} : inB a as = decide (a ∈ as) := by
  by_cases h : a ∈ as
  · rw [inB_ya h, decide_eq_true h]
  · rw [inB_no h, decide_eq_false h]
theorem getD_mem {α : Type} {xs : List α} {i : Int} (d : α) (h0 : 0 ≤ i) (h : i < (xs.length : Int)) : xs.getD i.toNat d ∈ xs := by
  rw [List.getD_eq_getElem?_getD, List.getElem?_eq_getElem (by omega)]
  exact List.getElem_mem _
theorem at_mod {α : Type} {l : List α} {n : Int} (hn : 0 < n) (hl : (l.length : Int) = n) (x : Int) : ∃ t, at_ l (x % n) = M.ok t ∧ t ∈ l := by
  have a := Int.emod_nonneg x (show n ≠ 0 by omega)
  have b := Int.emod_lt_of_pos x hn
  exact ⟨_, at_lt a (by omega), List.getElem_mem _⟩
theorem lcF {α : Type} {c : α → M Bool} {f : α → M α} (p : α → Bool) {as : List α} (hl : as.length ≤ 100000) (hc : ∀ a ∈ as, c a = M.ok (p a)) (hf : ∀ a, f a = M.ok a) : lcL c f as [] = M.ok (as.filter p) := by
  rw [lcL_filter p id as [] (fun a ha => hc a ha) (fun a _ _ => hf a) (by show _ ≤ 2 ^ 24; simp; omega), List.nil_append, List.map_id]
theorem lcFM {α β : Type} {c : α → M Bool} {f : α → M β} (p : α → Bool) (g : α → β) {as : List α} (hl : as.length ≤ 100000) (hc : ∀ a ∈ as, c a = M.ok (p a)) (hf : ∀ a ∈ as, p a = true → f a = M.ok (g a)) : lcL c f as [] = M.ok ((as.filter p).map g) := by
  rw [lcL_filter p g as [] hc hf (by show _ ≤ 2 ^ 24; simp; omega), List.nil_append]
/-! dicts -/
section
variable {κ α : Type} [DecidableEq κ]
theorem mem_dput {d : List (κ × α)} {k : κ} {v : α} {p : κ × α} : p ∈ dput d k v ↔ p = (k, v) ∨ (p ∈ d ∧ p.1 ≠ k) := by
  unfold dput
  by_cases c : (d.any fun p => decide (p.1 = k)) = true
  · rw [if_pos c, List.mem_map]
    constructor
    · rintro ⟨q, hq, e⟩
      by_cases z : q.1 = k
      · rw [if_pos z, z] at e
        exact .inl e.symm
      · rw [if_neg z] at e
        subst e
        exact .inr ⟨hq, z⟩
    · rintro (rfl | ⟨h, n⟩)
      · obtain ⟨q, hq, e⟩ := List.any_eq_true.mp c
        exact ⟨q, hq, by rw [if_pos (of_decide_eq_true e), of_decide_eq_true e]⟩
      · exact ⟨p, h, if_neg n⟩
  · rw [if_neg c, List.mem_append, List.mem_singleton]
    constructor
    · rintro (h | h)
      · exact .inr ⟨h, fun z => c (List.any_eq_true.mpr ⟨p, h, decide_eq_true z⟩)⟩
      · exact .inl h
    · rintro (h | ⟨h, _⟩)
      · exact .inr h
      · exact .inl h
theorem dput_keysG (d : List (κ × α)) (k : κ) (a : α) : (dput d k a).map (·.1) = if k ∈ d.map (·.1) then d.map (·.1) else d.map (·.1) ++ [k] := by
  unfold dput
  by_cases c : k ∈ d.map (·.1)
  · rw [if_pos c, if_pos (by
      obtain ⟨p, hp, e⟩ := List.mem_map.mp c
      exact List.any_eq_true.mpr ⟨p, hp, decide_eq_true e⟩), List.map_map]
    refine List.map_congr_left fun p _ => ?_
    show (if p.1 = k then (p.1, a) else p).1 = p.1
    split <;> rfl
  · rw [if_neg c, if_neg (by
      intro z
      obtain ⟨p, hp, e⟩ := List.any_eq_true.mp z
      exact c (List.mem_map.mpr ⟨p, hp, of_decide_eq_true e⟩)), List.map_append]
    rfl
theorem dput_nd {d : List (κ × α)} {k : κ} {a : α} (h : (d.map (·.1)).Nodup) : ((dput d k a).map (·.1)).Nodup := by
  rw [dput_keysG]
  split
  · exact h
  · rename_i c
    rw [List.nodup_append]
    exact ⟨h, by simp, fun x hx y hy z => c (by rw [List.mem_singleton.mp hy] at z; exact z ▸ hx)⟩
theorem dput_le {d : List (κ × α)} {k : κ} {a : α} : (dput d k a).length ≤ d.length + 1 := by
  have := congrArg List.length (dput_keysG d k a)
  rw [List.length_map] at this
  rw [this]
  split
  · rw [List.length_map]; omega
  · rw [List.length_append, List.length_map]; exact Nat.le_refl _
theorem dput_new {d : List (κ × α)} {k : κ} {a : α} (h : k ∉ d.map (·.1)) : dput d k a = d ++ [(k, a)] := by
  unfold dput
  rw [if_neg]
  intro z
  obtain ⟨p, hp, e⟩ := List.any_eq_true.mp z
  exact h (List.mem_map.mpr ⟨p, hp, of_decide_eq_true e⟩)
theorem dget_some {d : List (κ × α)} {k : κ} {v : α} (h : dget d k = some v) : (k, v) ∈ d := by
  unfold dget at h
  obtain ⟨p, hp, e⟩ := Option.map_eq_some_iff.mp h
  have h1 := List.find?_some hp
  rw [decide_eq_true_eq] at h1
  have := List.mem_of_find?_eq_some hp
  rw [← e, ← h1]
  exact this
theorem nd_uniq {d : List (κ × α)} (nd : (d.map (·.1)).Nodup) {k : κ} {v w : α} (h1 : (k, v) ∈ d) (h2 : (k, w) ∈ d) : v = w := by
  induction d with
  | nil => cases h1
  | cons p r ih =>
    rw [List.map_cons, List.nodup_cons] at nd
    rcases List.mem_cons.mp h1 with e1 | m1
    · rcases List.mem_cons.mp h2 with e2 | m2
      · rw [← e1] at e2; cases e2; rfl
      · exact (nd.1 (List.mem_map.mpr ⟨(k, w), m2, by rw [← e1]⟩)).elim
    · rcases List.mem_cons.mp h2 with e2 | m2
      · exact (nd.1 (List.mem_map.mpr ⟨(k, v), m1, by rw [← e2]⟩)).elim
      · exact ih nd.2 m1 m2
theorem dget_no {d : List (κ × α)} {k : κ} : dget d k = none ↔ k ∉ d.map (·.1) := by
  unfold dget
  rw [Option.map_eq_none_iff, List.find?_eq_none]
  constructor
  · intro h z
    obtain ⟨p, hp, e⟩ := List.mem_map.mp z
    exact h p hp (decide_eq_true e)
  · intro h p hp z
    exact h (by rw [← of_decide_eq_true z]; exact List.mem_map.mpr ⟨p, hp, rfl⟩)
theorem dget_iff {d : List (κ × α)} (nd : (d.map (·.1)).Nodup) {k : κ} {v : α} : dget d k = some v ↔ (k, v) ∈ d := by
  refine ⟨dget_some, fun h => ?_⟩
  cases e : dget d k with
  | none => exact (dget_no.mp e (List.mem_map.mpr ⟨_, h, rfl⟩)).elim
  | some w => rw [nd_uniq nd h (dget_some e)]
theorem dget_mem {d : List (κ × α)} (nd : (d.map (·.1)).Nodup) {p : κ × α} (h : p ∈ d) : dget d p.1 = some p.2 := (dget_iff nd).mpr h
theorem mem_ddel {d : List (κ × α)} {k : κ} {p : κ × α} : p ∈ ddel d k ↔ p ∈ d ∧ p.1 ≠ k := by
  unfold ddel
  rw [List.mem_filter]
  simp
theorem ddel_nd {d : List (κ × α)} {k : κ} (h : (d.map (·.1)).Nodup) : ((ddel d k).map (·.1)).Nodup := by
  unfold ddel
  exact h.sublist (List.filter_sublist.map _)
theorem ddel_le {d : List (κ × α)} {k : κ} : (ddel d k).length ≤ d.length := List.length_filter_le _ _
theorem nd_of_keys {d : List (κ × α)} (h : (d.map (·.1)).Nodup) : d.Nodup := (List.pairwise_map.mp h).imp fun h e => h (by rw [e])
theorem dict_perm {d e : List (κ × α)} (h1 : (d.map (·.1)).Nodup) (h2 : (e.map (·.1)).Nodup) (h : ∀ p, p ∈ d ↔ p ∈ e) : d.Perm e := (List.perm_ext_iff_of_nodup (nd_of_keys h1) (nd_of_keys h2)).mpr h
end
theorem sortE_congr {α : Type} {enc : α → List At} (hi : ∀ a b, enc a = enc b → a = b) {l m : List α} (h : l.Perm m) : sortE enc l = sortE enc m := sortE_uniq hi ((sortE_perm l).trans h) (sortE_pw l)
end Pf

namespace Pf
open PySem L2 LK
theorem row_ok (ns : List Int) (h : ns.length ≤ 63) : ∃ l, law_row_m ns = M.ok l ∧ l.length ≤ 2520 := by
  have hsz : sizeLine = 16777216 := rfl
  refine wm_ex ?_
  unfold law_row_m law_row_b
  refine wm_fin ?_
  rw [wm_bind, wm_ok]
  refine wm_nx (fun l => l.length ≤ 2520) ?_ fun l hl => (wm_ok _).mpr hl
  rw [wm_need]
  refine ⟨by omega, ?_⟩
  refine wm_forP (fun j l => l.length ≤ 40 * j) (Nat.zero_le _) ?_ (fun y hy => ⟨y, rfl, by rw [rngL_len] at hy; omega⟩)
  intro j x a ha hj hx
  rw [rngL_len] at hj
  rw [rngL_get (by omega)] at ha
  cases ha
  simp only [wm_bind, wm_at2 (0 : Int) (show j < ns.length by omega), wm_ok, wm_ite]
  refine ⟨fun _ => ?_, fun _ => ?_⟩
  · refine wm_nx (fun s => s.2.length ≤ 40 * j + 40) ?_ fun s hs => (wm_ok _).mpr ⟨_, rfl, by show s.2.length ≤ _; omega⟩
    refine wm_forP (fun i s => s.2.length ≤ 40 * j + i) (by simpa using hx) ?_ (fun y hy => ⟨y, rfl, by rw [rngL_len] at hy; omega⟩)
    intro i s b _ hi hs
    rw [rngL_len] at hi
    simp only [wm_ite, wm_bind, wm_ok, wm_need]
    refine ⟨fun hc => ⟨by omega, _, rfl, ?_⟩, fun _ => ⟨_, rfl, by show s.2.length ≤ _; omega⟩⟩
    show (s.2 ++ _).length ≤ _
    rw [List.length_append]
    show _ + 1 ≤ _
    omega
  · refine wm_nx (fun s => s.2.length ≤ 40 * j + 40) ?_ fun s hs => (wm_ok _).mpr ⟨_, rfl, by show s.2.length ≤ _; omega⟩
    refine wm_forP (fun i s => s.2.length ≤ 40 * j + i) (by simpa using hx) ?_ (fun y hy => ⟨y, rfl, by rw [rngL_len] at hy; omega⟩)
    intro i s b _ hi hs
    rw [rngL_len] at hi
    simp only [wm_ite, wm_bind, wm_ok, wm_need]
    refine ⟨by omega, _, rfl, ?_⟩
    show (s.2 ++ _).length ≤ _
    rw [List.length_append]
    show _ + 1 ≤ _
    omega
theorem lawat_ok (v : List Int) (k : Int) : ∃ x, law_at_m v k = M.ok x := by
  unfold law_at_m law_at_b
  by_cases c : ((decide ((0 : Int) ≤ k)) && (decide (k < (v.length : Int)))) = true
  · rw [if_pos c]
    rw [Bool.and_eq_true, decide_eq_true_eq, decide_eq_true_eq] at c
    rw [at_lt c.1 c.2]
    exact ⟨_, rfl⟩
  · rw [if_neg c]
    exact ⟨_, rfl⟩
def alph : List Nat := [97, 98, 99, 100, 101, 102, 103, 104, 105, 106, 107, 108, 109, 110, 111, 112, 113, 114, 115, 116, 117, 118, 119, 120, 121, 122, 48, 49, 50, 51, 52, 53, 54, 55, 56, 57]
structure Nm (t : List Nat) : Prop where
  ge : 1 ≤ t.length
  le : t.length ≤ 4
  al : ∀ c ∈ t, c ∈ alph
theorem Nm.app {a b : List Nat} (h1 : Nm a) (h2 : Nm b) (h : a.length + b.length ≤ 4) : Nm (a ++ b) := ⟨by rw [List.length_append]; have := h1.ge; omega, by rw [List.length_append]; omega, fun c hc => (List.mem_append.mp hc).elim (h1.al c) (h2.al c)⟩
theorem sign_ok (n : Int) : ∃ c, at_ alph (n % 36) = M.ok c ∧ Nm [c] := by
  have a := Int.emod_nonneg n (show (36 : Int) ≠ 0 by decide)
  have b := Int.emod_lt_of_pos n (show (0 : Int) < 36 by decide)
  have hl : ((alph.length : Nat) : Int) = 36 := rfl
  rw [at_lt a (by omega)]
  exact ⟨_, rfl, by simp, by simp, fun c hc => by rw [List.mem_singleton.mp hc]; exact List.getElem_mem _⟩
theorem names_ok (n : Int) : ∃ a b c d, law_names_m n = M.ok [a, b, c, d] ∧ Nm a ∧ Nm b ∧ Nm c ∧ Nm d := by
  have hsz : sizeLine = 16777216 := rfl
  obtain ⟨c1, e1, n1⟩ := sign_ok n
  obtain ⟨c2, e2, n2⟩ := sign_ok ((n * (5 : Int)) + (3 : Int))
  obtain ⟨c3, e3, n3⟩ := sign_ok (n + 11)
  obtain ⟨c4, e4, n4⟩ := sign_ok (n + 23)
  obtain ⟨c5, e5, n5⟩ := sign_ok (n / 3)
  unfold alph at e1 e2 e3 e4 e5
  refine ⟨[c1], [c1] ++ [c2], [c3], (([c4] ++ [c5]) ++ [c1]) ++ [c3], ?_, n1, n1.app n2 (by simp), n3, ((n4.app n5 (by simp)).app n1 (by simp)).app n3 (by simp)⟩
  unfold law_names_m law_names_b
  simp only [M.bind_ok, e1, e2, e3, e4, e5]
  repeat (rw [M.need_pos (by simp [hsz])]; try simp only [M.bind_ok])
  rfl
theorem alph_lt : ∀ c ∈ alph, c < 128 := by decide
end Pf

namespace Pf
open PySem L2 LK NumText
def ASC (t : List Nat) : Prop := ∀ c ∈ t, c < 128
theorem asc_tok {t : List Nat} (h : ASC t) (hl : t.length ≤ 1000000) : tOk t := tOk.mk (by show _ ≤ 2 ^ 24; omega) fun c hc => by have := h c hc; omega
theorem dig_all : ∀ c < 128, Unicode.isDigit c = true → 48 ≤ c ∧ c ≤ 57 := by decide +kernel
theorem dig_yes : ∀ c < 58, 48 ≤ c → Unicode.isDigit c = true := by decide +kernel
theorem isdigit_S (m : List Nat) : Txt.isdigit (S m) = (decide (m.length > 0) && m.all Unicode.isDigit) := by
  unfold Txt.isdigit
  rw [show (S m).length = m.length from S_len m]
  congr 1
  show Array.all _ _ = _
  simp [S]
def isD (c : Nat) : Bool := decide (48 ≤ c) && decide (c ≤ 57)
theorem isD_iff {c : Nat} : isD c = true ↔ 48 ≤ c ∧ c ≤ 57 := by unfold isD; rw [Bool.and_eq_true, decide_eq_true_eq, decide_eq_true_eq]
def lead0 : List Nat → Bool
  | c :: _ :: _ => decide (c = 48)
  | _ => false
def nv (m : List Nat) : Option Int := if m.length < 1 ∨ 9 < m.length then none else if m.all isD = false then none else if lead0 m = true then none else some ((digitsVal m : Nat) : Int)
theorem number_nv {m : List Nat} (ha : ASC m) : number_of_m m = match nv m with | none => M.err .badForm | some n => M.ok n := by
  unfold number_of_m number_of_b
  by_cases hl : m.length < 1 ∨ 9 < m.length
  · have e : nv m = none := if_pos hl
    rw [e, isdigit_S]
    have : (!(decide (m.length > 0) && m.all Unicode.isDigit) || decide ((9 : Int) < (m.length : Int))) = true := by
      rcases hl with h | h
      · rw [decide_eq_false (by omega : ¬ m.length > 0)]; rfl
      · rw [decide_eq_true (by omega : (9 : Int) < (m.length : Int)), Bool.or_true]
    rw [if_pos this]
    rfl
  · have hd : m.all Unicode.isDigit = m.all isD := by
      rw [Bool.eq_iff_iff, List.all_eq_true, List.all_eq_true]
      constructor
      · intro h c hc; exact isD_iff.mpr (dig_all c (ha c hc) (h c hc))
      · intro h c hc; have := isD_iff.mp (h c hc); exact dig_yes c (by omega) this.1
    have h0 : decide (m.length > 0) = true := decide_eq_true (by omega)
    have h9 : decide ((9 : Int) < (m.length : Int)) = false := decide_eq_false (by omega)
    rw [isdigit_S, hd, h0, h9, Bool.true_and, Bool.or_false]
    unfold nv
    rw [if_neg hl]
    cases hall : m.all isD with
    | false => rfl
    | true =>
      rw [if_neg (by decide : ¬ ((!true) = true)), if_neg (by decide : ¬ (true = false))]
      have had : AllDigits m := fun c hc => isD_iff.mp (List.all_eq_true.mp hall c hc)
      cases m with
      | nil => exact absurd h0 (by decide)
      | cons c r =>
        have hat : at_ (c :: r) 0 = M.ok c := at_nat (i := 0) rfl
        have hint : intS (c :: r) = M.ok ((digitsVal (c :: r) : Nat) : Int) := by
          unfold intS
          have := intText_digits (x := S (c :: r)) (by rw [S_cps]; exact had) (by rw [S_cps]; exact List.cons_ne_nil _ _) (by rw [show (S (c :: r)).length = (c :: r).length from S_len _]; omega)
          rw [this, S_cps]
        rw [hat]
        simp only [M.bind_ok]
        cases r with
        | nil =>
          rw [show lead0 [c] = false from rfl, if_neg Bool.false_ne_true, show decide ((1 : Int) < (([c] : List Nat).length : Int)) = false from rfl]
          have : ∀ x : Bool, (if x = true then (M.ok false : M Bool) else M.ok false) = M.ok false := fun x => by cases x <;> rfl
          rw [this, M.bind_ok, if_neg Bool.false_ne_true, M.need_pos (by omega), hint]
          rfl
        | cons d r =>
          rw [show lead0 (c :: d :: r) = decide (c = 48) from rfl, show decide ((1 : Int) < ((c :: d :: r).length : Int)) = true from decide_eq_true (by simp; omega)]
          by_cases hc : c = 48
          · rw [decide_eq_true hc, if_pos rfl, if_pos (decide_eq_true (by rw [hc]))]
            rfl
          · rw [decide_eq_false hc, if_neg Bool.false_ne_true, if_neg (by rw [decide_eq_true_eq]; intro z; injection z with z; exact hc z), M.bind_ok, if_neg Bool.false_ne_true, M.need_pos (by omega), hint]
            rfl
theorem nv_nn {m : List Nat} {k : Int} (h : nv m = some k) : 0 ≤ k := by
  unfold nv at h
  split at h
  · cases h
  · split at h
    · cases h
    · split at h
      · cases h
      · injection h with h
        omega
theorem find_no {t A rest : List Nat} (ht : t = A ++ rest) (h : 58 ∉ rest) : Txt.find3 (S t) (S [58]) (A.length : Int) = -1 := by
  rw [find3_one]
  have : posC t 58 A.length = none := by
    unfold posC
    rw [List.find?_eq_none]
    intro k hk
    rw [List.mem_range'_1] at hk
    simp only [decide_eq_true_eq]
    intro e
    rw [ht, List.getElem?_append_right hk.1] at e
    exact h (List.mem_of_getElem? e)
  rw [this]
def parse : Nat → List Nat → Option (List (List Nat))
  | 0, _ => none
  | n + 1, rest => if rest = [] then some [] else
    match rest.dropWhile (· != 58) with
    | [] => none
    | _ :: q => match nv (rest.takeWhile (· != 58)) with
      | none => none
      | some k => if q.length < k.toNat then none else (parse n (q.drop k.toNat)).map (q.take k.toNat :: ·)
theorem tw {m q : List Nat} (h : 58 ∉ m) : (m ++ 58 :: q).takeWhile (· != 58) = m ∧ (m ++ 58 :: q).dropWhile (· != 58) = 58 :: q := by
  have hp : ∀ a ∈ m, (a != 58) = true := fun a ha => by
    rw [bne_iff_ne]
    rintro rfl
    exact h ha
  constructor
  · rw [List.takeWhile_append_of_pos hp]; simp
  · rw [List.dropWhile_append_of_pos hp]; simp
theorem dw {rest : List Nat} (h : 58 ∉ rest) : rest.dropWhile (· != 58) = [] := by
  rw [← List.append_nil rest, List.dropWhile_append_of_pos fun a ha => by
    rw [bne_iff_ne]
    rintro rfl
    exact h ha]
  rfl
theorem parse_no {n : Nat} {rest : List Nat} (h0 : rest ≠ []) (h : 58 ∉ rest) : parse (n + 1) rest = none := by
  unfold parse
  rw [if_neg h0, dw h]
theorem parse_yes {n : Nat} {m q : List Nat} (h : 58 ∉ m) : parse (n + 1) (m ++ 58 :: q) = match nv m with
      | none => none
      | some k => if q.length < k.toNat then none else (parse n (q.drop k.toNat)).map (q.take k.toNat :: ·) := by
  rw [parse, if_neg (by simp), (tw h).1, (tw h).2]
structure Spl (t A rest m q : List Nat) : Prop where
  ht : t = A ++ (m ++ 58 :: q)
  hr : rest = m ++ 58 :: q
  no : 58 ∉ m
theorem Spl.find {t A rest m q : List Nat} (s : Spl t A rest m q) : Txt.find3 (S t) (S [58]) (A.length : Int) = ((A.length + m.length : Nat) : Int) :=
  find3_hit (m := m) (r := q) (by rw [s.ht, List.drop_left' rfl]) s.no
theorem Spl.cut {t A rest m q : List Nat} (s : Spl t A rest m q) : cut t (some (A.length : Int)) (some ((A.length + m.length : Nat) : Int)) = m := cut_mid (C := 58 :: q) s.ht rfl rfl
theorem Spl.len {t A rest m q : List Nat} (s : Spl t A rest m q) : t.length = A.length + m.length + 1 + q.length := by rw [s.ht]; simp only [List.length_append, List.length_cons]; omega
theorem Spl.cut2 {t A rest m q : List Nat} (s : Spl t A rest m q) {k : Int} (h0 : 0 ≤ k) (hk : k.toNat ≤ q.length) : LK.cut t (some (((A.length + m.length : Nat) : Int) + 1)) (some (((A.length + m.length : Nat) : Int) + 1 + k)) = q.take k.toNat := by
  have hp : (q.take k.toNat).length = k.toNat := by rw [List.length_take]; omega
  exact cut_mid (A := A ++ (m ++ [58])) (C := q.drop k.toNat) (by rw [s.ht, List.take_append_drop]; simp) (by simp only [List.length_append, List.length_cons, List.length_nil]; omega) (by simp only [List.length_append, List.length_cons, List.length_nil, hp]; omega)
theorem Spl.next {t A rest m q : List Nat} (s : Spl t A rest m q) {k : Int} (h0 : 0 ≤ k) (hk : k.toNat ≤ q.length) : t = (A ++ (m ++ 58 :: q.take k.toNat)) ++ q.drop k.toNat ∧ ((A ++ (m ++ 58 :: q.take k.toNat)).length : Int) = ((A.length + m.length : Nat) : Int) + 1 + k := by
  have hp : (q.take k.toNat).length = k.toNat := by rw [List.length_take]; omega
  refine ⟨?_, ?_⟩
  · rw [s.ht]
    simp [List.take_append_drop]
  · simp only [List.length_append, List.length_cons, hp]
    omega
theorem split {t A rest : List Nat} (ht : t = A ++ rest) : rest = [] ∨ (rest ≠ [] ∧ 58 ∉ rest) ∨ ∃ m q, Spl t A rest m q := by
  by_cases h0 : rest = []
  · exact .inl h0
  · by_cases h : 58 ∈ rest
    · obtain ⟨m, q, e, hm⟩ := List.eq_append_cons_of_mem h
      exact .inr (.inr ⟨m, q, by rw [ht, e], e, hm⟩)
    · exact .inr (.inl ⟨h0, h⟩)
theorem part_ok {t A rest m q : List Nat} (ha : ASC t) (s : Spl t A rest m q) : part_at_m t (A.length : Int) = match nv m with
    | none => M.err .badForm
    | some k => if q.length < k.toNat then M.err .badForm else M.ok (q.take k.toNat, ((A ++ (m ++ 58 :: q.take k.toNat)).length : Int)) := by
  have ham : ASC m := fun c hc => ha c (by rw [s.ht]; exact List.mem_append_right _ (List.mem_append_left _ hc))
  unfold part_at_m part_at_b
  rw [M.bind_ok, s.find, if_neg (by rw [decide_eq_true_eq]; omega), M.bind_ok, s.cut, number_nv ham]
  cases hv : nv m with
  | none => rfl
  | some k =>
    have hk0 := nv_nn hv
    have h3 := s.len
    show fin none (if (decide ((t.length : Int) < ((A.length + m.length : Nat) : Int) + 1 + k)) = true then _ else _) = if q.length < k.toNat then _ else _
    by_cases hk : q.length < k.toNat
    · rw [if_pos (by rw [decide_eq_true_eq]; omega), if_pos hk]
      rfl
    · rw [if_neg (by rw [decide_eq_true_eq]; omega), if_neg hk, s.cut2 hk0 (by omega), (s.next hk0 (by omega)).2]
      rfl
theorem part_no {t A rest : List Nat} (ht : t = A ++ rest) (h : 58 ∉ rest) : part_at_m t (A.length : Int) = M.err .badForm := by
  unfold part_at_m part_at_b
  rw [find_no ht h]
  rfl
theorem up_loop {t : List Nat} (ha : ASC t) (hl : t.length ≤ 100000) {p : Er → Int × List (List Nat) → Er} (hp : ∀ e x, p e x = e) : ∀ (n : Nat) (A rest : List Nat) (acc : List (List Nat)), t = A ++ rest → rest.length < n → acc.length ≤ A.length →
    wm (whileL (b := Unit) (ρ := List (List Nat)) p (fun s4 : Int × List (List Nat) => M.ok (decide (s4.1 < (t.length : Int)))) (fun s4 => (part_at_m t s4.1).bind fun v5 => (M.ok (v5.1)).bind fun v6 => M.need (s4.2.length < sizeLine) (M.ok (.nx (v5.2, (s4.2 ++ [v6]))))) n ((A.length : Int), acc))
      (fun o => ∃ ps y, parse n rest = some ps ∧ o = .nx (y, acc ++ ps)) (fun e => e = .badForm ∧ parse n rest = none)
  | 0, A, rest, acc, ht, h, hc => by omega
  | n + 1, A, rest, acc, ht, h, hc => by
    have hlen : t.length = A.length + rest.length := by rw [ht, List.length_append]
    refine whileL_step ?_
    rw [wm_ok]
    constructor
    · intro hlt
      rw [decide_eq_true_eq] at hlt
      have hlt : (A.length : Int) < (t.length : Int) := hlt
      rcases split ht with h0 | ⟨h0, hno⟩ | ⟨m, q, s⟩
      · subst h0
        simp at hlen
        omega
      · show wm (Mg.bindP _ (part_at_m t (A.length : Int)) _) _ _
        rw [part_no ht hno]
        exact (wm_err _).mpr ⟨rfl, parse_no h0 hno⟩
      · have hr : rest.length = m.length + 1 + q.length := by rw [s.hr]; simp only [List.length_append, List.length_cons]; omega
        show wm (Mg.bindP _ (part_at_m t (A.length : Int)) _) _ _
        rw [part_ok ha s, s.hr, parse_yes s.no]
        cases hv : nv m with
        | none => exact (wm_err _).mpr ⟨rfl, rfl⟩
        | some k =>
          have hk0 := nv_nn hv
          show wm (Mg.bindP _ (if q.length < k.toNat then _ else _) _) _ _
          by_cases hk : q.length < k.toNat
          · rw [if_pos hk]
            refine (wm_err _).mpr ⟨rfl, ?_⟩
            show (if q.length < k.toNat then none else _) = none
            rw [if_pos hk]
          · rw [if_neg hk]
            obtain ⟨h5, h6⟩ := s.next hk0 (by omega)
            rw [wm_bind, wm_ok, wm_bind, wm_ok, wm_need, wm_ok]
            refine ⟨by show acc.length < 2 ^ 24; omega, ?_⟩
            have ih := up_loop ha hl hp n _ (q.drop k.toNat) (acc ++ [q.take k.toNat]) h5 (by rw [List.length_drop]; omega) (by rw [List.length_append, List.length_append]; simp; omega)
            show wm _ _ _
            refine wm_mono ih (fun o ⟨ps, y, e1, e2⟩ => ⟨q.take k.toNat :: ps, y, ?_, ?_⟩) (fun e ⟨e1, e2⟩ => ⟨e1, ?_⟩)
            · show (if q.length < k.toNat then none else _) = _
              rw [if_neg hk, e1]
              rfl
            · rw [e2]
              simp
            · show (if q.length < k.toNat then none else _) = _
              rw [if_neg hk, e2]
              rfl
    · intro hlt
      rw [decide_eq_false_iff_not] at hlt
      have hlt : ¬ (A.length : Int) < (t.length : Int) := hlt
      have h0 : rest = [] := List.length_eq_zero_iff.mp (by omega)
      subst h0
      exact ⟨[], _, by rw [parse, if_pos rfl], by rw [List.append_nil]⟩
theorem unpack_ok {t : List Nat} (ha : ASC t) (hl : t.length ≤ 100000) : unpack_m t = match parse (t.length + 1) t with
    | none => M.err .badForm
    | some ps => M.ok ps := by
  have h := up_loop (p := fun e _ => e) ha hl (fun _ _ => rfl) (t.length + 1) [] t [] rfl (by omega) (Nat.le_refl _)
  have h2 : wm (unpack_m t) (fun r => parse (t.length + 1) t = some r) (fun e => e = .badForm ∧ parse (t.length + 1) t = none) := by
    unfold unpack_m unpack_b
    refine wm_fin ?_
    rw [wm_bind, wm_ok, wm_bind, wm_ok, wm_seq]
    refine wm_mono h (fun o ⟨ps, y, e1, e2⟩ => ?_) fun _ z => z
    subst e2
    rw [flw_nx, wm_ok, fnw_ret]
    exact e1
  rcases h2 with ⟨r, e1, e2⟩ | ⟨e, e1, e2, e3⟩
  · rw [e1, e2]
  · rw [e1, e3, e2]
end Pf

namespace Pf
open PySem L2 LK NumText
theorem val_split : ∀ (cs : List Nat) (a : Nat), cs.foldl (fun acc c => acc * 10 + (c - 48)) a = a * 10 ^ cs.length + digitsVal cs
  | [], a => by simp [digitsVal]
  | c :: cs, a => by
    rw [List.foldl_cons, val_split cs, show digitsVal (c :: cs) = cs.foldl (fun acc c => acc * 10 + (c - 48)) (0 * 10 + (c - 48)) from rfl, val_split cs (0 * 10 + (c - 48)), List.length_cons, Nat.pow_succ]
    rw [Nat.add_mul, Nat.zero_mul, Nat.zero_add, Nat.mul_assoc, Nat.mul_comm 10, Nat.add_assoc]
theorem val_cons (c : Nat) (cs : List Nat) : digitsVal (c :: cs) = (c - 48) * 10 ^ cs.length + digitsVal cs := by
  rw [show digitsVal (c :: cs) = cs.foldl (fun acc c => acc * 10 + (c - 48)) (0 * 10 + (c - 48)) from rfl, val_split, Nat.zero_mul, Nat.zero_add]
theorem val_lt : ∀ (cs : List Nat), AllDigits cs → digitsVal cs < 10 ^ cs.length
  | [], _ => by decide
  | c :: cs, h => by
    have h1 := h.head
    have h2 := val_lt cs h.tail
    rw [val_cons, List.length_cons, Nat.pow_succ]
    have : (c - 48) * 10 ^ cs.length ≤ 9 * 10 ^ cs.length := Nat.mul_le_mul_right _ (by omega)
    omega
theorem val_inj : ∀ (a b : List Nat), a.length = b.length → AllDigits a → AllDigits b → digitsVal a = digitsVal b → a = b
  | [], [], _, _, _, _ => rfl
  | [], _ :: _, h, _, _, _ => by cases h
  | _ :: _, [], h, _, _, _ => by cases h
  | c :: a, d :: b, h, ha, hb, hv => by
    have hl : a.length = b.length := by simpa using h
    have h1 := ha.head
    have h2 := hb.head
    have h3 := val_lt a ha.tail
    have h4 := val_lt b hb.tail
    rw [val_cons, val_cons, hl] at hv
    rw [hl] at h3
    have hp : 0 < 10 ^ b.length := Nat.pow_pos (by decide)
    have e1 : c - 48 = d - 48 := by
      have q1 : ((c - 48) * 10 ^ b.length + digitsVal a) / 10 ^ b.length = c - 48 := by
        rw [Nat.add_comm, Nat.add_mul_div_right _ _ hp, Nat.div_eq_of_lt h3, Nat.zero_add]
      have q2 : ((d - 48) * 10 ^ b.length + digitsVal b) / 10 ^ b.length = d - 48 := by
        rw [Nat.add_comm, Nat.add_mul_div_right _ _ hp, Nat.div_eq_of_lt h4, Nat.zero_add]
      rw [← q1, ← q2, hv]
    have e2 : digitsVal a = digitsVal b := by
      rw [e1] at hv
      omega
    rw [val_inj a b hl ha.tail hb.tail e2, show c = d from by omega]
def dec (n : Nat) : List Nat := (Nat.toDigits 10 n).map Char.toNat
theorem strI_nat (n : Nat) : strI (n : Int) = dec n := PySem.W.KIN.signs_num n
theorem dec_all (n : Nat) : AllDigits (dec n) := by
  intro c hc
  obtain ⟨ch, hch, e⟩ := List.mem_map.mp hc
  have r := PyProof.Rows.digit_range (Nat.isDigit_of_mem_toDigits (by decide) (by decide) hch)
  rw [← e]
  exact r
theorem dec_val (n : Nat) : digitsVal (dec n) = n := PySem.W.KIN.val_back n
theorem dec_le {k n : Nat} (hk : 1 ≤ k) (h : n < 10 ^ k) : (dec n).length ≤ k := by
  unfold dec
  rw [List.length_map]
  exact PyProof.Rows.digits10_le hk h
theorem dec_ge {k n : Nat} (h : 10 ^ k ≤ n) : k + 1 ≤ (dec n).length := by
  unfold dec
  rw [List.length_map]
  exact PyProof.Rows.digits10_ge h
theorem log_small {n : Nat} (h : n < 10 ^ 15) : n.log2 < 1920 := by
  by_cases h0 : n = 0
  · subst h0; decide
  · exact Nat.lt_of_lt_of_le (Nat.log2_lt h0 |>.mpr (Nat.lt_trans h (by decide : 10 ^ 15 < 2 ^ 60))) (by decide)
theorem dec_tok {n : Nat} (h : n < 10 ^ 15) : tOk (dec n) := tOk.mk (by have := dec_le (k := 15) (by decide) h; show _ ≤ 2 ^ 24; omega) fun c hc => by have := dec_all n c hc; omega
theorem str_need {n : Nat} (h : n < 10 ^ 15) : ((n : Int).natAbs.log2 < 1920 ∧ tOk (strI (n : Int))) ∧ strI (n : Int) = dec n := by
  rw [strI_nat]
  exact ⟨⟨log_small h, dec_tok h⟩, rfl⟩
theorem dec_ne (n : Nat) : dec n ≠ [] := by
  intro h
  have := dec_ge (k := 0) (n := n + 1) (by simp)
  unfold dec at h
  have h1 : Nat.toDigits 10 n = [] := List.map_eq_nil_iff.mp h
  have h2 := PyProof.Rows.tDigits_len_ge 10 n
  rw [h1] at h2
  exact absurd h2 (by decide)
end Pf

namespace Pf
open PySem L2 LK NumText
theorem dec_pos (n : Nat) : 1 ≤ (dec n).length := by
  cases h : dec n with
  | nil => exact absurd h (dec_ne n)
  | cons c r => simp
theorem dec_nv {n : Nat} (h : n < 10 ^ 9) : nv (dec n) = some ((n : Nat) : Int) := by
  have h1 := dec_pos n
  have h2 := dec_le (k := 9) (by decide) h
  unfold nv
  rw [if_neg (by omega), if_neg, if_neg, dec_val]
  · intro hz
    have hv := dec_val n
    have hl := fun k (hk : 1 ≤ k) (q : n < 10 ^ k) => dec_le hk q
    have ha := dec_all n
    generalize dec n = m at hz hv hl ha
    match m with
    | [] => cases hz
    | [_] => cases hz
    | c :: d :: r =>
      have hc : c = 48 := of_decide_eq_true hz
      subst hc
      rw [val_cons, Nat.sub_self, Nat.zero_mul, Nat.zero_add] at hv
      have := val_lt (d :: r) ha.tail
      rw [hv] at this
      have := hl (d :: r).length (by simp) this
      simp only [List.length_cons] at this
      omega
  · intro hz
    have : (dec n).all isD = true := List.all_eq_true.mpr fun c hc => isD_iff.mpr (dec_all n c hc)
    rw [this] at hz
    cases hz
theorem nv_dec {m : List Nat} {k : Int} (h : nv m = some k) : m = dec k.toNat ∧ 0 ≤ k ∧ k < 10 ^ 9 := by
  unfold nv at h
  split at h
  · cases h
  rename_i hl
  split at h
  · cases h
  rename_i hd
  split at h
  · cases h
  rename_i hz
  injection h with h
  have ha : AllDigits m := fun c hc => isD_iff.mp (List.all_eq_true.mp (by simpa using hd) c hc)
  have hlt := val_lt m ha
  have hpw : (10 : Nat) ^ m.length ≤ 10 ^ 9 := Nat.pow_le_pow_right (by decide) (by omega)
  have hk : k.toNat = digitsVal m := by omega
  refine ⟨?_, by omega, by omega⟩
  rw [hk]
  refine val_inj m _ ?_ ha (dec_all _) (dec_val _).symm
  have h1 := dec_le (n := digitsVal m) (k := m.length) (by omega) hlt
  refine Nat.le_antisymm ?_ h1
  match m with
  | [] => simp
  | [c] => exact dec_pos _
  | c :: d :: r =>
    have hc : c ≠ 48 := fun e => hz (decide_eq_true e)
    have hc2 := ha.head
    have : 10 ^ (d :: r).length ≤ digitsVal (c :: d :: r) := by
      rw [val_cons]
      have : 1 * 10 ^ (d :: r).length ≤ (c - 48) * 10 ^ (d :: r).length := Nat.mul_le_mul_right _ (by omega)
      omega
    have := dec_ge this
    simpa using this
theorem dec_no58 (n : Nat) : 58 ∉ dec n := fun h => by have := dec_all n 58 h; omega
theorem dec_asc (n : Nat) : ASC (dec n) := fun c hc => by have := dec_all n c hc; omega
theorem number_dec {n : Nat} (h : n < 10 ^ 9) : number_of_m (dec n) = M.ok ((n : Nat) : Int) := by
  rw [number_nv (dec_asc n), dec_nv h]
/-! ### packing -/
def encP (p : List Nat) : List Nat := dec p.length ++ 58 :: p
def Pk (xs : List (List Nat)) : List Nat := (xs.map encP).flatten
theorem Pk_cons (p : List Nat) (xs : List (List Nat)) : Pk (p :: xs) = dec p.length ++ 58 :: (p ++ Pk xs) := by
  unfold Pk encP
  simp
theorem parse_pack : ∀ (xs : List (List Nat)) (n : Nat), (∀ p ∈ xs, p.length < 10 ^ 9) → xs.length < n → parse n (Pk xs) = some xs
  | [], n + 1, _, _ => by show parse (n + 1) [] = _; unfold parse; rw [if_pos rfl]
  | p :: xs, n + 1, h, hn => by
    rw [Pk_cons, parse_yes (dec_no58 _), dec_nv (h p List.mem_cons_self)]
    show (if (p ++ Pk xs).length < p.length then none else _) = _
    rw [if_neg (by rw [List.length_append]; omega)]
    show (parse n ((p ++ Pk xs).drop p.length)).map ((p ++ Pk xs).take p.length :: ·) = _
    rw [List.drop_left, List.take_left, parse_pack xs n (fun q hq => h q (List.mem_cons_of_mem _ hq)) (by simp at hn; omega)]
    rfl
theorem parse_inv : ∀ (n : Nat) (t : List Nat) (xs : List (List Nat)), parse n t = some xs → t = Pk xs
  | 0, t, xs, h => by cases h
  | n + 1, t, xs, h => by
    rcases split (t := t) (A := []) (rest := t) rfl with h0 | ⟨h0, hno⟩ | ⟨m, q, s⟩
    · subst h0
      unfold parse at h
      rw [if_pos rfl] at h
      injection h with h
      subst h
      rfl
    · rw [parse_no h0 hno] at h
      cases h
    · rw [s.hr, parse_yes s.no] at h
      cases hv : nv m with
      | none => rw [hv] at h; cases h
      | some k =>
        rw [hv] at h
        have h : (if q.length < k.toNat then none else (parse n (q.drop k.toNat)).map (q.take k.toNat :: ·)) = some xs := h
        by_cases hk : q.length < k.toNat
        · rw [if_pos hk] at h; cases h
        · rw [if_neg hk] at h
          cases hp : parse n (q.drop k.toNat) with
          | none => rw [hp] at h; cases h
          | some ys =>
            rw [hp] at h
            injection h with h
            subst h
            have ih := parse_inv n _ ys hp
            have hm := (nv_dec hv).1
            rw [s.hr, Pk_cons, ← ih, List.take_append_drop, List.length_take, Nat.min_eq_left (by omega), ← hm]
theorem Pk_asc {xs : List (List Nat)} (h : ∀ p ∈ xs, ASC p) : ASC (Pk xs) := by
  intro c hc
  obtain ⟨x, hx, hc⟩ := List.mem_flatten.mp hc
  obtain ⟨p, hp, rfl⟩ := List.mem_map.mp hx
  rcases List.mem_append.mp hc with z | z
  · exact dec_asc _ c z
  · rcases List.mem_cons.mp z with z | z
    · omega
    · exact h p hp c z
theorem Pk_len (xs : List (List Nat)) : (Pk xs).length = ((xs.map encP).map List.length).sum := by
  unfold Pk
  rw [List.length_flatten]
theorem Pk_ge : ∀ xs : List (List Nat), xs.length ≤ (Pk xs).length
  | [] => Nat.zero_le _
  | p :: xs => by
    have := Pk_ge xs
    rw [Pk_cons]
    simp only [List.length_append, List.length_cons]
    omega
theorem Pk_mem {xs : List (List Nat)} {p : List Nat} (h : p ∈ xs) : p.length < (Pk xs).length := by
  induction xs with
  | nil => exact nomatch h
  | cons q r ih =>
    rw [Pk_cons]
    simp only [List.length_append, List.length_cons]
    rcases List.mem_cons.mp h with rfl | h
    · omega
    · have := ih h
      omega
theorem Pk_sub {xs : List (List Nat)} (h : ASC (Pk xs)) : ∀ p ∈ xs, ASC p := fun p hp c hc => h c (List.mem_flatten.mpr ⟨encP p, List.mem_map.mpr ⟨p, hp, rfl⟩, List.mem_append_right _ (List.mem_cons_of_mem _ hc)⟩)
theorem enc_ok {xs : List (List Nat)} (ha : ASC (Pk xs)) (hl : (Pk xs).length ≤ 1000000) {p : List Nat} (hp : p ∈ xs) : (((p.length : Nat) : Int).natAbs.log2 < 1920 ∧ tOk (strI ((p.length : Nat) : Int))) ∧ strI ((p.length : Nat) : Int) = dec p.length ∧ (dec p.length).length + (p.length + 1) ≤ 1000000 := by
  have h1 := Pk_mem hp
  obtain ⟨a, b⟩ := str_need (n := p.length) (by omega)
  refine ⟨a, b, ?_⟩
  have : (encP p).length ≤ (Pk xs).length := by
    clear h1 a b ha hl
    induction xs with
    | nil => exact nomatch hp
    | cons q r ih =>
      have e : Pk (q :: r) = encP q ++ Pk r := rfl
      rw [e, List.length_append]
      rcases List.mem_cons.mp hp with rfl | h
      · omega
      · have := ih h
        omega
  unfold encP at this
  simp only [List.length_append, List.length_cons] at this
  omega
theorem law_pack_ok {xs : List (List Nat)} (ha : ASC (Pk xs)) (hl : (Pk xs).length ≤ 1000000) : law_pack_m xs = M.ok (Pk xs) := by
  have hg := Pk_ge xs
  have hsz : sizeLine = 16777216 := rfl
  unfold law_pack_m law_pack_b
  rw [M.bind_ok, lcL_map encP xs [] (fun p hp => by
    obtain ⟨a, b, c⟩ := enc_ok ha hl hp
    rw [M.need_pos a, b]
    unfold encP joinM
    rw [M.bind_ok, M.need_pos (by rw [hsz]; simp only [List.length_append, List.length_cons, List.length_nil]; omega)]
    unfold joinM
    rw [M.bind_ok, M.need_pos (by rw [hsz]; simp only [List.length_append, List.length_cons, List.length_nil]; omega)]
    unfold joinM
    rw [M.bind_ok, M.bind_ok, M.need_pos (by rw [hsz]; simp only [List.length_append, List.length_cons, List.length_nil]; omega)]
    simp) (by rw [hsz]; simp; omega)]
  rw [M.bind_ok, M.bind_ok, M.bind_ok, List.nil_append, joinL_eq, inter_nil]
  have := Pk_len xs
  show fin none ((M.need (((xs.map encP).map List.length).sum + _ ≤ _ ∧ tOk (Pk xs)) (M.ok (Pk xs))).bind _) = _
  rw [M.need_pos ⟨by simp only [List.length_nil, Nat.mul_zero]; omega, asc_tok ha hl⟩]
  rfl
theorem pack_ok {xs : List (List Nat)} (ha : ASC (Pk xs)) (hl : (Pk xs).length ≤ 1000000) : pack_m xs = M.ok (Pk xs) := by
  have hg := Pk_ge xs
  have hsz : sizeLine = 16777216 := rfl
  unfold pack_m pack_b
  rw [M.bind_ok, lcL_map encP xs [] (fun p hp => by
    obtain ⟨a, b, c⟩ := enc_ok ha hl hp
    rw [M.need_pos a, b]
    unfold encP joinM
    rw [M.bind_ok, M.need_pos (by rw [hsz]; simp only [List.length_append, List.length_cons, List.length_nil]; omega)]
    unfold joinM
    rw [M.bind_ok, M.need_pos (by rw [hsz]; simp only [List.length_append, List.length_cons, List.length_nil]; omega)]
    unfold joinM
    rw [M.bind_ok, M.need_pos (by rw [hsz]; simp only [List.length_append, List.length_cons, List.length_nil]; omega)]
    unfold joinM
    simp) (by rw [hsz]; simp; omega)]
  rw [M.bind_ok, M.bind_ok, M.bind_ok, List.nil_append, joinL_eq, inter_nil]
  have := Pk_len xs
  show fin none ((M.need (((xs.map encP).map List.length).sum + _ ≤ _ ∧ tOk (Pk xs)) (M.ok (Pk xs))).bind _) = _
  rw [M.need_pos ⟨by simp only [List.length_nil, Nat.mul_zero]; omega, asc_tok ha hl⟩]
  rfl
/-- any text: refused, or the packed text of what is read -/
theorem unpack_any {t : List Nat} (ha : ASC t) (hl : t.length ≤ 100000) : unpack_m t = M.err .badForm ∨ ∃ xs, unpack_m t = M.ok xs ∧ t = Pk xs := by
  rw [unpack_ok ha hl]
  cases h : parse (t.length + 1) t with
  | none => exact .inl rfl
  | some xs => exact .inr ⟨xs, rfl, parse_inv _ _ _ h⟩
theorem unpack_pack {xs : List (List Nat)} (ha : ASC (Pk xs)) (hl : (Pk xs).length ≤ 100000) : unpack_m (Pk xs) = M.ok xs := by
  rw [unpack_ok ha hl, parse_pack xs _ (fun p hp => by have := Pk_mem hp; omega) (by have := Pk_ge xs; omega)]
theorem parse_app : ∀ (xs : List (List Nat)) (n : Nat) (r : List Nat), (∀ p ∈ xs, p.length < 10 ^ 9) → parse (n + xs.length) (Pk xs ++ r) = (parse n r).map (xs ++ ·)
  | [], n, r, _ => by
    show parse n r = _
    cases parse n r <;> rfl
  | p :: xs, n, r, h => by
    rw [Pk_cons, List.append_assoc, List.cons_append, show n + (p :: xs).length = (n + xs.length) + 1 from rfl, parse_yes (dec_no58 _), dec_nv (h p List.mem_cons_self)]
    show (if (p ++ Pk xs ++ r).length < p.length then none else _) = _
    rw [if_neg (by rw [List.length_append, List.length_append]; omega), List.append_assoc]
    show (parse _ ((p ++ (Pk xs ++ r)).drop p.length)).map ((p ++ (Pk xs ++ r)).take p.length :: ·) = _
    rw [List.drop_left, List.take_left, parse_app xs n r (fun q hq => h q (List.mem_cons_of_mem _ hq))]
    cases parse n r <;> rfl
theorem Pk_inj {xs ys : List (List Nat)} (ha : ASC (Pk xs)) (hl : (Pk xs).length ≤ 100000) (h : Pk xs = Pk ys) : xs = ys := by
  have h1 := unpack_pack ha hl
  rw [h] at ha hl h1
  have h2 := unpack_pack ha hl
  rw [h1] at h2
  exact ok_inj h2
end Pf

namespace Pf
open PySem L2 LK NumText
abbrev K2 := List Nat × List Nat
abbrev Dd := List (K2 × Int)
abbrev R3 := List Nat × List Nat × Int
abbrev en2 : K2 → List At := fun a => [At.t a.1, At.t a.2]
theorem en2_inj : ∀ a b : K2, en2 a = en2 b → a = b := by
  rintro ⟨a1, a2⟩ ⟨b1, b2⟩ h
  injection h with h1 h
  injection h with h2 _
  cases h1; cases h2; rfl
abbrev rk (r : R3) : K2 := (r.1, r.2.1)
abbrev rp (r : R3) : K2 × Int := (rk r, r.2.2)
def kvs (m : List R3) : Dd := m.map rp
structure J (d : Dd) (m : List R3) (n : Nat) : Prop where
  dn : (d.map (·.1)).Nodup
  mn : (m.map rk).Nodup
  eq : ∀ p, p ∈ d ↔ p ∈ kvs m
  gd : ∀ r ∈ m, Nm r.1 ∧ Nm r.2.1
  le : m.length ≤ n
theorem kvs_keys (m : List R3) : (kvs m).map (·.1) = m.map rk := by unfold kvs; rw [List.map_map]; rfl
def prs (m : List R3) : List K2 := sortE en2 (m.map rk)
section
variable {d : Dd} {m : List R3} {n : Nat}
theorem J.perm (h : J d m n) : d.Perm (kvs m) := dict_perm h.dn (by rw [kvs_keys]; exact h.mn) h.eq
theorem J.len (h : J d m n) : d.length = m.length := by rw [h.perm.length_eq]; unfold kvs; rw [List.length_map]
theorem J.kperm (h : J d m n) : (d.map (·.1)).Perm (m.map rk) := by
  have := h.perm.map (·.1)
  rw [kvs_keys] at this
  exact this
theorem J.pairs (h : J d m n) : Duties_pairs_m d = M.ok (prs m) := by
  unfold Duties_pairs_m Duties_pairs_b
  have : sortE en2 (d.map (·.1)) = prs m := sortE_congr en2_inj h.kperm
  rw [this]
  rfl
theorem prs_len (m : List R3) : (prs m).length = m.length := by unfold prs; rw [(sortE_perm _).length_eq, List.length_map]
theorem prs_mem {m : List R3} {a : K2} : a ∈ prs m ↔ a ∈ m.map rk := (sortE_perm _).mem_iff
theorem J.prs_nd (h : J d m n) : (prs m).Nodup := ((sortE_perm _).nodup_iff).mpr h.mn
theorem J.prs_key (h : J d m n) {a : K2} : a ∈ prs m ↔ a ∈ d.map (·.1) := prs_mem.trans h.kperm.mem_iff.symm
theorem J.prs_gd (h : J d m n) {a : K2} (ha : a ∈ prs m) : Nm a.1 ∧ Nm a.2 := by
  obtain ⟨r, hr, rfl⟩ := List.mem_map.mp (prs_mem.mp ha)
  exact h.gd r hr
def flat2 (l : List K2) : List (List Nat) := l.flatMap fun p => [p.1, p.2]
theorem flat2_snoc (l : List K2) (a : K2) : flat2 (l ++ [a]) = (flat2 l ++ [a.1]) ++ [a.2] := by simp [flat2]
theorem flat2_len (l : List K2) : (flat2 l).length = 2 * l.length := by
  induction l with
  | nil => rfl
  | cons a r ih =>
    rw [show flat2 (a :: r) = [a.1, a.2] ++ flat2 r from rfl, List.length_append, ih]
    simp only [List.length_cons, List.length_nil]
    omega
theorem flat2_mem {l : List K2} {P : List Nat → Prop} (h : ∀ a ∈ l, P a.1 ∧ P a.2) : ∀ t ∈ flat2 l, P t := by
  intro t ht
  obtain ⟨a, ha, h1⟩ := List.mem_flatMap.mp ht
  simp only [List.mem_cons, List.not_mem_nil, or_false] at h1
  rcases h1 with rfl | rfl
  · exact (h a ha).1
  · exact (h a ha).2
def img (l : List K2) : List Nat := Pk (flat2 l)
theorem flat_asc {l : List K2} (h : ∀ a ∈ l, Nm a.1 ∧ Nm a.2) : ASC (img l) := Pk_asc (flat2_mem fun a ha => ⟨fun c hc => alph_lt c ((h a ha).1.al c hc), fun c hc => alph_lt c ((h a ha).2.al c hc)⟩)
theorem Pk_small {xs : List (List Nat)} (h : ∀ p ∈ xs, p.length ≤ 9) : (Pk xs).length ≤ 11 * xs.length := by
  induction xs with
  | nil => exact Nat.le_refl _
  | cons p r ih =>
    have h1 := h p List.mem_cons_self
    have h2 := ih fun q hq => h q (List.mem_cons_of_mem _ hq)
    have h3 := dec_le (k := 1) (n := p.length) (by decide) (by omega)
    rw [Pk_cons]
    simp only [List.length_append, List.length_cons]
    omega
theorem img_len {l : List K2} (h : ∀ a ∈ l, Nm a.1 ∧ Nm a.2) : (img l).length ≤ 22 * l.length := by
  have := Pk_small (xs := flat2 l) (flat2_mem fun a ha => ⟨by have := (h a ha).1.le; omega, by have := (h a ha).2.le; omega⟩)
  rw [flat2_len] at this
  unfold img
  omega
theorem take_snoc {α : Type} {l : List α} {j : Nat} {a : α} (h : l[j]? = some a) : l.take (j + 1) = l.take j ++ [a] := by rw [List.take_succ, h]; rfl
theorem J.image (h : J d m n) (hn : n ≤ 100) : Duties_image_m d = M.ok (img (prs m)) := by
  have hsz : sizeLine = 16777216 := rfl
  have hl : (prs m).length ≤ 100 := by rw [prs_len]; have := h.le; omega
  have hi := img_len (l := prs m) fun a ha => h.prs_gd ha
  unfold Duties_image_m Duties_image_b
  refine wm_val (wm_fin ?_)
  rw [wm_bind, wm_ok, h.pairs, M.bind_ok]
  refine wm_nx (fun s => s = flat2 (prs m)) ?_ fun s hs => ?_
  · refine wm_forP (fun j s => s = flat2 ((prs m).take j)) rfl ?_ (fun y hy => ⟨y, rfl, by rw [List.take_length] at hy; exact hy⟩)
    intro j s a ha hj hs
    subst hs
    have := flat2_len ((prs m).take j)
    have : ((prs m).take j).length ≤ 100 := by rw [List.length_take]; omega
    simp only [wm_bind, wm_ok, wm_need, List.length_append, List.length_cons, List.length_nil]
    exact ⟨by omega, by omega, _, rfl, by rw [take_snoc ha, flat2_snoc]⟩
  · subst hs
    rw [pack_ok (flat_asc fun a ha => h.prs_gd ha) (by show (img _).length ≤ _; omega)]
    exact (wm_ok _).mpr rfl
theorem note_eq (hd : d.length ≤ 1000) (k p : List Nat) (v : Int) : Duties_note_m d k p v = M.ok (dput d (k, p) v) := by
  unfold Duties_note_m Duties_note_b
  rw [bp_ok, bp_ok, M.need_pos (by show _ < 2 ^ 24; omega)]
  rfl
theorem del_wm {gone : List K2} (hg : gone.Nodup) (hk : ∀ a ∈ gone, a ∈ d.map (·.1)) (hd : (d.map (·.1)).Nodup) :
    wm (forL (ε := Er × Dd) (ρ := Bool × Dd) (b := Unit) (fun s11 a12 => (M.ok (a12)).bindP (fun e => (e, s11)) fun k14 => M.need ((dget s11 k14).isSome = true) (M.ok (.nx (ddel s11 k14)))) gone d) (fun o => ∃ v, o = Fl.nx v ∧ (v.map (·.1)).Nodup ∧ ∀ p, p ∈ v ↔ p ∈ d ∧ p.1 ∉ gone) (fun _ => False) := by
  refine wm_forP (fun j v => (v.map (·.1)).Nodup ∧ ∀ p, p ∈ v ↔ p ∈ d ∧ p.1 ∉ gone.take j) ⟨hd, fun p => by simp⟩ ?_ (fun y hy => ⟨y, rfl, by rw [List.take_length] at hy; exact hy⟩)
  intro j s a ha hj ⟨h1, h2⟩
  have ham := List.mem_of_getElem? ha
  have hno : a ∉ gone.take j := by
    intro z
    obtain ⟨i, hi, e⟩ := List.mem_take_iff_getElem.mp z
    have h3 : i < gone.length := by omega
    have := (List.getElem?_inj h3 hg (j := j)).mp (by rw [ha, List.getElem?_eq_getElem h3, e])
    omega
  simp only [wm_bind, wm_ok, wm_need]
  refine ⟨?_, _, rfl, ddel_nd h1, fun p => ?_⟩
  · cases e : dget s a with
    | some v => rfl
    | none =>
      obtain ⟨p, hp, rfl⟩ := List.mem_map.mp (hk a ham)
      exact (dget_no.mp e (List.mem_map.mpr ⟨p, (h2 p).mpr ⟨hp, hno⟩, rfl⟩)).elim
  · rw [mem_ddel, h2, take_snoc ha, List.mem_append, List.mem_singleton]
    constructor
    · rintro ⟨⟨x, y⟩, z⟩
      exact ⟨x, fun w => w.elim y z⟩
    · rintro ⟨x, y⟩
      exact ⟨⟨x, fun w => y (.inl w)⟩, fun w => y (.inr w)⟩
/-- what a removal does: c on keys, q on entries -/
theorem J.rem (h : J d m n) (c : K2 → Bool) (q : K2 × Int → Bool) (hc : ∀ p ∈ d, c p.1 = q p) :
    wm (forL (ε := Er × Dd) (ρ := Bool × Dd) (b := Unit) (fun s11 a12 => (M.ok (a12)).bindP (fun e => (e, s11)) fun k14 => M.need ((dget s11 k14).isSome = true) (M.ok (.nx (ddel s11 k14)))) ((prs m).filter c) d) (fun o => ∃ v, o = Fl.nx v ∧ J v (m.filter fun r => !q (rp r)) n) (fun _ => False) ∧ decide ((0 : Int) < (((prs m).filter c).length : Int)) = decide (((m.filter fun r => !q (rp r)).length : Int) < (m.length : Int)) := by
  have hcm : ∀ r ∈ m, c (rk r) = q (rp r) := fun r hr => hc (rp r) ((h.eq _).mpr (List.mem_map.mpr ⟨r, hr, rfl⟩))
  constructor
  · refine wm_mono (del_wm (h.prs_nd.filter _) (fun a ha => h.prs_key.mp (List.mem_filter.mp ha).1) h.dn) (fun o ⟨v, e, h1, h2⟩ => ⟨v, e, h1, ?_, fun p => ?_, fun r hr => h.gd r (List.mem_filter.mp hr).1, ?_⟩) fun _ z => z
    · exact h.mn.sublist (List.filter_sublist.map _)
    · rw [h2]
      unfold kvs
      constructor
      · rintro ⟨x, y⟩
        obtain ⟨r, hr, rfl⟩ := List.mem_map.mp ((h.eq p).mp x)
        refine List.mem_map.mpr ⟨r, List.mem_filter.mpr ⟨hr, ?_⟩, rfl⟩
        cases hq : q (rp r) with
        | false => rfl
        | true => exact (y (List.mem_filter.mpr ⟨h.prs_key.mpr (List.mem_map.mpr ⟨_, x, rfl⟩), by rw [hcm r hr]; exact hq⟩)).elim
      · intro x
        obtain ⟨r, hr, rfl⟩ := List.mem_map.mp x
        obtain ⟨h3, h4⟩ := List.mem_filter.mp hr
        refine ⟨(h.eq _).mpr (List.mem_map.mpr ⟨r, h3, rfl⟩), fun z => ?_⟩
        have := (List.mem_filter.mp z).2
        rw [show c (rp r).1 = q (rp r) from hcm r h3] at this
        rw [this] at h4
        cases h4
    · exact Nat.le_trans (List.length_filter_le _ _) h.le
  · refine decide_eq_decide.mpr ?_
    have e1 : 0 < ((prs m).filter c).length ↔ ∃ r ∈ m, q (rp r) = true := by
      rw [List.length_pos_iff_exists_mem]
      constructor
      · rintro ⟨a, ha⟩
        obtain ⟨h1, h2⟩ := List.mem_filter.mp ha
        obtain ⟨r, hr, rfl⟩ := List.mem_map.mp (prs_mem.mp h1)
        exact ⟨r, hr, by rw [← hcm r hr]; exact h2⟩
      · rintro ⟨r, hr, h2⟩
        exact ⟨rk r, List.mem_filter.mpr ⟨prs_mem.mpr (List.mem_map.mpr ⟨r, hr, rfl⟩), by rw [hcm r hr]; exact h2⟩⟩
    have e2 : (m.filter fun r => !q (rp r)).length < m.length ↔ ∃ r ∈ m, q (rp r) = true := by
      rw [List.length_filter_lt_length_iff_exists]
      simp
    have := e1.trans e2.symm
    omega
theorem J.noted (h : J d m n) (hn : n ≤ 100) (p : List Nat) (k : Int) : ∃ v, Duties_remove_noted_m d p k = M.ok v ∧ v.1 = decide (((m.filter fun r => (!decide (r.2.1 = p)) || decide (k ≤ r.2.2)).length : Int) < (m.length : Int)) ∧ J v.2 (m.filter fun r => (!decide (r.2.1 = p)) || decide (k ≤ r.2.2)) n := by
  have hl : (prs m).length ≤ 100 := by rw [prs_len]; have := h.le; omega
  refine wm_ex ?_
  unfold Duties_remove_noted_m Duties_remove_noted_b
  refine wm_fin ?_
  let c : K2 → Bool := fun a => decide (a.2 = p) && decide ((dget d a).getD 0 < k)
  let q : K2 × Int → Bool := fun x => decide (x.1.2 = p) && decide (x.2 < k)
  have hc : ∀ x ∈ d, c x.1 = q x := fun x hx => by show (_ && decide ((dget d x.1).getD 0 < k)) = _; rw [dget_mem h.dn hx]; rfl
  have e1 : lcL (fun a1 : K2 => (M.ok (decide (a1.2 = p))).bind fun b6 => if b6 = true then ((M.ok (d)).bind fun d2 => (M.ok (a1)).bind fun k3 => oget (dget d2 k3)).bind fun x4 => (M.ok (k)).bind fun x5 => M.ok (decide (x4 < x5)) else M.ok false) (fun a1 => M.ok (a1)) (prs m) [] = M.ok ((prs m).filter c) := by
    refine lcF c (by omega) (fun a ha => ?_) (fun a => rfl)
    obtain ⟨x, hx, rfl⟩ := List.mem_map.mp (h.prs_key.mp ha)
    simp only [M.bind_ok]
    rw [dget_mem h.dn hx]
    show _ = M.ok (decide (x.1.2 = p) && decide ((dget d x.1).getD 0 < k))
    rw [dget_mem h.dn hx]
    by_cases z : x.1.2 = p
    · rw [decide_eq_true z, if_pos rfl]; rfl
    · rw [decide_eq_false z, if_neg (by decide)]; rfl
  rw [h.pairs, M.bind_ok, e1, bp_ok]
  obtain ⟨h1, h2⟩ := h.rem c q hc
  have ef : (fun r : R3 => !q (rp r)) = fun r => (!decide (r.2.1 = p)) || decide (k ≤ r.2.2) := by
    funext r
    show (!(decide (r.2.1 = p) && decide (r.2.2 < k))) = _
    rw [Bool.not_and]
    congr 1
    rw [← decide_not]
    exact decide_eq_decide.mpr (by omega)
  rw [ef] at h1 h2
  rw [h2]
  refine wm_nx (fun v => J v (m.filter fun r => (!decide (r.2.1 = p)) || decide (k ≤ r.2.2)) n) h1 fun v hv => (wm_ok _).mpr ?_
  exact ⟨rfl, hv⟩
theorem init_eq : Duties_init_m = M.ok [] := rfl
theorem law_flat_ok {l : List K2} (hl : l.length ≤ 1000) : law_flat_m l = M.ok (flat2 l) := by
  have hsz : sizeLine = 16777216 := rfl
  unfold law_flat_m law_flat_b
  refine wm_val (wm_fin ?_)
  rw [wm_bind, wm_ok]
  refine wm_nx (fun s => s = flat2 l) ?_ fun s hs => (wm_ok _).mpr hs
  refine wm_forP (fun j s => s = flat2 (l.take j)) rfl ?_ (fun y hy => ⟨y, rfl, by rw [List.take_length] at hy; exact hy⟩)
  intro j s a ha hj hs
  subst hs
  have := flat2_len (l.take j)
  have : (l.take j).length ≤ 1000 := by rw [List.length_take]; omega
  simp only [wm_bind, wm_ok, wm_need, List.length_append, List.length_cons, List.length_nil]
  exact ⟨by omega, by omega, _, rfl, by rw [take_snoc ha, flat2_snoc]⟩
theorem lower_S {a : List Nat} (h : ∀ c ∈ a, c < 128) : Txt.lower (S a) = S (a.map PyProof.Rows.lo1) := by
  rw [PyProof.Rows.lower_ascii (x := S a) (fun c hc => h c hc)]
  have e : ((S a).cps.map PyProof.Rows.lo1) = (S (a.map PyProof.Rows.lo1)).cps := by
    apply Array.toList_inj.mp
    rw [Array.toList_map]
    rfl
  rw [e]
theorem alnum_S (m : List Nat) : Txt.isalnum (S m) = (decide (m.length > 0) && m.all Unicode.isAlnum) := by
  unfold Txt.isalnum
  rw [show (S m).length = m.length from S_len m]
  congr 1
  show Array.all _ _ = _
  simp [S]
theorem alph_an : ∀ c ∈ alph, Unicode.isAlnum c = true ∧ PyProof.Rows.lo1 c = c := by decide +kernel
theorem name_nm {t : List Nat} (h : Nm t) : is_name_m t = M.ok true := by
  have h1 := h.ge
  have h4 := h.le
  have ha : ∀ c ∈ t, c < 128 := fun c hc => alph_lt c (h.al c hc)
  have hm : t.map PyProof.Rows.lo1 = t := by
    conv => rhs; rw [← List.map_id t]
    exact List.map_congr_left fun c hc => (alph_an c (h.al c hc)).2
  have hu : uS (Txt.lower (S t)) = t := by
    rw [lower_S ha, hm]
    rfl
  have hal : Txt.isalnum (S t) = true := by
    rw [alnum_S, decide_eq_true (by omega), Bool.true_and, List.all_eq_true]
    exact fun c hc => (alph_an c (h.al c hc)).1
  unfold is_name_m is_name_b
  rw [if_neg (by simp; omega), hal, hu]
  simp only [M.bind_ok, if_true]
  rw [M.need_pos ⟨by omega, asc_tok ha (by omega)⟩]
  simp only [M.bind_ok, decide_true]
  rfl
end
end Pf

namespace Pf
open PySem L2 LK NumText
theorem flat2_get : ∀ {l : List K2} {j : Nat} {a : K2}, l[j]? = some a → (flat2 l)[2 * j]? = some a.1 ∧ (flat2 l)[2 * j + 1]? = some a.2
  | [], j, a, h => by simp at h
  | b :: r, 0, a, h => by
    simp at h
    subst h
    exact ⟨rfl, rfl⟩
  | b :: r, j + 1, a, h => by
    have := flat2_get (l := r) (j := j) (a := a) (by simpa using h)
    rw [show flat2 (b :: r) = b.1 :: b.2 :: flat2 r from rfl, show 2 * (j + 1) = 2 * j + 1 + 1 from by omega, List.getElem?_cons_succ, List.getElem?_cons_succ, List.getElem?_cons_succ, List.getElem?_cons_succ]
    exact this
theorem flat2_inj : ∀ {l m : List K2}, flat2 l = flat2 m → l = m
  | [], [], _ => rfl
  | [], b :: r, h => by cases h
  | b :: r, [], h => by cases h
  | a :: l, b :: m, h => by
    rw [show flat2 (a :: l) = a.1 :: a.2 :: flat2 l from rfl, show flat2 (b :: m) = b.1 :: b.2 :: flat2 m from rfl] at h
    injection h with h1 h
    injection h with h2 h
    rw [flat2_inj h, show a = b from Prod.ext h1 h2]
theorem at_get {α : Type} {l : List α} {i : Int} {j : Nat} {a : α} (hi : i = (j : Int)) (h : l[j]? = some a) : at_ l i = M.ok a := by
  subst hi
  exact at_nat h
def rw3 (S : List K2) (num : Int) : List R3 := S.map fun a => (a.1, a.2, num)
theorem rw3_rk (S : List K2) (num : Int) : (rw3 S num).map rk = S := by
  unfold rw3
  rw [List.map_map]
  conv => rhs; rw [← List.map_id S]
  rfl
theorem J.of {d : Dd} {S : List K2} {num : Int} {n : Nat} (h1 : (d.map (·.1)).Nodup) (h2 : ∀ p, p ∈ d ↔ p.1 ∈ S ∧ p.2 = num) (hS : S.Nodup) (hg : ∀ a ∈ S, Nm a.1 ∧ Nm a.2) (hl : S.length ≤ n) : J d (rw3 S num) n := by
  refine ⟨h1, by rw [rw3_rk]; exact hS, fun p => ?_, fun r hr => ?_, by unfold rw3; rw [List.length_map]; exact hl⟩
  · rw [h2]
    unfold kvs rw3
    rw [List.map_map, List.mem_map]
    constructor
    · rintro ⟨x, y⟩
      exact ⟨p.1, x, Prod.ext rfl y.symm⟩
    · rintro ⟨a, ha, rfl⟩
      exact ⟨ha, rfl⟩
  · obtain ⟨a, ha, rfl⟩ := List.mem_map.mp hr
    exact hg a ha
theorem prs_rw3 {S : List K2} {num : Int} (h : sortE en2 S = S) : prs (rw3 S num) = S := by
  unfold prs
  rw [rw3_rk]
  exact h
/-- the state behind j notes -/
def Nt (l : List K2) (num : Int) (j : Nat) (v : Dd) : Prop := v.length ≤ j ∧ (v.map (·.1)).Nodup ∧ ∀ p, p ∈ v ↔ p.1 ∈ l.take j ∧ p.2 = num
theorem Nt.zero (l : List K2) (num : Int) : Nt l num 0 [] := ⟨Nat.le_refl _, List.nodup_nil, fun p => by simp⟩
theorem Nt.step {l : List K2} {num : Int} {j : Nat} {v : Dd} {a : K2} (h : Nt l num j v) (ha : l[j]? = some a) : Nt l num (j + 1) (dput v (a.1, a.2) num) := by
  refine ⟨?_, dput_nd h.2.1, fun p => ?_⟩
  · have := dput_le (d := v) (k := (a.1, a.2)) (a := num)
    have := h.1
    omega
  · rw [mem_dput, h.2.2, take_snoc ha, List.mem_append, List.mem_singleton]
    constructor
    · rintro (rfl | ⟨⟨y1, y2⟩, z⟩)
      · exact ⟨.inr rfl, rfl⟩
      · exact ⟨.inl y1, y2⟩
    · rintro ⟨y1, y2⟩
      by_cases e : p.1 = a
      · exact .inl (Prod.ext e y2)
      · exact .inr ⟨⟨y1.resolve_right e, y2⟩, e⟩
theorem Nt.all {l : List K2} {num : Int} {v : Dd} (h : Nt l num l.length v) : ∀ p, p ∈ v ↔ p.1 ∈ l ∧ p.2 = num := by
  have := h.2.2
  rw [List.take_length] at this
  exact this
theorem names_all {xs : List (List Nat)} (h : ∀ t ∈ xs, Nm t) : forL (ε := Er) (ρ := Dd) (b := Unit) (fun (s4 : Unit) a5 => ((is_name_m a5).bind fun b6 => M.ok (!b6)).bind fun b7 => if b7 = true then M.err Er.badForm else M.ok (.nx ())) xs () = M.ok (.nx ()) :=
  forL_all xs () fun a ha => by rw [name_nm (h a ha)]; rfl
theorem small51_ : ((List.range 51).all fun n => Builtin.Range.small 0 ((2 * n : Nat) : Int) 2) = true := by decide +kernel
theorem small51 (n : Nat) (h : n < 51) : Builtin.Range.small 0 ((2 * n : Nat) : Int) 2 = true := List.all_eq_true.mp small51_ n (List.mem_range.mpr h)
theorem load_gen {l S : List K2} {num : Int} (h0 : l ≠ []) (hg : ∀ a ∈ l, Nm a.1 ∧ Nm a.2) (hl : l.length ≤ 50) (hS : S.Nodup) (hs : sortE en2 S = S) (hm : ∀ a, a ∈ S ↔ a ∈ l) (hSl : S.length ≤ 50) :
    ∃ d, J d (rw3 S num) 50 ∧ load_duties_m (img l) num = if S = l then M.ok d else M.err .badForm := by
  have hsz : sizeLine = 16777216 := rfl
  have hgS : ∀ a ∈ S, Nm a.1 ∧ Nm a.2 := fun a ha => hg a ((hm a).mp ha)
  have hi := img_len hg
  have ha := flat_asc hg
  have hf := flat2_len l
  have hpos : 0 < l.length := List.length_pos_iff.mpr h0
  have hloop : ∃ d, forL (ε := Er) (ρ := Dd) (b := Unit) (fun s10 a11 => (((at_ (flat2 l) a11).bind fun x16 => ((at_ (flat2 l) (a11 + (1 : Int))).bind fun x14 => ((M.ok (num)).bind fun x12 => (M.ok ()).bind fun y13 => M.ok (x12, y13)).bind fun y15 => M.ok (x14, y15)).bind fun y17 => M.ok (x16, y17)).bind fun a18 => (Duties_note_m s10 a18.1 a18.2.1 a18.2.2.1).bindP (fun (e21 : Er × (List (((List Nat) × (List Nat)) × Int))) => e21.1) fun r19 => M.ok r19).bind fun z20 => M.ok (.nx z20)) (rng3L 0 (2) l.length) [] = M.ok (.nx d) ∧ Nt l num l.length d := by
    have : wm (forL (ε := Er) (ρ := Dd) (b := Unit) (fun s10 a11 => (((at_ (flat2 l) a11).bind fun x16 => ((at_ (flat2 l) (a11 + (1 : Int))).bind fun x14 => ((M.ok (num)).bind fun x12 => (M.ok ()).bind fun y13 => M.ok (x12, y13)).bind fun y15 => M.ok (x14, y15)).bind fun y17 => M.ok (x16, y17)).bind fun a18 => (Duties_note_m s10 a18.1 a18.2.1 a18.2.2.1).bindP (fun (e21 : Er × (List (((List Nat) × (List Nat)) × Int))) => e21.1) fun r19 => M.ok r19).bind fun z20 => M.ok (.nx z20)) (rng3L 0 (2) l.length) []) (fun o => ∃ d, o = Fl.nx d ∧ Nt l num l.length d) (fun _ => False) := by
      refine wm_forP (fun j v => Nt l num j v) (Nt.zero l num) ?_ (fun y hy => ⟨y, rfl, by unfold rng3L at hy; rw [List.length_map, List.length_range] at hy; exact hy⟩)
      intro j s a ha hj hs
      unfold rng3L at ha hj
      rw [List.length_map, List.length_range] at hj
      rw [List.getElem?_map, List.getElem?_range hj] at ha
      injection ha with ha
      subst ha
      obtain ⟨g1, g2⟩ := flat2_get (List.getElem?_eq_getElem hj)
      rw [at_get (i := (0 : Int) + (j : Int) * 2) (j := 2 * j) (by omega) g1, at_get (i := (0 : Int) + (j : Int) * 2 + 1) (j := 2 * j + 1) (by omega) g2]
      simp only [M.bind_ok]
      rw [note_eq (by have := hs.1; omega)]
      simp only [bp_ok, M.bind_ok]
      exact (wm_ok _).mpr ⟨_, rfl, hs.step (List.getElem?_eq_getElem hj)⟩
    obtain ⟨y, e, d, rfl, hd⟩ := wm_ex this
    exact ⟨d, e, hd⟩
  obtain ⟨d, el, hd⟩ := hloop
  have hJ : J d (rw3 S num) 50 := J.of hd.2.1 (fun p => by rw [hd.all, hm]) hS hgS hSl
  refine ⟨d, hJ, ?_⟩
  have him := hJ.image (by omega)
  rw [prs_rw3 hs] at him
  unfold load_duties_m load_duties_b
  rw [show unpack_m (img l) = M.ok (flat2 l) from unpack_pack ha (by show (img l).length ≤ _; omega), M.bind_ok, if_neg (by rw [hf]; simp; omega), init_eq, M.bind_ok, names_all (flat2_mem hg), seqF_nx]
  have hn : (Builtin.Range.rangeSize 0 ((flat2 l).length : Int) 2).toNat = l.length := by
    rw [hf]
    unfold Builtin.Range.rangeSize
    rw [if_pos (by decide)]
    split <;> omega
  have hsm : Builtin.Range.small 0 ((flat2 l).length : Int) 2 = true := by
    rw [hf]
    exact small51 l.length (by omega)
  rw [M.bind_ok, M.bind_ok, M.need_pos hsm, hn, el, seqF_nx, him, M.bind_ok, M.bind_ok, M.bind_ok]
  by_cases e : S = l
  · subst e
    rw [if_neg (by simp), if_pos rfl]
    rfl
  · have hne : img S ≠ img l := fun z => e (flat2_inj (Pk_inj (flat_asc hgS) (by have := img_len hgS; show (img S).length ≤ _; omega) z))
    rw [if_pos (by simp [hne]), if_neg e]
    rfl
theorem refused_of {t : List Nat} (h : load_duties_m t 3 = M.err .badForm) : law_refused_m t = M.ok true := by
  unfold law_refused_m law_refused_b
  rw [h]
  rfl
theorem load_two {p q : List Nat} {num : Int} {bp bq : Bool} (hp : is_name_m p = M.ok bp) (hq : is_name_m q = M.ok bq) (hb : bp = false ∨ bq = false) (ha : ASC (Pk [p, q])) (hl : (Pk [p, q]).length ≤ 100000) : load_duties_m (Pk [p, q]) num = M.err .badForm := by
  unfold load_duties_m load_duties_b
  rw [unpack_pack ha hl, M.bind_ok, if_neg (by simp), init_eq, M.bind_ok]
  by_cases z : bp = true
  · have z2 : bq = false := hb.resolve_left (by rw [z]; decide)
    rw [forL_nx (y := ()) (by rw [hp, z]; rfl), forL_er (v := .badForm) (by rw [hq, z2]; rfl)]
    rfl
  · rw [Bool.not_eq_true] at z
    rw [forL_er (v := .badForm) (by rw [hp, z]; rfl)]
    rfl
theorem load_odd {xs : List (List Nat)} {num : Int} (ho : xs.length = 0 ∨ xs.length % 2 = 1) (ha : ASC (Pk xs)) (hl : (Pk xs).length ≤ 100000) : load_duties_m (Pk xs) num = M.err .badForm := by
  unfold load_duties_m load_duties_b
  rw [unpack_pack ha hl, M.bind_ok, if_pos (by rw [Bool.or_eq_true, decide_eq_true_eq, decide_eq_true_eq]; omega)]
  rfl
theorem load_tail {xs : List (List Nat)} {num : Int} (ha : ASC (Pk xs)) (hl : (Pk xs).length ≤ 10000) : load_duties_m (Pk xs ++ [49]) num = M.err .badForm := by
  have hg := Pk_ge xs
  have e : unpack_m (Pk xs ++ [49]) = M.err .badForm := by
    rw [unpack_ok (fun c hc => (List.mem_append.mp hc).elim (ha c) fun h => by rw [List.mem_singleton.mp h]; decide) (by rw [List.length_append]; simp; omega)]
    have h1 : parse ((Pk xs ++ [49]).length + 1) (Pk xs ++ [49]) = none := by
      have h2 := parse_app xs ((Pk xs).length - xs.length + 1 + 1) [49] (fun p hp => by have := Pk_mem hp; omega)
      rw [show (Pk xs).length - xs.length + 1 + 1 + xs.length = (Pk xs ++ [49]).length + 1 by rw [List.length_append]; simp; omega, parse_no (rest := [49]) (by simp) (by decide)] at h2
      exact h2
    rw [h1]
  unfold load_duties_m load_duties_b
  rw [e]
  rfl
end Pf

namespace Pf
open PySem L2 LK NumText
abbrev PL : List (List Nat) := [([116, 49] : List Nat), ([118, 49] : List Nat), ([118, 49, 48] : List Nat)]
theorem pl_nm : ∀ t ∈ PL, Nm t := by
  intro t ht
  have : ∀ t ∈ PL, 1 ≤ t.length ∧ t.length ≤ 4 ∧ ∀ c ∈ t, c ∈ alph := by decide
  exact ⟨(this t ht).1, (this t ht).2.1, (this t ht).2.2⟩
theorem sort_sort (l : List K2) : sortE en2 (sortE en2 l) = sortE en2 l := sortE_congr en2_inj (sortE_perm l)
theorem nm_A : is_name_m [65] = M.ok false := by
  have h1 : Txt.isalnum (S [65]) = true := by decide +kernel
  have h2 : uS (Txt.lower (S [65])) = [97] := by decide +kernel
  unfold is_name_m is_name_b
  rw [if_neg (by decide), h1, h2]
  simp only [M.bind_ok, if_true]
  rw [M.need_pos (by decide)]
  rfl
theorem nm_td : is_name_m [116, 45] = M.ok false := by
  have h1 : Txt.isalnum (S [116, 45]) = false := by decide +kernel
  unfold is_name_m is_name_b
  rw [if_neg (by decide), h1]
  rfl
theorem nm_0 : is_name_m [] = M.ok false := by
  unfold is_name_m is_name_b
  rw [if_pos (by decide)]
  rfl
theorem nm_5 : is_name_m [97, 98, 99, 100, 101] = M.ok false := by
  unfold is_name_m is_name_b
  rw [if_pos (by decide)]
  rfl
theorem at_last {α : Type} {l : List α} (h : l ≠ []) : at_ l (-(1 : Int)) = M.ok (l.getLast h) := by
  have hp : 0 < l.length := List.length_pos_iff.mpr h
  unfold at_ L2.atI L2.ixN
  rw [if_neg (by omega), if_pos (by omega)]
  have e : l[(-(1 : Int) + (l.length : Int)).toNat]? = some (l.getLast h) := by
    rw [show (-(1 : Int) + (l.length : Int)).toNat = l.length - 1 by omega, ← List.getLast?_eq_getElem?, List.getLast?_eq_getLast h]
  simp only [Option.bind_some, e]
theorem cut_last {α : Type} (l : List α) (h : l ≠ []) : cut l none (some (-(1 : Int))) = l.dropLast := by
  have hp : 0 < l.length := List.length_pos_iff.mpr h
  unfold cut
  rw [HT.sIx_none, List.drop_zero]
  have e : HT.sIx l.length l.length (some (-(1 : Int))) = (-(1 : Int) + (l.length : Int)).toNat := by
    unfold HT.sIx
    exact if_pos (by decide)
  rw [e, List.dropLast_eq_take]
  congr 1
  omega
theorem refL {l : List K2} (hl : l.length ≤ 1000) (h : load_duties_m (img l) 3 = M.err .badForm) (ha : ASC (img l)) (hn : (img l).length ≤ 100000) : ((((((law_flat_m l).bind fun x126 => M.ok (x126, ())).bind fun a128 => law_pack_m a128.1).bind fun x129 => M.ok (x129, ())).bind fun a131 => law_refused_m a131.1).bind fun b132 => M.ok (!b132) : M Bool) = M.ok false := by
  rw [law_flat_ok hl]
  simp only [M.bind_ok]
  rw [law_pack_ok ha (by show (img l).length ≤ _; omega)]
  simp only [M.bind_ok]
  rw [show law_refused_m (Pk (flat2 l)) = M.ok true from refused_of h]
  rfl
theorem made_ok {l : List K2} {num : Int} (hl : l.length ≤ 50) : ∃ d, forL (ε := Er) (ρ := Bool) (b := Unit) (fun s56 (a57 : K2) => ((Duties_note_m s56 a57.1 a57.2 num).bindP (fun (e61 : Er × (List (((List Nat) × (List Nat)) × Int))) => e61.1) fun r59 => M.ok r59).bind fun z60 => M.ok (.nx z60)) l [] = M.ok (.nx d) ∧ Nt l num l.length d := by
  have : wm (forL (ε := Er) (ρ := Bool) (b := Unit) (fun s56 (a57 : K2) => ((Duties_note_m s56 a57.1 a57.2 num).bindP (fun (e61 : Er × (List (((List Nat) × (List Nat)) × Int))) => e61.1) fun r59 => M.ok r59).bind fun z60 => M.ok (.nx z60)) l []) (fun o => ∃ d, o = Fl.nx d ∧ Nt l num l.length d) (fun _ => False) := by
    refine wm_forP (fun j v => Nt l num j v) (Nt.zero l num) ?_ (fun y hy => ⟨y, rfl, hy⟩)
    intro j s a ha hj hs
    rw [note_eq (by have := hs.1; omega)]
    simp only [bp_ok, M.bind_ok]
    exact (wm_ok _).mpr ⟨_, rfl, hs.step ha⟩
  obtain ⟨y, e, d, rfl, hd⟩ := wm_ex this
  exact ⟨d, e, hd⟩
/-- what is left of the rows behind j places -/
def lft (l : List K2) (num : Int) (j : Nat) : List R3 := (rw3 l num).filter fun r => !inB r.2.1 (PL.take j)
theorem lft_num {l : List K2} {num : Int} {j : Nat} {r : R3} (h : r ∈ lft l num j) : r.2.2 = num := by
  obtain ⟨h1, _⟩ := List.mem_filter.mp h
  obtain ⟨a, _, rfl⟩ := List.mem_map.mp h1
  rfl
theorem lft_mem {l : List K2} {num : Int} {j : Nat} {p : List Nat} (hp : PL[j]? = some p) : (∃ r ∈ lft l num j, r.2.1 = p) ↔ p ∈ l.map (·.2) := by
  have hno : p ∉ PL.take j := by
    intro z
    obtain ⟨i, hi, e⟩ := List.mem_take_iff_getElem.mp z
    have h3 : i < PL.length := by omega
    have := (List.getElem?_inj h3 (by decide) (j := j)).mp (by rw [hp, List.getElem?_eq_getElem h3, e])
    omega
  constructor
  · rintro ⟨r, hr, rfl⟩
    obtain ⟨h1, _⟩ := List.mem_filter.mp hr
    obtain ⟨a, ha, rfl⟩ := List.mem_map.mp h1
    exact List.mem_map.mpr ⟨a, ha, rfl⟩
  · intro h
    obtain ⟨a, ha, rfl⟩ := List.mem_map.mp h
    exact ⟨(a.1, a.2, num), List.mem_filter.mpr ⟨List.mem_map.mpr ⟨a, ha, rfl⟩, by rw [inB_no hno]; rfl⟩, rfl⟩
theorem filter_all {α : Type} {l : List α} {p : α → Bool} (h : ∀ a ∈ l, p a = true) : l.filter p = l := List.filter_eq_self.mpr h
theorem tend_ok {l : List K2} {num : Int} {d : Dd} (hl : l.length ≤ 50) (hd : J d (rw3 l num) 50) (hs : sortE en2 l = l) (hpl : ∀ a ∈ l, a.2 ∈ PL) : wm (forL (ε := Er) (ρ := Bool) (b := Unit) (fun s74 a75 => ((Duties_remove_noted_m s74 a75 num).bindP (fun (e79 : Er × (List (((List Nat) × (List Nat)) × Int))) => e79.1) fun r77 => M.ok r77).bind fun z78 => if (z78.1) = true then M.ok (.ret false) else (((Duties_remove_noted_m z78.2 a75 (num + (1 : Int))).bindP (fun (e85 : Er × (List (((List Nat) × (List Nat)) × Int))) => e85.1) fun r83 => M.ok r83).bind fun z84 => ((lcL (fun a86 => M.ok (true)) (fun a86 => M.ok (a86.2)) l []).bind fun x89 => M.ok (inB a75 x89)).bind fun x90 => M.ok (!decide (z84.1 = x90), z84.2)).bind fun z91 => if (z91.1) = true then M.ok (.ret false) else M.ok (.nx z91.2)) PL d) (fun o => ∃ v, o = Fl.nx v ∧ J v [] 50) (fun _ => False) := by
  have hsz : sizeLine = 16777216 := rfl
  have hend : lft l num 3 = [] := by
    unfold lft
    rw [List.filter_eq_nil_iff]
    intro r hr
    obtain ⟨a, ha, rfl⟩ := List.mem_map.mp hr
    have := hpl a ha
    rw [show PL.take 3 = PL from rfl, inB_ya (show ((a.1, a.2, num) : R3).2.1 ∈ PL from this)]
    decide
  refine wm_forP (fun j v => J v (lft l num j) 50) ?_ ?_ (fun y hy => ⟨y, rfl, by rw [← hend]; exact hy⟩)
  · have : lft l num 0 = rw3 l num := filter_all fun r _ => rfl
    rw [this]
    exact hd
  intro j s p hp hj hs
  obtain ⟨v, e, h1, h2⟩ := hs.noted (by omega) p num
  have f1 : ((lft l num j).filter fun r => (!decide (r.2.1 = p)) || decide (num ≤ r.2.2)) = lft l num j := filter_all fun r hr => by rw [lft_num hr, decide_eq_true (Int.le_refl num), Bool.or_true]
  rw [f1] at h1 h2
  obtain ⟨v2, e2, h3, h4⟩ := h2.noted (by omega) p (num + 1)
  have f2 : ((lft l num j).filter fun r => (!decide (r.2.1 = p)) || decide (num + 1 ≤ r.2.2)) = lft l num (j + 1) := by
    unfold lft
    rw [List.filter_filter]
    refine List.filter_congr fun r hr => ?_
    obtain ⟨a, ha, rfl⟩ := List.mem_map.mp hr
    rw [take_snoc hp, decide_eq_false (show ¬ (num + 1 ≤ num) by omega), Bool.or_false]
    show (!decide (a.2 = p) && !inB a.2 (PL.take j)) = !inB a.2 (PL.take j ++ [p])
    rw [inB_d, inB_d, ← Bool.not_or, ← Bool.decide_or]
    congr 1
    refine decide_eq_decide.mpr ?_
    rw [List.mem_append, List.mem_singleton]
    exact or_comm
  have h3b : v2.1 = decide (p ∈ l.map (·.2)) := by
    rw [h3]
    refine decide_eq_decide.mpr ?_
    rw [← lft_mem hp (num := num), Int.ofNat_lt, List.length_filter_lt_length_iff_exists]
    constructor
    · rintro ⟨r, hr, hn⟩
      refine ⟨r, hr, ?_⟩
      rw [Bool.or_eq_true, not_or] at hn
      simpa using hn.1
    · rintro ⟨r, hr, hn⟩
      refine ⟨r, hr, ?_⟩
      rw [lft_num hr, decide_eq_true hn, decide_eq_false (show ¬ (num + 1 ≤ num) by omega)]
      decide
  rw [f2] at h4
  rw [e]
  simp only [bp_ok, M.bind_ok]
  rw [if_neg (by rw [h1]; simp), e2]
  simp only [bp_ok, M.bind_ok]
  rw [lcL_map (fun a : K2 => a.2) l [] (fun _ _ => rfl) (by rw [hsz]; simp; omega), List.nil_append]
  simp only [M.bind_ok]
  rw [if_neg (by rw [h3b, inB_d]; simp)]
  exact (wm_ok _).mpr ⟨_, rfl, h4⟩
theorem law_true (ns : List Int) (h : ns.length ≤ 63) : law_m ns = M.ok true := by
  have hsz : sizeLine = 16777216 := rfl
  obtain ⟨v1, e1, hv⟩ := row_ok ns h
  obtain ⟨x0, e0⟩ := lawat_ok v1 0
  obtain ⟨x1, ex1⟩ := lawat_ok v1 1
  obtain ⟨x2, ex2⟩ := lawat_ok v1 2
  obtain ⟨a, b, c, d, en, ha, hb, hc, hd⟩ := names_ok x0
  have hN : ∀ t ∈ [a, b, c, d], Nm t := by simp [ha, hb, hc, hd]
  have m0 := Int.emod_nonneg x2 (show (6 : Int) ≠ 0 by decide)
  have m1 := Int.emod_lt_of_pos x2 (show (0 : Int) < 6 by decide)
  unfold law_m law_b
  refine wm_true (wm_fin ?_)
  simp only [e1, e0, ex1, ex2, en, init_eq, M.bind_ok]
  generalize x1 % 1000 = num
  refine wm_nx (fun s => s.Nodup ∧ s ≠ [] ∧ s.length ≤ 6 ∧ ∀ p ∈ s, Nm p.1 ∧ p.2 ∈ PL) ?_ fun s47 hs47 => ?_
  · rw [wm_need]
    refine ⟨by omega, ?_⟩
    refine wm_forP (fun j (s : List K2) => s.Nodup ∧ (j ≠ 0 → s ≠ []) ∧ s.length ≤ j ∧ ∀ p ∈ s, Nm p.1 ∧ p.2 ∈ PL) ⟨List.nodup_nil, fun z => (z rfl).elim, Nat.le_refl _, fun p hp => nomatch hp⟩ ?_ (fun y hy => ⟨y, rfl, hy.1, hy.2.1 (by rw [rngL_len]; omega), by have := hy.2.2.1; rw [rngL_len] at this; omega, hy.2.2.2⟩)
    intro j s k hk hj ⟨h1, h2, h3, h4⟩
    obtain ⟨f, ef⟩ := lawat_ok v1 ((3 : Int) + k)
    obtain ⟨key, ek, hkey⟩ := at_mod (l := [a, b, c, d]) (n := 4) (by decide) rfl f
    obtain ⟨pl, ep, hpl⟩ := at_mod (l := PL) (n := 3) (by decide) rfl (f / 4)
    simp only [ef, ek, ep, M.bind_ok]
    by_cases hin : (key, pl) ∈ s
    · rw [inB_ya hin, if_neg (by decide)]
      exact (wm_ok _).mpr ⟨_, rfl, h1, (fun _ z => by rw [z] at hin; cases hin), by omega, h4⟩
    · rw [inB_no hin, if_pos (by decide), M.need_pos (by rw [rngL_len] at hj; omega)]
      refine (wm_ok _).mpr ⟨_, rfl, ?_, (fun _ => by simp), by rw [List.length_append]; simp; omega, fun p hp => ?_⟩
      · rw [List.nodup_append]
        refine ⟨h1, by simp, fun x hx y hy => ?_⟩
        rw [List.mem_singleton.mp hy]
        rintro rfl
        exact hin hx
      · rcases List.mem_append.mp hp with hp | hp
        · exact h4 p hp
        · rw [List.mem_singleton.mp hp]
          exact ⟨hN key hkey, hpl⟩
  obtain ⟨g1, g2, g3, g4⟩ := hs47
  have q1 : (sortE en2 s47).Nodup := ((sortE_perm _).nodup_iff).mpr g1
  have q2 : sortE en2 s47 ≠ [] := fun z => g2 (List.Perm.eq_nil (by rw [← z]; exact (sortE_perm s47).symm))
  have q3 : (sortE en2 s47).length ≤ 6 := by rw [(sortE_perm s47).length_eq]; exact g3
  have q4 : ∀ p ∈ sortE en2 s47, Nm p.1 ∧ p.2 ∈ PL := fun p hp => g4 p ((sortE_perm s47).mem_iff.mp hp)
  have q5 := sort_sort s47
  generalize hL : sortE en2 s47 = L at q1 q2 q3 q4 q5
  have hG : ∀ p ∈ L, Nm p.1 ∧ Nm p.2 := fun p hp => ⟨(q4 p hp).1, pl_nm _ (q4 p hp).2⟩
  have hi := img_len hG
  have hasc := flat_asc hG
  have hpos : 0 < L.length := List.length_pos_iff.mpr q2
  have hfl := flat2_len L
  rw [law_flat_ok (by omega)]
  simp only [M.bind_ok]
  rw [law_pack_ok hasc (by show (img L).length ≤ _; omega)]
  simp only [M.bind_ok]
  rw [show Pk (flat2 L) = img L from rfl]
  obtain ⟨d1, ed1, hd1⟩ := made_ok (l := L) (num := 1) (by omega)
  have hJ1 : J d1 (rw3 L 1) 50 := J.of hd1.2.1 hd1.all q1 hG (by omega)
  have him1 := hJ1.image (by omega)
  rw [prs_rw3 q5] at him1
  rw [ed1, seqF_nx, him1]
  simp only [M.bind_ok]
  rw [if_neg (by simp)]
  obtain ⟨d2, hJ2, el⟩ := load_gen (l := L) (S := L) (num := num) q2 hG (by omega) q1 q5 (fun _ => Iff.rfl) (by omega)
  rw [if_pos rfl] at el
  have hpr2 := hJ2.pairs
  have him2 := hJ2.image (by omega)
  rw [prs_rw3 q5] at hpr2 him2
  rw [el, M.bind_ok, hpr2, him2]
  simp only [M.bind_ok]
  rw [if_neg (by simp), M.bind_ok, if_neg (by simp)]
  refine wm_nx (fun v => J v [] 50) (tend_ok (by omega) hJ2 q5 fun a ha => (q4 a ha).2) fun s93 h93 => ?_
  rw [h93.pairs]
  simp only [M.bind_ok]
  rw [if_neg (by show ¬ (!decide (prs [] = [])) = true; rw [List.length_eq_zero_iff.mp (prs_len [])]; decide)]
  rw [show at_ [a, b, c, d] (0 : Int) = M.ok a from rfl]
  simp only [M.bind_ok]
  have a128 : ASC a := fun c hc => alph_lt c (ha.al c hc)
  have ha4 := ha.le
  have small : ∀ (p q : List Nat), p.length ≤ 9 → q.length ≤ 9 → (Pk [p, q]).length ≤ 100000 := fun p q h1 h2 => by
    have := Pk_small (xs := [p, q]) (by simp [h1, h2])
    simp only [List.length_cons, List.length_nil] at this
    omega
  have asc2 : ∀ (p q : List Nat), ASC p → ASC q → ASC (Pk [p, q]) := fun p q h1 h2 => Pk_asc (by simp [h1, h2])
  have r1 : ∀ p q, (p.length ≤ 9 ∧ ASC p) → (q.length ≤ 9 ∧ ASC q) → (∃ bp bq, is_name_m p = M.ok bp ∧ is_name_m q = M.ok bq ∧ (bp = false ∨ bq = false)) → ((((((law_flat_m [(p, q)]).bind fun x126 => M.ok (x126, ())).bind fun a128 => law_pack_m a128.1).bind fun x129 => M.ok (x129, ())).bind fun a131 => law_refused_m a131.1).bind fun b132 => M.ok (!b132) : M Bool) = M.ok false := by
    rintro p q ⟨p1, p2⟩ ⟨p3, p4⟩ ⟨bp, bq, z1, z2, z3⟩
    have z4 := load_two (num := 3) z1 z2 z3 (asc2 p q p2 p4) (small p q p1 p3)
    exact refL (l := [(p, q)]) (by simp) z4 (asc2 p q p2 p4) (small p q p1 p3)
  have nt1 : is_name_m [116, 49] = M.ok true := name_nm (pl_nm _ (by decide))
  refine wm_nx (fun _ => True) ?_ fun _ _ => ?_
  · refine wm_forP (fun _ _ => True) trivial ?_ (fun y hy => ⟨y, rfl, trivial⟩)
    intro j s x hx _ _
    have hx := List.mem_of_getElem? hx
    have e3 : ((((((law_flat_m x).bind fun x126 => M.ok (x126, ())).bind fun a128 => law_pack_m a128.1).bind fun x129 => M.ok (x129, ())).bind fun a131 => law_refused_m a131.1).bind fun b132 => M.ok (!b132) : M Bool) = M.ok false := by
      simp only [List.mem_cons, List.not_mem_nil, or_false] at hx
      rcases hx with rfl | rfl | rfl | rfl
      · exact r1 _ _ ⟨by decide, by unfold ASC; decide⟩ ⟨by decide, by unfold ASC; decide⟩ ⟨false, true, nm_A, nt1, .inl rfl⟩
      · exact r1 _ _ ⟨by omega, a128⟩ ⟨by decide, by unfold ASC; decide⟩ ⟨true, false, name_nm ha, nm_0, .inr rfl⟩
      · exact r1 _ _ ⟨by decide, by unfold ASC; decide⟩ ⟨by decide, by unfold ASC; decide⟩ ⟨false, true, nm_5, nt1, .inl rfl⟩
      · exact r1 _ _ ⟨by omega, a128⟩ ⟨by decide, by unfold ASC; decide⟩ ⟨true, false, name_nm ha, nm_td, .inr rfl⟩
    rw [e3, M.bind_ok, if_neg (by decide)]
    exact (wm_ok _).mpr ⟨_, rfl, trivial⟩
  have hfne : flat2 L ≠ [] := fun z => by rw [z] at hfl; simp at hfl; omega
  have hdl : ∀ p ∈ (flat2 L).dropLast, p.length ≤ 9 ∧ ASC p := fun p hp => by
    have := flat2_mem (P := fun t => t.length ≤ 9 ∧ ASC t) (fun a ha => ⟨⟨by have := (hG a ha).1.le; omega, fun c hc => alph_lt c ((hG a ha).1.al c hc)⟩, by have := (hG a ha).2.le; omega, fun c hc => alph_lt c ((hG a ha).2.al c hc)⟩) p ((List.dropLast_sublist _).mem hp)
    exact this
  have hd1a : ASC (Pk (flat2 L).dropLast) := Pk_asc fun p hp => (hdl p hp).2
  have hd1l : (Pk (flat2 L).dropLast).length ≤ 100000 := by
    have := Pk_small (xs := (flat2 L).dropLast) fun p hp => (hdl p hp).1
    rw [List.length_dropLast] at this
    omega
  have hGx : ∀ p ∈ L ++ [L.getLast q2], Nm p.1 ∧ Nm p.2 := fun p hp => (List.mem_append.mp hp).elim (hG p) fun hp => by rw [List.mem_singleton.mp hp]; exact hG _ (List.getLast_mem q2)
  have hxl := img_len hGx
  rw [List.length_append] at hxl
  simp only [List.length_cons, List.length_nil] at hxl
  have hxa := flat_asc hGx
  rw [M.need_pos (by rw [hsz]; simp; omega), cut_last _ hfne, law_pack_ok hd1a (by omega), at_last q2]
  simp only [M.bind_ok]
  rw [M.need_pos (by rw [hsz]; simp; omega)]
  simp only [M.bind_ok]
  rw [law_flat_ok (by rw [List.length_append]; simp; omega)]
  simp only [M.bind_ok]
  rw [law_pack_ok hxa (by show (img _).length ≤ _; omega)]
  simp only [M.bind_ok]
  have base : ∀ t ∈ ([[], img L ++ [49], Pk (flat2 L).dropLast, Pk (flat2 (L ++ [L.getLast q2]))] : List (List Nat)), law_refused_m t = M.ok true := by
    intro t ht
    simp only [List.mem_cons, List.not_mem_nil, or_false] at ht
    rcases ht with rfl | rfl | rfl | rfl
    · exact refused_of (load_odd (xs := []) (.inl rfl) (fun c hc => nomatch hc) (Nat.zero_le _))
    · exact refused_of (load_tail hasc (by show (img L).length ≤ _; omega))
    · exact refused_of (load_odd (.inr (by rw [List.length_dropLast, hfl]; omega)) hd1a hd1l)
    · obtain ⟨d3, _, e3⟩ := load_gen (l := L ++ [L.getLast q2]) (S := L) (num := 3) (by simp) hGx (by rw [List.length_append]; simp; omega) q1 q5 (fun p => by
        rw [List.mem_append, List.mem_singleton]
        exact ⟨.inl, fun z => z.elim id fun z => by rw [z]; exact List.getLast_mem q2⟩) (by omega)
      rw [if_neg (fun z => by have := congrArg List.length z; rw [List.length_append] at this; simp at this)] at e3
      exact refused_of e3
  refine wm_nx (fun s => ∀ t ∈ s, law_refused_m t = M.ok true) ?_ fun s hs => ?_
  · by_cases h1 : 1 < L.length
    · rw [if_pos (decide_eq_true (by omega))]
      obtain ⟨p, q, r, rfl⟩ : ∃ p q r, L = p :: q :: r := by
        rcases L with _ | ⟨p, _ | ⟨q, r⟩⟩
        · simp at h1
        · simp at h1
        · exact ⟨p, q, r, rfl⟩
      have ec : cut (p :: q :: r) (some (2 : Int)) none = r := cut_nat' (p :: q :: r) 2
      rw [at_get (l := p :: q :: r) (i := (1 : Int)) (j := 1) rfl rfl, at_get (l := p :: q :: r) (i := (0 : Int)) (j := 0) rfl rfl, ec]
      simp only [M.bind_ok]
      have hl2 : (p :: q :: r).length = r.length + 2 := rfl
      rw [M.need_pos (by rw [hsz]; simp; omega)]
      simp only [M.bind_ok]
      have hGs : ∀ x ∈ [q, p] ++ r, Nm x.1 ∧ Nm x.2 := fun x hx => hG x (by simp at hx ⊢; rcases hx with h | h | h <;> simp [h])
      have hsl := img_len hGs
      rw [List.length_append] at hsl
      simp only [List.length_cons, List.length_nil] at hsl
      rw [law_flat_ok (by rw [List.length_append]; simp; omega)]
      simp only [M.bind_ok]
      rw [law_pack_ok (flat_asc hGs) (by show (img _).length ≤ _; omega)]
      simp only [M.bind_ok]
      rw [M.need_pos (by rw [hsz]; simp)]
      refine (wm_ok _).mpr ⟨_, rfl, fun t ht => ?_⟩
      rcases List.mem_append.mp ht with ht | ht
      · exact base t ht
      · rw [List.mem_singleton.mp ht]
        obtain ⟨d3, _, e3⟩ := load_gen (l := [q, p] ++ r) (S := p :: q :: r) (num := 3) (by simp) hGs (by rw [List.length_append]; simp; omega) q1 q5 (fun x => by
          simp
          constructor
          · rintro (h | h | h) <;> simp [h]
          · rintro (h | h | h) <;> simp [h]) (by omega)
        rw [if_neg (fun z => by
          injection z with z _
          rw [List.nodup_cons] at q1
          exact q1.1 (by rw [z]; exact List.mem_cons_self))] at e3
        exact refused_of e3
    · rw [if_neg (by simp; omega)]
      exact (wm_ok _).mpr ⟨_, rfl, base⟩
  · rw [forL_all s () (fun t ht => by rw [hs t ht]; rfl), seqF_nx]
    exact (wm_ok _).mpr rfl
end Pf
namespace Pf
open PySem PySem.Spec PyProof.Rows L2 LK
def top (i : Nat) : Stmt := PySem.Challenge.pw_lethe_k46_duties_read_back.main.body.getD i (.Pass ⟨0, 0, 0, 0⟩)
def mkD (x : Str) (i : Nat) : He.DefD := ⟨(x, none), x, x, defArgs (top i), defBody (top i), defScope (top i), [], []⟩
def meth (i k : Nat) : Stmt := match top i with
  | .ClassDef _ _ _ b _ _ _ _ _ _ _ => b.getD k (.Pass ⟨0, 0, 0, 0⟩)
  | _ => .Pass ⟨0, 0, 0, 0⟩
def mkM (c m q : Str) (i k : Nat) : He.DefD := ⟨(c, some m), m, q, defArgs (meth i k), defBody (meth i k), defScope (meth i k), [], []⟩
def fn : List He.DefD := [mkD "_law_row" 17, mkD "_law_names" 19, mkD "_law_pack" 20, mkM "Duties" "__init__" "Duties.__init__" 14 0, mkD "number_of" 7, mkD "part_at" 8, mkD "unpack" 9, mkM "Duties" "note" "Duties.note" 14 1, mkM "Duties" "pairs" "Duties.pairs" 14 7, mkD "pack" 6, mkM "Duties" "image" "Duties.image" 14 8, mkD "is_name" 12, mkD "load_duties" 15, mkD "_law_at" 18, mkD "_law_flat" 21, mkM "Duties" "remove_noted" "Duties.remove_noted" 14 2, mkD "_law_refused" 22, mkD "law" 23]
abbrev nm_Duties : List Str := ["_numbers"]
theorem nd_Duties : nm_Duties.Nodup := by decide +kernel
abbrev U_Duties (K : PySem.W.Frag) (r : List (((List Nat) × (List Nat)) × Int)) : Fs := [("_numbers", ce (tDT kTT fInt) r)]
def fa : List He.Fa := ([.free "len", .free "int", .free "abs", .free "range", .glo "_law_row", .glo "_law_names", .glo "_law_pack", .cls "Duties", .noat "Duties" "_numbers", .mkr "Duties", .glo "Duties", .int "MOST_DIGITS" 9, .exc "BadForm", .glo "BadForm", .glo "number_of", .glo "part_at", .glo "unpack", .meth "Duties" "note", .free "list", .free "sorted", .meth "Duties" "pairs", .glo "pack", .meth "Duties" "image", .int "MAX_NAME" 4, .glo "is_name", .glo "load_duties", .glo "_law_at", .glo "_law_flat", .meth "Duties" "remove_noted", .glo "LetheError"] : List He.Fa) ++ ([.free "isinstance", .exm "BadForm" "BadForm" true, .glo "_law_refused", .glo "law"] : List He.Fa)
def fx : List Lk1 := ([xExc "BadForm", xKit "BadForm" "LetheError" true] : List Lk1)
def loose : List Str := (["_wall", "__name__", "LetheError", "BadForm", "MOST_DIGITS", "pack", "number_of", "part_at", "unpack", "MAX_NAME", "is_name", "Duties", "load_duties", "_law_row", "_law_at", "_law_names", "_law_pack", "_law_flat", "_law_refused"] : List Str)
section
variable {P : Program} {w : World} {K : PySem.W.Frag} {mg : Str → Option Value} {base : Heap} {h : Heap}
abbrev st_law_row : Stmt := top 17
theorem sc_law_row : FnScope ["_law_script", "_law_row_here", "_law_k", "_law_cell", "_law_turn", "_law_mixed"] ["_law_script"] (defScope st_law_row) := ⟨rfl, rfl, rfl, by decide +kernel, rfl, by decide +kernel, by decide +kernel⟩
theorem ok_law_row (KX : K.In h) (GN : h.Ns mainGlobals mg) (c : Sy fa fn fx K) : Cal P w K mg base "_law_row" ["_law_script"] 1 (spP K (fun (a : (List (Int)) × Unit) => [(bw (tL K fInt) a.1)]) (fun a => law_row_m a.1) (ob (tL K fInt))) := by
  obtain ⟨fd, F⟩ := c.def_ 0 (d := mkD "_law_row" 17) rfl
  refine ⟨_, fd, (He.glo_ok KX GN (c.fact 4 (f := .glo "_law_row") rfl)), F.kp, F.bindsN (fun _ _ _ _ _ _ us hl => match us, hl with | [_], _ => rfl), ?_⟩
  refine fn_def (bm := fun (a : (List (Int)) × Unit) => law_row_b a.1) (par := (fun (a : (List (Int)) × Unit) (_ : Nat → V) => [(bw (tL K fInt) a.1)])) (res := (ob (tL K fInt))) (outs := (fun _ _ => [])) (Eh := (fun _ => eh0 7)) (cls := (fun e => e)) (outsE := (fun _ _ => [])) (R := (fun u r v => [none, none, none, none, none, none, some (pn v (ob (tL K fInt) r))])) (Nx := (fun u (s : Unit) => [none, none, none, none, none, none, none])) F sc_law_row  6 none [6] [] [] (fun _ h => nomatch h) (fun _ _ => rfl) (by decide) (by decide) (fun _ _ => rfl) (fun _ _ _ => (.cons rfl .nil)) (fun _ h => nomatch h) (fun _ _ => .nil) (by decide) (fun cdv A outer s H E C a u => ?_)
  obtain ⟨p0, _⟩ := a
  show FS _ _ _ _ [some (bw (tL K fInt) p0), none, none, none, none, none, none] _ (law_row_b p0) _ _ _
  unfold law_row_b
  exact (fs_set 1 (T := ob (tL K fInt)) C.nd fe_nil tk_o fun v1 => (fs_pin 1 rfl fun V2 => (fs_seq (N1 := (fun (s23 : (List (Int))) => [some (bw (tL K fInt) p0), some (pn V2 (ob (tL K fInt) s23)), none, none, none, none, none])) (pv_forR (Gs := (fun (s3 : (List (Int))) => [some (bw (tL K fInt) p0), some (pn V2 (ob (tL K fInt) s3)), none, none, none, none, none])) (tl' := [2, 3, 4, 5, 1]) (x0 := v1) C (He.free_ok KX GN (c.fact 3 (f := .free "range") rfl)) (fv_callB call_len cl_lenL (He.free_ok KX GN (c.fact 0 (f := .free "len") rfl)) (va_cons (fe_var 0 (hs := gives_b)) fa_nil)) (.of rfl (Le.imp (.keep (.keep (.keep (.keep (.keep (.keep (.keep .nil))))))))) (fg_name 2 C.nd) (fun s3 a4 => (fs_set 3 (T := sv fInt) C.nd (fe_callB call_abs (fun _ => cl_abs) (He.free_ok KX GN (c.fact 2 (f := .free "abs") rfl)) (fa_cons (fe_callTy call_int1 (fun _ => cl_int) (He.free_ok KX GN (c.fact 1 (f := .free "int") rfl)) (fa_cons (fv_ix ix_list ol_ixL (fe_var 0 (hs := gives_b)) (fe_var 2 (hs := gives_v))) fa_nil)) fa_nil)) tk_v fun v11 => (fv_ifend (tv_cmp op_ge ol_B0 (fe_var 3 (hs := gives_v)) (fv_bin op_pow (ol_Ic ⟨by decide, by decide, by decide⟩) fe_int fe_int)) (fs_seq (N1 := (fun (s16 : Int × (List (Int))) => [some (bw (tL K fInt) p0), some (pn V2 (ob (tL K fInt) s16.2)), some (sv fInt a4), some (sv fInt s16.1), none, none, none])) (pl_forR (Gs := (fun (s12 : Int × (List (Int))) => [some (bw (tL K fInt) p0), some (pn V2 (ob (tL K fInt) s12.2)), some (sv fInt a4), some (sv fInt s12.1), none, none, none])) (tl' := [4, 3, 1]) (x0 := (v11, s3)) C (He.free_ok KX GN (c.fact 3 (f := .free "range") rfl)) fe_int (by decide) (.of rfl (Le.imp (.keep (.keep (.keep (.keep (.keep (.keep (.keep .nil))))))))) (fg_name 4 C.nd) (fun s12 a13 => (fv_ifend (tv_cmp op_gt ol_B0 (fe_var 3 (hs := gives_v)) fe_int) (fs_app 1 (A := fInt) (as := s12.2) rfl (fe_var 1 (hs := gives_V)) (fv_bin op_mod (ol_Ic (by decide)) (fv_callTy call_int1 cl_int (He.free_ok KX GN (c.fact 1 (f := .free "int") rfl)) (va_cons (fe_var 3 (hs := gives_v)) fa_nil)) fe_int) fun v14 => (fs_set 3 (T := sv fInt) C.nd (fv_bin op_fdiv (ol_Ic ⟨by decide, by decide⟩) (fe_var 3 (hs := gives_v)) fe_int) tk_v fun v15 => (fs_nil (.of rfl (Le.imp (.keep (.keep (.keep (.keep (.drop (.keep (.keep .nil)))))))))))) (fs_nil (.of rfl (Le.imp (.keep (.keep (.keep (.keep (.drop (.keep (.keep .nil))))))))))))) fun s16 => (fs_nil (.of rfl (Le.imp (.keep (.keep (.drop (.drop (.keep (.keep (.keep .nil))))))))))) (fs_set 5 (T := sv fInt) C.nd (fv_bin op_mod (ol_Ic (by decide)) (fv_callTy call_int1 cl_int (He.free_ok KX GN (c.fact 1 (f := .free "int") rfl)) (va_cons (fv_bin op_add ol_I0 (fv_bin op_add ol_I0 (fv_bin op_mul (ol_Ic (cmul_r (by decide))) (fe_var 3 (hs := gives_v)) fe_int) (fv_bin op_mul (ol_Ic (cmul_r (by decide))) (fe_var 2 (hs := gives_v)) fe_int)) fe_int) fa_nil)) fe_int) tk_v fun v17 => (fs_seq (N1 := (fun (s22 : Int × (List (Int))) => [some (bw (tL K fInt) p0), some (pn V2 (ob (tL K fInt) s22.2)), some (sv fInt a4), some (sv fInt v11), none, some (sv fInt s22.1), none])) (pl_forR (Gs := (fun (s18 : Int × (List (Int))) => [some (bw (tL K fInt) p0), some (pn V2 (ob (tL K fInt) s18.2)), some (sv fInt a4), some (sv fInt v11), none, some (sv fInt s18.1), none])) (tl' := [4, 5, 1]) (x0 := (v17, s3)) C (He.free_ok KX GN (c.fact 3 (f := .free "range") rfl)) fe_int (by decide) (.of rfl (Le.imp (.keep (.keep (.keep (.keep (.keep (.keep (.keep .nil))))))))) (fg_name 4 C.nd) (fun s18 a19 => (fs_set 5 (T := sv fInt) C.nd (fv_bin op_mod (ol_Ic (by decide)) (fv_callTy call_int1 cl_int (He.free_ok KX GN (c.fact 1 (f := .free "int") rfl)) (va_cons (fv_bin op_add ol_I0 (fv_bin op_add ol_I0 (fv_bin op_mul (ol_Ic (cmul_r (by decide))) (fe_var 5 (hs := gives_v)) fe_int) (fv_bin op_mul (ol_Ic (cmul_l (by decide))) fe_int (fe_var 4 (hs := gives_v)))) fe_int) fa_nil)) fe_int) tk_v fun v20 => (fs_app 1 (A := fInt) (as := s18.2) rfl (fe_var 1 (hs := gives_V)) (fv_bin op_mod (ol_Ic (by decide)) (fv_callTy call_int1 cl_int (He.free_ok KX GN (c.fact 1 (f := .free "int") rfl)) (va_cons (fv_bin op_fdiv (ol_Ic ⟨by decide, by decide⟩) (fe_var 5 (hs := gives_v)) fe_int) fa_nil)) fe_int) fun v21 => (fs_nil (.of rfl (Le.imp (.keep (.keep (.keep (.keep (.drop (.keep (.keep .nil)))))))))))))) fun s22 => (fs_nil (.of rfl (Le.imp (.keep (.keep (.drop (.drop (.keep (.drop (.keep .nil)))))))))))))))) fun s23 => (fs_retM 1 6 (fe_var 1 (hs := gives_V)) rfl (.of rfl (Le.imp (.drop (.keep (.keep (.keep (.keep (.keep (.keep .nil)))))))))))))
abbrev st_law_names : Stmt := top 19
theorem sc_law_names : FnScope ["_law_first", "_law_signs", "_law_one", "_law_two", "_law_three", "_law_four"] ["_law_first"] (defScope st_law_names) := ⟨rfl, rfl, rfl, by decide +kernel, rfl, by decide +kernel, by decide +kernel⟩
theorem ok_law_names (KX : K.In h) (GN : h.Ns mainGlobals mg) (c : Sy fa fn fx K) : Cal P w K mg base "_law_names" ["_law_first"] 1 (spP K (fun (a : Int × Unit) => [(sv fInt a.1)]) (fun a => law_names_m a.1) (ob (tL K fTxt))) := by
  obtain ⟨fd, F⟩ := c.def_ 1 (d := mkD "_law_names" 19) rfl
  refine ⟨_, fd, (He.glo_ok KX GN (c.fact 5 (f := .glo "_law_names") rfl)), F.kp, F.bindsN (fun _ _ _ _ _ _ us hl => match us, hl with | [_], _ => rfl), ?_⟩
  refine fn_def (bm := fun (a : Int × Unit) => law_names_b a.1) (par := (fun (a : Int × Unit) (_ : Nat → V) => [(sv fInt a.1)])) (res := (ob (tL K fTxt))) (outs := (fun _ _ => [])) (Eh := (fun _ => eh0 7)) (cls := (fun e => e)) (outsE := (fun _ _ => [])) (R := (fun u r v => [none, none, none, none, none, none, some (pn v (ob (tL K fTxt) r))])) (Nx := (fun u (s : Unit) => [none, none, none, none, none, none, none])) F sc_law_names  6 none [6] [] [] (fun _ h => nomatch h) (fun _ _ => rfl) (by decide) (by decide) (fun _ _ => rfl) (fun _ _ _ => (.cons rfl .nil)) (fun _ h => nomatch h) (fun _ _ => .nil) (by decide) (fun cdv A outer s H E C a u => ?_)
  obtain ⟨p0, _⟩ := a
  show FS _ _ _ _ [some (sv fInt p0), none, none, none, none, none, none] _ (law_names_b p0) _ _ _
  unfold law_names_b
  exact (fs_set 1 (T := sv fTxt) C.nd fe_str tk_v fun v1 => (fs_set 2 (T := sv fTxt) C.nd (fv_ix ix_str ol_ixS (fe_var 1 (hs := gives_v)) (fv_bin op_mod (ol_Ic (by decide)) (fv_callTy call_int1 cl_int (He.free_ok KX GN (c.fact 1 (f := .free "int") rfl)) (va_cons (fe_var 0 (hs := gives_v)) fa_nil)) fe_int)) tk_v fun v2 => (fs_set 3 (T := sv fTxt) C.nd (fe_bin op_add_str (fun _ _ => ol_cat) (fe_var 2 (hs := gives_v)) (fv_ix ix_str ol_ixS (fe_var 1 (hs := gives_v)) (fv_bin op_mod (ol_Ic (by decide)) (fv_callTy call_int1 cl_int (He.free_ok KX GN (c.fact 1 (f := .free "int") rfl)) (va_cons (fv_bin op_add ol_I0 (fv_bin op_mul (ol_Ic (cmul_r (by decide))) (fe_var 0 (hs := gives_v)) fe_int) fe_int) fa_nil)) fe_int))) tk_v fun v5 => (fs_set 4 (T := sv fTxt) C.nd (fv_ix ix_str ol_ixS (fe_var 1 (hs := gives_v)) (fv_bin op_mod (ol_Ic (by decide)) (fv_callTy call_int1 cl_int (He.free_ok KX GN (c.fact 1 (f := .free "int") rfl)) (va_cons (fv_bin op_add ol_I0 (fe_var 0 (hs := gives_v)) fe_int) fa_nil)) fe_int)) tk_v fun v6 => (fs_set 5 (T := sv fTxt) C.nd (fe_bin op_add_str (fun _ _ => ol_cat) (fe_bin op_add_str (fun _ _ => ol_cat) (fe_bin op_add_str (fun _ _ => ol_cat) (fv_ix ix_str ol_ixS (fe_var 1 (hs := gives_v)) (fv_bin op_mod (ol_Ic (by decide)) (fv_callTy call_int1 cl_int (He.free_ok KX GN (c.fact 1 (f := .free "int") rfl)) (va_cons (fv_bin op_add ol_I0 (fe_var 0 (hs := gives_v)) fe_int) fa_nil)) fe_int)) (fv_ix ix_str ol_ixS (fe_var 1 (hs := gives_v)) (fv_bin op_mod (ol_Ic (by decide)) (fv_callTy call_int1 cl_int (He.free_ok KX GN (c.fact 1 (f := .free "int") rfl)) (va_cons (fv_bin op_fdiv (ol_Ic ⟨by decide, by decide⟩) (fe_var 0 (hs := gives_v)) fe_int) fa_nil)) fe_int))) (fe_var 2 (hs := gives_v))) (fe_var 4 (hs := gives_v))) tk_v fun v13 => (fv_ret 6 (T := (ob (tL K fTxt))) (mk := fun r14 => r14) (fv_list (va_cons (fe_var 2 (hs := gives_v)) (va_cons (fe_var 3 (hs := gives_v)) (va_cons (fe_var 4 (hs := gives_v)) (va_cons (fe_var 5 (hs := gives_v)) fa_nil)))) (lo_cons (lo_cons (lo_cons (lo_cons lo_nil))))) tk_o (fun _ _ => (.of rfl (Le.imp (.drop (.drop (.drop (.drop (.drop (.drop (.keep .nil))))))))))))))))
abbrev st_law_pack : Stmt := top 20
theorem sc_law_pack : FnScope ["_law_parts", "_law_part"] ["_law_parts"] (defScope st_law_pack) := ⟨rfl, rfl, rfl, by decide +kernel, rfl, by decide +kernel, by decide +kernel⟩
theorem ok_law_pack (KX : K.In h) (GN : h.Ns mainGlobals mg) (c : Sy fa fn fx K) : Cal P w K mg base "_law_pack" ["_law_parts"] 1 (spP K (fun (a : (List (List Nat)) × Unit) => [(bw (tL K fTxt) a.1)]) (fun a => law_pack_m a.1) (sv fTxt)) := by
  obtain ⟨fd, F⟩ := c.def_ 2 (d := mkD "_law_pack" 20) rfl
  refine ⟨_, fd, (He.glo_ok KX GN (c.fact 6 (f := .glo "_law_pack") rfl)), F.kp, F.bindsN (fun _ _ _ _ _ _ us hl => match us, hl with | [_], _ => rfl), ?_⟩
  refine fn_def (bm := fun (a : (List (List Nat)) × Unit) => law_pack_b a.1) (par := (fun (a : (List (List Nat)) × Unit) (_ : Nat → V) => [(bw (tL K fTxt) a.1)])) (res := (sv fTxt)) (outs := (fun _ _ => [])) (Eh := (fun _ => eh0 3)) (cls := (fun e => e)) (outsE := (fun _ _ => [])) (R := (fun u r v => [none, none, some (pn v (sv fTxt r))])) (Nx := (fun u (s : Unit) => [none, none, none])) F sc_law_pack  2 none [2] [] [] (fun _ h => nomatch h) (fun _ _ => rfl) (by decide) (by decide) (fun _ _ => rfl) (fun _ _ _ => (.cons rfl .nil)) (fun _ h => nomatch h) (fun _ _ => .nil) (by decide) (fun cdv A outer s H E C a u => ?_)
  obtain ⟨p0, _⟩ := a
  show FS _ _ _ _ [some (bw (tL K fTxt) p0), none, none] _ (law_pack_b p0) _ _ _
  unfold law_pack_b
  exact (fs_ret 2 (T := (sv fTxt)) (mk := fun r9 => r9) (fe_bm PySem.F.plainAttrs_str PySem.F.slot_str_join PySem.F.type_str_join mt_join ty_str (fun _ _ => ml_join) fe_str (fa_cons (fe_borrow (fv_lcL (A := fTxt) (own := [("_law_part", 1)]) (Gw := [some (bw (tL K fTxt) p0), none, none]) (c := fun (a1 : List Nat) => M.ok (true)) (f := fun (a1 : List Nat) => (joinM [M.need ((a1.length : Int).natAbs.log2 < 1920 ∧ tOk (strI (a1.length : Int))) (M.ok (strI (a1.length : Int))), M.ok (([58] : List Nat))] []).bind fun x2 => (M.ok (a1)).bind fun x3 => M.need (x2.length + x3.length ≤ sizeLine) (M.ok (x2 ++ x3))) C (fe_var 0 (hs := gives_b)) (.of rfl (Le.imp (.keep (.keep (.keep .nil))))) (hw_of rfl) (blkOk_by (N := ["_law_parts", "_law_part"]) (sc := defScope st_law_pack) (by decide +kernel)) (fun sq4 Hq4 Cq4 lq4 fq4 => (fg_name 1 (C.blk _ sq4 Hq4 Cq4 lq4 fq4).nd)) (fun a1 sq4 Hq4 Cq4 lq4 fq4 => fts_nil) (fun a1 sq4 Hq4 Cq4 lq4 fq4 => (fe_bin op_add_str (fun _ _ => ol_cat) (fe_joined (.cons (fmt_iv (fv_callB call_len cl_lenS (He.free_ok KX GN (c.fact 0 (f := .free "len") rfl)) (va_cons (fe_var 1 (hs := gives_v)) fa_nil))) (.cons fe_str .nil))) (fe_var 1 (hs := gives_v)))))) fa_nil)) tk_v (fun _ _ => (.of rfl (Le.imp (.drop (.keep (.keep .nil)))))))
abbrev st_Duties_init : Stmt := meth 14 0
theorem sc_Duties_init : FnScope ["self"] ["self"] (defScope st_Duties_init) := ⟨rfl, rfl, rfl, by decide +kernel, rfl, by decide +kernel, by decide +kernel⟩
theorem ok_Duties_init (KX : K.In h) (GN : h.Ns mainGlobals mg) (c : Sy fa fn fx K) : CalI P w K mg base (He.ga K "Duties") "Duties" ["self"] 1 (spI K (He.ga K "Duties") (U_Duties K) (fun (a : Unit) => []) (fun a => Duties_init_m )) := by
  obtain ⟨fd, F⟩ := c.def_ 3 (d := mkM "Duties" "__init__" "Duties.__init__" 14 0) rfl
  refine ⟨_, fd, He.mkr_ok (c.fact 9 (f := .mkr "Duties") rfl), (He.glo_ok KX GN (c.fact 10 (f := .glo "Duties") rfl)), F.bindsN (fun _ _ _ _ _ _ us hl => match us, hl with | [_], _ => rfl), ?_⟩
  refine fn_def (bm := fun (a : Unit) => Duties_init_b ) (par := (fun (a : Unit) (u : Nat → V) => ((pn (u 0) (ob (tB (He.ga K "Duties")) [])) :: []))) (res := (fun (_ : List (((List Nat) × (List Nat)) × Int)) => sv fUnit ())) (outs := (fun (r : List (((List Nat) × (List Nat)) × Int)) (u : Nat → V) => [((u 0), ob (tBx (He.ga K "Duties") (U_Duties K)) r)])) (Eh := (fun _ => eh0 5)) (cls := (fun e => e)) (outsE := (fun _ _ => [])) (R := (fun u r v => [some (pn (u 0) (bx (He.ga K "Duties") [("_numbers", ce (tDT kTT fInt) r)])), some (pn v (sv fUnit ())), none, none, none])) (Nx := (fun u (s : (List (((List Nat) × (List Nat)) × Int))) => [some (pn (u 0) (bx (He.ga K "Duties") [("_numbers", ce (tDT kTT fInt) s)])), none, none, none, none])) F sc_Duties_init  4 (some fun (s : (List (((List Nat) × (List Nat)) × Int))) => s) [1, 0] [0] [] (fun _ h _ _ _ _ => by cases h; exact ⟨rfl, rfl⟩) (fun _ _ => rfl) (by decide) (by decide) (fun _ _ => rfl) (fun _ _ _ => (.cons rfl (.cons rfl .nil))) (fun _ h _ _ => by cases h; exact (.cons rfl .nil)) (fun _ _ => .nil) (by decide) (fun cdv A outer s H E C a u => ?_)
  show FS _ _ _ _ [some (pn (u 0) (bx (He.ga K "Duties") [])), none, none, none, none] _ (Duties_init_b ) _ _ _
  unfold Duties_init_b
  exact (fs_fldI (q := (u 0)) (C := (He.ga K "Duties")) (l := []) (c := (ce (tDT kTT fInt))) (names := []) 0 (fe_var 0 (hs := gives_V)) fe_dnewT tc_o (by decide +kernel) (He.cls_ok (c.fact 7 (f := .cls "Duties") rfl)) (He.noat_ok (c.fact 8 (f := .noat "Duties" "_numbers") rfl)) fun v1 => (fs_re (G1 := [some (pn (u 0) (bx (He.ga K "Duties") [("_numbers", ce (tDT kTT fInt) v1)])), none, none, none, none]) (fs_nil (.of rfl (Le.imp (.keep (.keep (.keep (.keep (.keep .nil))))))))))
abbrev st_number_of : Stmt := top 7
theorem sc_number_of : FnScope ["text"] ["text"] (defScope st_number_of) := ⟨rfl, rfl, rfl, by decide +kernel, rfl, by decide +kernel, by decide +kernel⟩
theorem ok_number_of (KX : K.In h) (GN : h.Ns mainGlobals mg) (c : Sy fa fn fx K) : Cal P w K mg base "number_of" ["text"] 1 (spP K (fun (a : (List Nat) × Unit) => [(sv fTxt a.1)]) (fun a => number_of_m a.1) (sv fInt)) := by
  obtain ⟨fd, F⟩ := c.def_ 4 (d := mkD "number_of" 7) rfl
  refine ⟨_, fd, (He.glo_ok KX GN (c.fact 14 (f := .glo "number_of") rfl)), F.kp, F.bindsN (fun _ _ _ _ _ _ us hl => match us, hl with | [_], _ => rfl), ?_⟩
  refine fn_def (bm := fun (a : (List Nat) × Unit) => number_of_b a.1) (par := (fun (a : (List Nat) × Unit) (_ : Nat → V) => [(sv fTxt a.1)])) (res := (sv fInt)) (outs := (fun _ _ => [])) (Eh := (fun _ => eh0 2)) (cls := (fun e => e)) (outsE := (fun _ _ => [])) (R := (fun u r v => [none, some (pn v (sv fInt r))])) (Nx := (fun u (s : Unit) => [none, none])) F sc_number_of  1 none [1] [] [] (fun _ h => nomatch h) (fun _ _ => rfl) (by decide) (by decide) (fun _ _ => rfl) (fun _ _ _ => (.cons rfl .nil)) (fun _ h => nomatch h) (fun _ _ => .nil) (by decide) (fun cdv A outer s H E C a u => ?_)
  obtain ⟨p0, _⟩ := a
  show FS _ _ _ _ [some (sv fTxt p0), none] _ (number_of_b p0) _ _ _
  unfold number_of_b
  exact (fv_if1 (fw_t (vw_or (tv_not (ft_val (fv_bm0 PySem.F.plainAttrs_str PySem.F.slot_str_isdigit PySem.F.type_str_isdigit mt_isdigit ty_str ml_test (fe_var 0 (hs := gives_v))))) (fw_or1 (tv_cmp op_gt ol_B0 (fv_callB call_len cl_lenS (He.free_ok KX GN (c.fact 0 (f := .free "len") rfl)) (va_cons (fe_var 0 (hs := gives_v)) fa_nil)) (fe_globI (by rfl) (He.int_ok KX GN (c.fact 11 (f := .int "MOST_DIGITS" 9) rfl))))))) (fun _ => (fs_raise C (er := .badForm) (pe := Er.badForm) rfl (He.exc_ok (c.fact 12 (f := .exc "BadForm") rfl)) (He.glo_ok KX GN (c.fact 13 (f := .glo "BadForm") rfl)) rfl (Le.imp (Le.none rfl)))) (fs_if1 (fw_t (fw_and (ft_cmp op_eq (fun _ _ => ol_eqS) (fv_ix ix_str ol_ixS (fe_var 0 (hs := gives_v)) fe_int) fe_str) (fw_and1 (tv_cmp op_gt ol_B0 (fv_callB call_len cl_lenS (He.free_ok KX GN (c.fact 0 (f := .free "len") rfl)) (va_cons (fe_var 0 (hs := gives_v)) fa_nil)) fe_int)))) (fun _ => (fs_raise C (er := .badForm) (pe := Er.badForm) rfl (He.exc_ok (c.fact 12 (f := .exc "BadForm") rfl)) (He.glo_ok KX GN (c.fact 13 (f := .glo "BadForm") rfl)) rfl (Le.imp (Le.none rfl)))) (fs_ret 1 (T := (sv fInt)) (mk := fun r4 => r4) (fv_callTy call_int_str cl_intS (He.free_ok KX GN (c.fact 1 (f := .free "int") rfl)) (va_cons (fe_var 0 (hs := gives_v)) fa_nil)) tk_v (fun _ _ => (.of rfl (Le.imp (.drop (.keep .nil))))))))
abbrev st_part_at : Stmt := top 8
theorem sc_part_at : FnScope ["text", "start", "colon", "end"] ["text", "start"] (defScope st_part_at) := ⟨rfl, rfl, rfl, by decide +kernel, rfl, by decide +kernel, by decide +kernel⟩
theorem ok_part_at (KX : K.In h) (GN : h.Ns mainGlobals mg) (c : Sy fa fn fx K) : Cal P w K mg base "part_at" ["text", "start"] 2 (spP K (fun (a : (List Nat) × Int × Unit) => [(sv fTxt a.1), (sv fInt a.2.1)]) (fun a => part_at_m a.1 a.2.1) (sv (fTup K (tvc fTxt (tv1 fInt))))) := by
  obtain ⟨fd, F⟩ := c.def_ 5 (d := mkD "part_at" 8) rfl
  refine ⟨_, fd, (He.glo_ok KX GN (c.fact 15 (f := .glo "part_at") rfl)), F.kp, F.bindsN (fun _ _ _ _ _ _ us hl => match us, hl with | [_, _], _ => rfl), ?_⟩
  refine fn_def (bm := fun (a : (List Nat) × Int × Unit) => part_at_b a.1 a.2.1) (par := (fun (a : (List Nat) × Int × Unit) (_ : Nat → V) => [(sv fTxt a.1), (sv fInt a.2.1)])) (res := (sv (fTup K (tvc fTxt (tv1 fInt))))) (outs := (fun _ _ => [])) (Eh := (fun _ => eh0 5)) (cls := (fun e => e)) (outsE := (fun _ _ => [])) (R := (fun u r v => [none, none, none, none, some (pn v (sv (fTup K (tvc fTxt (tv1 fInt))) r))])) (Nx := (fun u (s : Unit) => [none, none, none, none, none])) F sc_part_at  3 none [4] [] [] (fun _ h => nomatch h) (fun _ _ => rfl) (by decide) (by decide) (fun _ _ => rfl) (fun _ _ _ => (.cons rfl .nil)) (fun _ h => nomatch h) (fun _ _ => .nil) (by decide) (fun cdv A outer s H E C a u => ?_)
  obtain ⟨p0, p1, _⟩ := a
  show FS _ _ _ _ [some (sv fTxt p0), some (sv fInt p1), none, none, none] _ (part_at_b p0 p1) _ _ _
  unfold part_at_b
  exact (fs_set 2 (T := sv fInt) C.nd (fv_bm PySem.F.plainAttrs_str PySem.F.slot_str_find PySem.F.type_str_find mt_find3 ty_str ml_int3 (fe_var 0 (hs := gives_v)) (va_cons fe_str (va_cons (fe_var 1 (hs := gives_v)) fa_nil))) tk_v fun v1 => (fv_if1 (tv_cmp op_lt ol_B0 (fe_var 2 (hs := gives_v)) fe_int) (fun _ => (fs_raise C (er := .badForm) (pe := Er.badForm) rfl (He.exc_ok (c.fact 12 (f := .exc "BadForm") rfl)) (He.glo_ok KX GN (c.fact 13 (f := .glo "BadForm") rfl)) rfl (Le.imp (Le.none rfl)))) (fs_set 3 (T := sv fInt) C.nd (fe_bin op_add (fun _ _ => ol_I0) (fv_bin op_add ol_I0 (fe_var 2 (hs := gives_v)) fe_int) (fv_callC C (ok_number_of KX GN c) (by decide) (ak_v ak_nil) rs_v (va_cons (fv_slice sl_str sp_str (fe_var 0 (hs := gives_v)) (vo_some (fe_var 1 (hs := gives_v))) (vo_some (fe_var 2 (hs := gives_v)))) fa_nil))) tk_v fun v4 => (fv_if1 (tv_cmp op_gt ol_B0 (fe_var 3 (hs := gives_v)) (fv_callB call_len cl_lenS (He.free_ok KX GN (c.fact 0 (f := .free "len") rfl)) (va_cons (fe_var 0 (hs := gives_v)) fa_nil))) (fun _ => (fs_raise C (er := .badForm) (pe := Er.badForm) rfl (He.exc_ok (c.fact 12 (f := .exc "BadForm") rfl)) (He.glo_ok KX GN (c.fact 13 (f := .glo "BadForm") rfl)) rfl (Le.imp (Le.none rfl)))) (fv_ret 4 (T := (sv (fTup K (tvc fTxt (tv1 fInt))))) (mk := fun r5 => r5) (fv_tup (va_cons (fv_slice sl_str sp_str (fe_var 0 (hs := gives_v)) (vo_some (fv_bin op_add ol_I0 (fe_var 2 (hs := gives_v)) fe_int)) (vo_some (fe_var 3 (hs := gives_v)))) (va_cons (fe_var 3 (hs := gives_v)) fa_nil)) (to_c to_1) (szl (szc (szc sz0)))) tk_v (fun _ _ => (.of rfl (Le.imp (.drop (.drop (.drop (.drop (.keep .nil)))))))))))))
abbrev st_unpack : Stmt := top 9
theorem sc_unpack : FnScope ["text", "parts", "at", "part"] ["text"] (defScope st_unpack) := ⟨rfl, rfl, rfl, by decide +kernel, rfl, by decide +kernel, by decide +kernel⟩
theorem ok_unpack (KX : K.In h) (GN : h.Ns mainGlobals mg) (c : Sy fa fn fx K) : Cal P w K mg base "unpack" ["text"] 3 (spP K (fun (a : (List Nat) × Unit) => [(sv fTxt a.1)]) (fun a => unpack_m a.1) (ob (tL K fTxt))) := by
  obtain ⟨fd, F⟩ := c.def_ 6 (d := mkD "unpack" 9) rfl
  refine ⟨_, fd, (He.glo_ok KX GN (c.fact 16 (f := .glo "unpack") rfl)), F.kp, F.bindsN (fun _ _ _ _ _ _ us hl => match us, hl with | [_], _ => rfl), ?_⟩
  refine fn_def (bm := fun (a : (List Nat) × Unit) => unpack_b a.1) (par := (fun (a : (List Nat) × Unit) (_ : Nat → V) => [(sv fTxt a.1)])) (res := (ob (tL K fTxt))) (outs := (fun _ _ => [])) (Eh := (fun _ => eh0 5)) (cls := (fun e => e)) (outsE := (fun _ _ => [])) (R := (fun u r v => [none, none, none, none, some (pn v (ob (tL K fTxt) r))])) (Nx := (fun u (s : Unit) => [none, none, none, none, none])) F sc_unpack  4 none [4] [] [] (fun _ h => nomatch h) (fun _ _ => rfl) (by decide) (by decide) (fun _ _ => rfl) (fun _ _ _ => (.cons rfl .nil)) (fun _ h => nomatch h) (fun _ _ => .nil) (by decide) (fun cdv A outer s H E C a u => ?_)
  obtain ⟨p0, _⟩ := a
  show FS _ _ _ _ [some (sv fTxt p0), none, none, none, none] _ (unpack_b p0) _ _ _
  unfold unpack_b
  exact (fs_set 1 (T := ob (tL K fTxt)) C.nd fe_nil tk_o fun v1 => (fs_set 2 (T := sv fInt) C.nd fe_int tk_v fun v2 => (fs_pin 1 rfl fun V3 => (fs_seq (N1 := (fun (s7 : Int × (List (List Nat))) => [some (sv fTxt p0), some (pn V3 (ob (tL K fTxt) s7.2)), some (sv fInt s7.1), none, none])) (ps_whl (Gs := (fun (s4 : Int × (List (List Nat))) => [some (sv fTxt p0), some (pn V3 (ob (tL K fTxt) s4.2)), some (sv fInt s4.1), none, none])) (tl' := [3, 2, 1]) (x0 := (v2, v1)) (p := (fun e _ => e)) C (p0.length + 1) (fun s4 => (tv_cmp op_lt ol_B0 (fe_var 2 (hs := gives_v)) (fv_callB call_len cl_lenS (He.free_ok KX GN (c.fact 0 (f := .free "len") rfl)) (va_cons (fe_var 0 (hs := gives_v)) fa_nil)))) (.of rfl (Le.imp (.keep (.keep (.keep (.keep (.keep .nil))))))) (fun s4 => (fs_unp (fv_callC C (ok_part_at KX GN c) (by decide) (ak_v (ak_v ak_nil)) rs_v (va_cons (fe_var 0 (hs := gives_v)) (va_cons (fe_var 2 (hs := gives_v)) fa_nil))) (fg_tup C.calm (fgs_c (fg_name 3 C.nd) (fgs_1 (fg_name 2 C.nd))) (tnc tn1)) fun v5 => (fs_app 1 (A := fTxt) (as := s4.2) rfl (fe_var 1 (hs := gives_V)) (fe_var 3 (hs := gives_v)) fun v6 => (fs_nil (.of rfl (Le.imp (.keep (.keep (.keep (.drop (.keep .nil)))))))))))) fun s7 => (fs_retM 1 4 (fe_var 1 (hs := gives_V)) rfl (.of rfl (Le.imp (.drop (.keep (.drop (.keep (.keep .nil))))))))))))
abbrev st_Duties_note : Stmt := meth 14 1
theorem sc_Duties_note : FnScope ["self", "key", "place", "number"] ["self", "key", "place", "number"] (defScope st_Duties_note) := ⟨rfl, rfl, rfl, by decide +kernel, rfl, by decide +kernel, by decide +kernel⟩
theorem ok_Duties_note (KX : K.In h) (GN : h.Ns mainGlobals mg) (c : Sy fa fn fx K) : CalM P w K mg base (He.ga K "Duties") "note" ["self", "key", "place", "number"] 1 (spG K (fun (a : (List (((List Nat) × (List Nat)) × Int)) × (List Nat) × (List Nat) × Int × Unit) (u : Nat → V) => [(pn (u 0) (ob (tBx (He.ga K "Duties") (U_Duties K)) a.1)), (sv fTxt a.2.1), (sv fTxt a.2.2.1), (sv fInt a.2.2.2.1)]) (fun a => Duties_note_m a.1 a.2.1 a.2.2.1 a.2.2.2.1) (fun (_ : List (((List Nat) × (List Nat)) × Int)) => sv fUnit ()) (fun (r : List (((List Nat) × (List Nat)) × Int)) (u : Nat → V) => [((u 0), ob (tBx (He.ga K "Duties") (U_Duties K)) r)]) (fun e => e.1) (fun (e : Er × (List (((List Nat) × (List Nat)) × Int))) (u : Nat → V) => [((u 0), ob (tBx (He.ga K "Duties") (U_Duties K)) e.2)])) := by
  obtain ⟨fd, F⟩ := c.def_ 7 (d := mkM "Duties" "note" "Duties.note" 14 1) rfl
  refine ⟨_, fd, He.meth_ok (c.fact 17 (f := .meth "Duties" "note") rfl), F.bindsN (fun _ _ _ _ _ _ us hl => match us, hl with | [_, _, _, _], _ => rfl), ?_⟩
  refine fn_def (bm := fun (a : (List (((List Nat) × (List Nat)) × Int)) × (List Nat) × (List Nat) × Int × Unit) => Duties_note_b a.1 a.2.1 a.2.2.1 a.2.2.2.1) (par := (fun (a : (List (((List Nat) × (List Nat)) × Int)) × (List Nat) × (List Nat) × Int × Unit) (u : Nat → V) => [(pn (u 0) (ob (tBx (He.ga K "Duties") (U_Duties K)) a.1)), (sv fTxt a.2.1), (sv fTxt a.2.2.1), (sv fInt a.2.2.2.1)])) (res := (fun (_ : List (((List Nat) × (List Nat)) × Int)) => sv fUnit ())) (outs := (fun (r : List (((List Nat) × (List Nat)) × Int)) (u : Nat → V) => [((u 0), ob (tBx (He.ga K "Duties") (U_Duties K)) r)])) (Eh := (fun u => (⟨fun e => e.1, fun e => [some (pn (u 0) (bx (He.ga K "Duties") [("_numbers", ce (tDT kTT fInt) e.2)])), none, none, none, none, none, none, none]⟩ : EH (Er × (List (((List Nat) × (List Nat)) × Int)))))) (cls := (fun e => e.1)) (outsE := (fun (e : Er × (List (((List Nat) × (List Nat)) × Int))) (u : Nat → V) => [((u 0), ob (tBx (He.ga K "Duties") (U_Duties K)) e.2)])) (R := (fun u r v => [some (pn (u 0) (bx (He.ga K "Duties") [("_numbers", ce (tDT kTT fInt) r)])), none, none, none, some (pn v (sv fUnit ())), none, none, none])) (Nx := (fun u (s : (List (((List Nat) × (List Nat)) × Int))) => [some (pn (u 0) (bx (He.ga K "Duties") [("_numbers", ce (tDT kTT fInt) s)])), none, none, none, none, none, none, none])) F sc_Duties_note  4 (some fun (s : (List (((List Nat) × (List Nat)) × Int))) => s) [4, 0] [0] [0] (fun _ h _ _ _ _ => by cases h; exact ⟨rfl, rfl⟩) (fun _ _ => rfl) (by decide) (by decide) (fun _ _ => rfl) (fun _ _ _ => (.cons rfl (.cons rfl .nil))) (fun _ h _ _ => by cases h; exact (.cons rfl .nil)) (fun _ _ => (.cons rfl .nil)) (by decide) (fun cdv A outer s H E C a u => ?_)
  obtain ⟨p0, p1, p2, p3, _⟩ := a
  show FS _ _ _ _ [some (pn (u 0) (bx (He.ga K "Duties") [("_numbers", ce (tDT kTT fInt) p0)])), some (sv fTxt p1), some (sv fTxt p2), some (sv fInt p3), none, none, none, none] _ (Duties_note_b p0 p1 p2 p3) _ _ _
  unfold Duties_note_b
  exact (fs_openN (q := (u 0)) (C := (He.ga K "Duties")) (l := [("_numbers", ce (tDT kTT fInt) p0)]) (f := "_numbers") (T := (tDT kTT fInt)) (a := p0) 0 5 0 nd_Duties fun W1 => (fs_re (G1 := [some (pn (u 0) (bx (He.ga K "Duties") [("_numbers", ce (tF fVal) W1)])), some (sv fTxt p1), some (sv fTxt p2), some (sv fInt p3), none, some (pn W1 (ob (tDT kTT fInt) p0)), none, none]) (fs_dputT (j := 5) (T := kTT) (A := fInt) (d := p0) (p := (fun e => (e, p0))) (hp := ⟨fun _ => rfl, fun _ => (.of rfl (Imp.trans (Imp.closeN (q := (u 0)) (w := W1) (C := (He.ga K "Duties")) (l := [("_numbers", ce (tF fVal) W1)]) (f := "_numbers") (T := (tDT kTT fInt)) (a := p0) (k := 0) (g := 5) 0 nd_Duties) (.of rfl (Le.imp (.keep (.drop (.drop (.drop (.keep (.keep (.keep (.keep .nil))))))))))))⟩) C rfl (fe_fldN 0 (fe_var 0 (hs := (gives_pn (gives_o (T := tB (He.ga K "Duties")) (a := [("_numbers", ce (tF fVal) W1)]))))) cg_V nd_Duties (He.cls_ok (c.fact 7 (f := .cls "Duties") rfl)) (He.noat_ok (c.fact 8 (f := .noat "Duties" "_numbers") rfl))) (fe_var 3 (hs := gives_v)) (fv_tupS (va_cons (fe_var 1 (hs := gives_v)) (va_cons (fe_var 2 (hs := gives_v)) fa_nil)) (to_c to_1) (szl (szc (szc sz0)))) fun k3 v2 => (fs_nil (.of rfl (Imp.trans (Imp.closeN (q := (u 0)) (w := W1) (C := (He.ga K "Duties")) (l := [("_numbers", ce (tF fVal) W1)]) (f := "_numbers") (T := (tDT kTT fInt)) (a := (dput p0 k3 v2)) (k := 0) (g := 5) 0 nd_Duties) (.of rfl (Le.imp (.keep (.drop (.drop (.drop (.keep (.keep (.keep (.keep .nil))))))))))))))))
abbrev st_Duties_pairs : Stmt := meth 14 7
theorem sc_Duties_pairs : FnScope ["self"] ["self"] (defScope st_Duties_pairs) := ⟨rfl, rfl, rfl, by decide +kernel, rfl, by decide +kernel, by decide +kernel⟩
theorem ok_Duties_pairs (KX : K.In h) (GN : h.Ns mainGlobals mg) (c : Sy fa fn fx K) : CalM P w K mg base (He.ga K "Duties") "pairs" ["self"] 1 (spP K (fun (a : (List (((List Nat) × (List Nat)) × Int)) × Unit) => [(bw (tBx (He.ga K "Duties") (U_Duties K)) a.1)]) (fun a => Duties_pairs_m a.1) (ob (tL K (fTS (tvc fTxt (tv1 fTxt)))))) := by
  obtain ⟨fd, F⟩ := c.def_ 8 (d := mkM "Duties" "pairs" "Duties.pairs" 14 7) rfl
  refine ⟨_, fd, He.meth_ok (c.fact 20 (f := .meth "Duties" "pairs") rfl), F.bindsN (fun _ _ _ _ _ _ us hl => match us, hl with | [_], _ => rfl), ?_⟩
  refine fn_def (bm := fun (a : (List (((List Nat) × (List Nat)) × Int)) × Unit) => Duties_pairs_b a.1) (par := (fun (a : (List (((List Nat) × (List Nat)) × Int)) × Unit) (_ : Nat → V) => [(bw (tBx (He.ga K "Duties") (U_Duties K)) a.1)])) (res := (ob (tL K (fTS (tvc fTxt (tv1 fTxt)))))) (outs := (fun _ _ => [])) (Eh := (fun _ => eh0 5)) (cls := (fun e => e)) (outsE := (fun _ _ => [])) (R := (fun u r v => [none, some (pn v (ob (tL K (fTS (tvc fTxt (tv1 fTxt)))) r)), none, none, none])) (Nx := (fun u (s : Unit) => [none, none, none, none, none])) F sc_Duties_pairs  4 none [1] [] [] (fun _ h => nomatch h) (fun _ _ => rfl) (by decide) (by decide) (fun _ _ => rfl) (fun _ _ _ => (.cons rfl .nil)) (fun _ h => nomatch h) (fun _ _ => .nil) (by decide) (fun cdv A outer s H E C a u => ?_)
  obtain ⟨p0, _⟩ := a
  show FS _ _ _ _ [some (bw (tB (He.ga K "Duties")) [("_numbers", ce (tDT kTT fInt) p0)]), none, none, none, none] _ (Duties_pairs_b p0) _ _ _
  unfold Duties_pairs_b
  exact (fv_ret 1 (T := (ob (tL K (fTS (tvc fTxt (tv1 fTxt)))))) (mk := fun r1 => r1) (fv_callB cr_sortA (cl_sortR (fun _ _ _ h => fTS_w h) (enc := (fun (a : ((List Nat) × (List Nat))) => [At.t a.1, At.t a.2])) (en_c ea_t (en_1 ea_t)) (fun _ h => nomatch h)) (He.free_ok KX GN (c.fact 19 (f := .free "sorted") rfl)) (va_cons (fe_borrow (fv_callTy (call_list_dT C.calm) (cl_listDT (T := kTT)) (He.free_ok KX GN (c.fact 18 (f := .free "list") rfl)) (va_cons (fe_fldN 0 (fe_var 0 (hs := (gives_b (T := tB (He.ga K "Duties")) (a := [("_numbers", ce (tDT kTT fInt) p0)])))) cg_b nd_Duties (He.cls_ok (c.fact 7 (f := .cls "Duties") rfl)) (He.noat_ok (c.fact 8 (f := .noat "Duties" "_numbers") rfl))) fa_nil))) fa_nil)) tk_o (fun _ _ => (.of rfl (Le.imp (.drop (.keep (.keep (.keep (.keep .nil)))))))))
abbrev st_pack : Stmt := top 6
theorem sc_pack : FnScope ["parts", "part"] ["parts"] (defScope st_pack) := ⟨rfl, rfl, rfl, by decide +kernel, rfl, by decide +kernel, by decide +kernel⟩
theorem ok_pack (KX : K.In h) (GN : h.Ns mainGlobals mg) (c : Sy fa fn fx K) : Cal P w K mg base "pack" ["parts"] 1 (spP K (fun (a : (List (List Nat)) × Unit) => [(bw (tL K fTxt) a.1)]) (fun a => pack_m a.1) (sv fTxt)) := by
  obtain ⟨fd, F⟩ := c.def_ 9 (d := mkD "pack" 6) rfl
  refine ⟨_, fd, (He.glo_ok KX GN (c.fact 21 (f := .glo "pack") rfl)), F.kp, F.bindsN (fun _ _ _ _ _ _ us hl => match us, hl with | [_], _ => rfl), ?_⟩
  refine fn_def (bm := fun (a : (List (List Nat)) × Unit) => pack_b a.1) (par := (fun (a : (List (List Nat)) × Unit) (_ : Nat → V) => [(bw (tL K fTxt) a.1)])) (res := (sv fTxt)) (outs := (fun _ _ => [])) (Eh := (fun _ => eh0 3)) (cls := (fun e => e)) (outsE := (fun _ _ => [])) (R := (fun u r v => [none, none, some (pn v (sv fTxt r))])) (Nx := (fun u (s : Unit) => [none, none, none])) F sc_pack  2 none [2] [] [] (fun _ h => nomatch h) (fun _ _ => rfl) (by decide) (by decide) (fun _ _ => rfl) (fun _ _ _ => (.cons rfl .nil)) (fun _ h => nomatch h) (fun _ _ => .nil) (by decide) (fun cdv A outer s H E C a u => ?_)
  obtain ⟨p0, _⟩ := a
  show FS _ _ _ _ [some (bw (tL K fTxt) p0), none, none] _ (pack_b p0) _ _ _
  unfold pack_b
  exact (fs_ret 2 (T := (sv fTxt)) (mk := fun r7 => r7) (fe_bm PySem.F.plainAttrs_str PySem.F.slot_str_join PySem.F.type_str_join mt_join ty_str (fun _ _ => ml_join) fe_str (fa_cons (fe_borrow (fv_lcL (A := fTxt) (own := [("part", 1)]) (Gw := [some (bw (tL K fTxt) p0), none, none]) (c := fun (a1 : List Nat) => M.ok (true)) (f := fun (a1 : List Nat) => joinM [M.need ((a1.length : Int).natAbs.log2 < 1920 ∧ tOk (strI (a1.length : Int))) (M.ok (strI (a1.length : Int))), M.ok (([58] : List Nat)), M.ok (a1)] []) C (fe_var 0 (hs := gives_b)) (.of rfl (Le.imp (.keep (.keep (.keep .nil))))) (hw_of rfl) (blkOk_by (N := ["parts", "part"]) (sc := defScope st_pack) (by decide +kernel)) (fun sq2 Hq2 Cq2 lq2 fq2 => (fg_name 1 (C.blk _ sq2 Hq2 Cq2 lq2 fq2).nd)) (fun a1 sq2 Hq2 Cq2 lq2 fq2 => fts_nil) (fun a1 sq2 Hq2 Cq2 lq2 fq2 => (fe_joined (.cons (fmt_iv (fv_callB call_len cl_lenS (He.free_ok KX GN (c.fact 0 (f := .free "len") rfl)) (va_cons (fe_var 1 (hs := gives_v)) fa_nil))) (.cons fe_str (.cons (fmt_sv (fe_var 1 (hs := gives_v))) .nil))))))) fa_nil)) tk_v (fun _ _ => (.of rfl (Le.imp (.drop (.keep (.keep .nil)))))))
abbrev st_Duties_image : Stmt := meth 14 8
theorem sc_Duties_image : FnScope ["self", "parts", "key", "place"] ["self"] (defScope st_Duties_image) := ⟨rfl, rfl, rfl, by decide +kernel, rfl, by decide +kernel, by decide +kernel⟩
theorem ok_Duties_image (KX : K.In h) (GN : h.Ns mainGlobals mg) (c : Sy fa fn fx K) : CalM P w K mg base (He.ga K "Duties") "image" ["self"] 2 (spP K (fun (a : (List (((List Nat) × (List Nat)) × Int)) × Unit) => [(bw (tBx (He.ga K "Duties") (U_Duties K)) a.1)]) (fun a => Duties_image_m a.1) (sv fTxt)) := by
  obtain ⟨fd, F⟩ := c.def_ 10 (d := mkM "Duties" "image" "Duties.image" 14 8) rfl
  refine ⟨_, fd, He.meth_ok (c.fact 22 (f := .meth "Duties" "image") rfl), F.bindsN (fun _ _ _ _ _ _ us hl => match us, hl with | [_], _ => rfl), ?_⟩
  refine fn_def (bm := fun (a : (List (((List Nat) × (List Nat)) × Int)) × Unit) => Duties_image_b a.1) (par := (fun (a : (List (((List Nat) × (List Nat)) × Int)) × Unit) (_ : Nat → V) => [(bw (tBx (He.ga K "Duties") (U_Duties K)) a.1)])) (res := (sv fTxt)) (outs := (fun _ _ => [])) (Eh := (fun _ => eh0 8)) (cls := (fun e => e)) (outsE := (fun _ _ => [])) (R := (fun u r v => [none, none, none, none, some (pn v (sv fTxt r)), none, none, none])) (Nx := (fun u (s : Unit) => [none, none, none, none, none, none, none, none])) F sc_Duties_image  7 none [4] [] [] (fun _ h => nomatch h) (fun _ _ => rfl) (by decide) (by decide) (fun _ _ => rfl) (fun _ _ _ => (.cons rfl .nil)) (fun _ h => nomatch h) (fun _ _ => .nil) (by decide) (fun cdv A outer s H E C a u => ?_)
  obtain ⟨p0, _⟩ := a
  show FS _ _ _ _ [some (bw (tB (He.ga K "Duties")) [("_numbers", ce (tDT kTT fInt) p0)]), none, none, none, none, none, none, none] _ (Duties_image_b p0) _ _ _
  unfold Duties_image_b
  exact (fs_set 1 (T := ob (tL K fTxt)) C.nd fe_nil tk_o fun v1 => (fs_pin 1 rfl fun V2 => (fs_seq (N1 := (fun (s7 : (List (List Nat))) => [some (bw (tB (He.ga K "Duties")) [("_numbers", ce (tDT kTT fInt) p0)]), some (pn V2 (ob (tL K fTxt) s7)), none, none, none, none, none, none])) (ps_forF (Gs := (fun (s3 : (List (List Nat))) => [some (bw (tB (He.ga K "Duties")) [("_numbers", ce (tDT kTT fInt) p0)]), some (pn V2 (ob (tL K fTxt) s3)), none, none, none, none, none, none])) (tl' := [2, 3, 1]) (x0 := v1) (A := (fTup K (tvc fTxt (tv1 fTxt)))) C (fe_freeze (fe_lswo (fe_methC0 (names := nm_Duties) C (ok_Duties_pairs KX GN c) (by decide) (He.cls_ok (c.fact 7 (f := .cls "Duties") rfl)) rfl (by decide +kernel) (ak_b ak_nil) rs_o (fe_var 0 (hs := (gives_b (T := (tBx (He.ga K "Duties") (U_Duties K))) (a := p0))))))) src_f (.of rfl (Le.imp (.keep (.keep (.keep (.keep (.keep (.keep (.keep (.keep .nil)))))))))) (fg_tup C.calm (fgs_c (fg_name 2 C.nd) (fgs_1 (fg_name 3 C.nd))) (tnc tn1)) (fun s3 a4 => (fs_app 1 (A := fTxt) (as := s3) rfl (fe_var 1 (hs := gives_V)) (fe_var 2 (hs := gives_v)) fun v5 => (fs_app 1 (A := fTxt) (as := (s3 ++ [v5])) rfl (fe_var 1 (hs := gives_V)) (fe_var 3 (hs := gives_v)) fun v6 => (fs_nil (.of rfl (Le.imp (.keep (.keep (.drop (.drop (.keep (.keep (.keep (.keep .nil))))))))))))))) fun s7 => (fs_ret 4 (T := (sv fTxt)) (mk := fun r8 => r8) (fv_callC C (ok_pack KX GN c) (by decide) (ak_b ak_nil) rs_v (va_cons (fe_var 1 (hs := (gives_pn gives_o))) fa_nil)) tk_v (fun _ _ => (.of rfl (Le.imp (.drop (.drop (.keep (.keep (.keep (.keep (.keep (.keep .nil)))))))))))))))
abbrev st_is_name : Stmt := top 12
theorem sc_is_name : FnScope ["text"] ["text"] (defScope st_is_name) := ⟨rfl, rfl, rfl, by decide +kernel, rfl, by decide +kernel, by decide +kernel⟩
theorem ok_is_name (KX : K.In h) (GN : h.Ns mainGlobals mg) (c : Sy fa fn fx K) : Cal P w K mg base "is_name" ["text"] 1 (spP K (fun (a : (List Nat) × Unit) => [(sv fTxt a.1)]) (fun a => is_name_m a.1) (sv fBool)) := by
  obtain ⟨fd, F⟩ := c.def_ 11 (d := mkD "is_name" 12) rfl
  refine ⟨_, fd, (He.glo_ok KX GN (c.fact 24 (f := .glo "is_name") rfl)), F.kp, F.bindsN (fun _ _ _ _ _ _ us hl => match us, hl with | [_], _ => rfl), ?_⟩
  refine fn_def (bm := fun (a : (List Nat) × Unit) => is_name_b a.1) (par := (fun (a : (List Nat) × Unit) (_ : Nat → V) => [(sv fTxt a.1)])) (res := (sv fBool)) (outs := (fun _ _ => [])) (Eh := (fun _ => eh0 2)) (cls := (fun e => e)) (outsE := (fun _ _ => [])) (R := (fun u r v => [none, some (pn v (sv fBool r))])) (Nx := (fun u (s : Unit) => [none, none])) F sc_is_name  1 none [1] [] [] (fun _ h => nomatch h) (fun _ _ => rfl) (by decide) (by decide) (fun _ _ => rfl) (fun _ _ _ => (.cons rfl .nil)) (fun _ h => nomatch h) (fun _ _ => .nil) (by decide) (fun cdv A outer s H E C a u => ?_)
  obtain ⟨p0, _⟩ := a
  show FS _ _ _ _ [some (sv fTxt p0), none] _ (is_name_b p0) _ _ _
  unfold is_name_b
  exact (fv_if1 (tv_not (tv_chain op_le op_le ol_B0 ol_B0 fe_int (fv_callB call_len cl_lenS (He.free_ok KX GN (c.fact 0 (f := .free "len") rfl)) (va_cons (fe_var 0 (hs := gives_v)) fa_nil)) (fe_globI (by rfl) (He.int_ok KX GN (c.fact 23 (f := .int "MAX_NAME" 4) rfl))))) (fun _ => (fv_ret 1 (T := (sv fBool)) (mk := fun r1 => r1) fe_bool tk_v (fun _ _ => (.of rfl (Le.imp (.drop (.keep .nil))))))) (fs_ret 1 (T := (sv fBool)) (mk := fun r5 => r5) (fe_and (fv_bm0 PySem.F.plainAttrs_str PySem.F.slot_str_isalnum PySem.F.type_str_isalnum mt_isalnum ty_str ml_test (fe_var 0 (hs := gives_v))) (fe_one (fe_cmp op_eq (fun _ _ => ol_eqS) (fe_var 0 (hs := gives_v)) (fv_bm0 PySem.F.plainAttrs_str PySem.F.slot_str_lower PySem.F.type_str_lower mt_lower ty_str ml_map (fe_var 0 (hs := gives_v)))))) tk_v (fun _ _ => (.of rfl (Le.imp (.drop (.keep .nil)))))))
abbrev st_load_duties : Stmt := top 15
theorem sc_load_duties : FnScope ["text", "number", "parts", "duties", "part", "at"] ["text", "number"] (defScope st_load_duties) := ⟨rfl, rfl, rfl, by decide +kernel, rfl, by decide +kernel, by decide +kernel⟩
theorem ok_load_duties (KX : K.In h) (GN : h.Ns mainGlobals mg) (c : Sy fa fn fx K) : Cal P w K mg base "load_duties" ["text", "number"] 4 (spP K (fun (a : (List Nat) × Int × Unit) => [(sv fTxt a.1), (sv fInt a.2.1)]) (fun a => load_duties_m a.1 a.2.1) (ob (tBx (He.ga K "Duties") (U_Duties K)))) := by
  obtain ⟨fd, F⟩ := c.def_ 12 (d := mkD "load_duties" 15) rfl
  refine ⟨_, fd, (He.glo_ok KX GN (c.fact 25 (f := .glo "load_duties") rfl)), F.kp, F.bindsN (fun _ _ _ _ _ _ us hl => match us, hl with | [_, _], _ => rfl), ?_⟩
  refine fn_def (bm := fun (a : (List Nat) × Int × Unit) => load_duties_b a.1 a.2.1) (par := (fun (a : (List Nat) × Int × Unit) (_ : Nat → V) => [(sv fTxt a.1), (sv fInt a.2.1)])) (res := (ob (tBx (He.ga K "Duties") (U_Duties K)))) (outs := (fun _ _ => [])) (Eh := (fun _ => eh0 10)) (cls := (fun e => e)) (outsE := (fun _ _ => [])) (R := (fun u r v => [none, none, none, none, none, none, some (pn v (bx (He.ga K "Duties") [("_numbers", ce (tDT kTT fInt) r)])), none, none, none])) (Nx := (fun u (s : Unit) => [none, none, none, none, none, none, none, none, none, none])) F sc_load_duties  8 none [6] [] [] (fun _ h => nomatch h) (fun _ _ => rfl) (by decide) (by decide) (fun _ _ => rfl) (fun _ _ _ => (.cons rfl .nil)) (fun _ h => nomatch h) (fun _ _ => .nil) (by decide) (fun cdv A outer s H E C a u => ?_)
  obtain ⟨p0, p1, _⟩ := a
  show FS _ _ _ _ [some (sv fTxt p0), some (sv fInt p1), none, none, none, none, none, none, none, none] _ (load_duties_b p0 p1) _ _ _
  unfold load_duties_b
  exact (fs_set 2 (T := ob (tL K fTxt)) C.nd (fv_callC C (ok_unpack KX GN c) (by decide) (ak_v ak_nil) rs_o (va_cons (fe_var 0 (hs := gives_v)) fa_nil)) tk_o fun v1 => (fv_if1 (fw_t (vw_or (tv_cmp op_eq ol_eqI (fv_callB call_len cl_lenL (He.free_ok KX GN (c.fact 0 (f := .free "len") rfl)) (va_cons (fe_var 2 (hs := gives_o)) fa_nil)) fe_int) (fw_or1 (tv_cmp op_eq ol_eqI (fv_bin op_mod (ol_Ic (by decide)) (fv_callB call_len cl_lenL (He.free_ok KX GN (c.fact 0 (f := .free "len") rfl)) (va_cons (fe_var 2 (hs := gives_o)) fa_nil)) fe_int) fe_int)))) (fun _ => (fs_raise C (er := .badForm) (pe := Er.badForm) rfl (He.exc_ok (c.fact 12 (f := .exc "BadForm") rfl)) (He.glo_ok KX GN (c.fact 13 (f := .glo "BadForm") rfl)) rfl (Le.imp (Le.none rfl)))) (fs_set 3 (T := fun (v28 : List (((List Nat) × (List Nat)) × Int)) => (bx (He.ga K "Duties") [("_numbers", ce (tDT kTT fInt) v28)])) C.nd (fe_make0 C (ok_Duties_init KX GN c) (by decide) ak_nil) tk_o fun v2 => (fs_pin 2 rfl fun V3 => (fs_seq (N1 := (fun (s8 : Unit) => [some (sv fTxt p0), some (sv fInt p1), some (pn V3 (ob (tL K fTxt) v1)), some (bx (He.ga K "Duties") [("_numbers", ce (tDT kTT fInt) v2)]), none, none, none, none, none, none])) (pv_forF (Gs := (fun (s4 : Unit) => [some (sv fTxt p0), some (sv fInt p1), some (pn V3 (ob (tL K fTxt) v1)), some (bx (He.ga K "Duties") [("_numbers", ce (tDT kTT fInt) v2)]), none, none, none, none, none, none])) (tl' := [4]) (x0 := ()) (A := fTxt) (l := fun _ => v1) C (fe_var 2 (hs := gives_V)) (src_p 2 ls_o (fun _ => rfl)) (.of rfl (Le.imp (.keep (.keep (.keep (.keep (.keep (.keep (.keep (.keep (.keep (.keep .nil)))))))))))) (fg_name 4 C.nd) (fun s4 a5 => (fs_ifend (ft_not (ft_val (fv_callC C (ok_is_name KX GN c) (by decide) (ak_v ak_nil) rs_v (va_cons (fe_var 4 (hs := gives_v)) fa_nil)))) (fs_raise C (er := .badForm) (pe := Er.badForm) rfl (He.exc_ok (c.fact 12 (f := .exc "BadForm") rfl)) (He.glo_ok KX GN (c.fact 13 (f := .glo "BadForm") rfl)) rfl (Le.imp (Le.none rfl))) (fs_nil (.of rfl (Le.imp (.keep (.keep (.keep (.keep (.drop (.keep (.keep (.keep (.keep (.keep .nil)))))))))))))))) fun s8 => (fs_pin 3 rfl fun V9 => (fs_seq (N1 := (fun (s22 : (List (((List Nat) × (List Nat)) × Int))) => [some (sv fTxt p0), some (sv fInt p1), some (pn V3 (ob (tL K fTxt) v1)), some (pn V9 (bx (He.ga K "Duties") [("_numbers", ce (tDT kTT fInt) s22)])), none, none, none, none, none, none])) (ps_forR3 (Gs := (fun (s10 : (List (((List Nat) × (List Nat)) × Int))) => [some (sv fTxt p0), some (sv fInt p1), some (pn V3 (ob (tL K fTxt) v1)), some (pn V9 (bx (He.ga K "Duties") [("_numbers", ce (tDT kTT fInt) s10)])), none, none, none, none, none, none])) (tl' := [5, 3]) (x0 := v2) C (He.free_ok KX GN (c.fact 3 (f := .free "range") rfl)) fe_int (fv_callB call_len cl_lenL (He.free_ok KX GN (c.fact 0 (f := .free "len") rfl)) (va_cons (fe_var 2 (hs := (gives_pn gives_o))) fa_nil)) fe_int (by decide) (.of rfl (Le.imp (.keep (.keep (.keep (.keep (.keep (.keep (.keep (.keep (.keep (.keep .nil)))))))))))) (fg_name 5 C.nd) (fun s10 a11 => (fx_expr (fx_meth (A := fun (_ : List (((List Nat) × (List Nat)) × Int)) (_ : Hp) (v : V) => v = .non) (names := nm_Duties) (g := fun a18 => (s10, a18.1, a18.2.1, a18.2.2.1, ())) (ks := [3]) (kt := [3]) (kte := [3]) (κ := [some 3, none, none, none]) (w := (fun | 0 => V9 | _ => .non)) (q := (fun (e21 : Er × (List (((List Nat) × (List Nat)) × Int))) => e21.1)) 3 C (ok_Duties_note KX GN c) (by decide) (He.cls_ok (c.fact 7 (f := .cls "Duties") rfl)) rfl (by decide +kernel) rfl (gives_o (T := (tBx (He.ga K "Duties") (U_Duties K))) (a := s10)) (fe_var 3 (hs := gives_V)) (fa_cons (fv_ix ix_list ol_ixL (fe_var 2 (hs := (gives_pn gives_o))) (fe_var 5 (hs := gives_v))) (fa_cons (fv_ix ix_list ol_ixL (fe_var 2 (hs := (gives_pn gives_o))) (fv_bin op_add ol_I0 (fe_var 5 (hs := gives_v)) fe_int)) (fa_cons (fe_var 1 (hs := gives_v)) fa_nil))) (ag_cons (ag_p (q := V9) (T := (bx (He.ga K "Duties") [("_numbers", ce (tDT kTT fInt) s10)])) 3 rfl) (ag_cons ag_v (ag_cons ag_v (ag_cons ag_v ag_nil)))) ⟨own_all rfl, by decide, by decide, fun _ => (.pin rfl .nil), by decide, by decide, fun _ => (.pin rfl .nil), by decide, fun _ => rfl, (fun _ => Le.imp (Le.none rfl))⟩ (fun r Y F H v ms h => h.1)) fun z20 _ => (fs_re (G1 := [some (sv fTxt p0), some (sv fInt p1), some (pn V3 (ob (tL K fTxt) v1)), some (pn V9 (bx (He.ga K "Duties") [("_numbers", ce (tDT kTT fInt) z20)])), none, some (sv fInt a11), none, none, none, none]) (fs_nil (.of rfl (Le.imp (.keep (.keep (.keep (.keep (.keep (.drop (.keep (.keep (.keep (.keep .nil))))))))))))))))) fun s22 => (fs_if1 (ft_cmp op_ne (fun _ _ => ol_neS) (fe_methC0 (names := nm_Duties) C (ok_Duties_image KX GN c) (by decide) (He.cls_ok (c.fact 7 (f := .cls "Duties") rfl)) rfl (by decide +kernel) (ak_b ak_nil) rs_v (fe_var 3 (hs := (gives_pn (gives_o (T := (tBx (He.ga K "Duties") (U_Duties K))) (a := s22)))))) (fe_var 0 (hs := gives_v))) (fun _ => (fs_raise C (er := .badForm) (pe := Er.badForm) rfl (He.exc_ok (c.fact 12 (f := .exc "BadForm") rfl)) (He.glo_ok KX GN (c.fact 13 (f := .glo "BadForm") rfl)) rfl (Le.imp (Le.none rfl)))) (fs_retM 3 6 (fe_var 3 (hs := gives_V)) rfl (.of rfl (Le.imp (.drop (.drop (.drop (.keep (.keep (.keep (.keep (.keep (.keep (.keep .nil)))))))))))))))))))))
abbrev st_law_at : Stmt := top 18
theorem sc_law_at : FnScope ["_law_row_here", "_law_at_here"] ["_law_row_here", "_law_at_here"] (defScope st_law_at) := ⟨rfl, rfl, rfl, by decide +kernel, rfl, by decide +kernel, by decide +kernel⟩
theorem ok_law_at (KX : K.In h) (GN : h.Ns mainGlobals mg) (c : Sy fa fn fx K) : Cal P w K mg base "_law_at" ["_law_row_here", "_law_at_here"] 1 (spP K (fun (a : (List (Int)) × Int × Unit) => [(bw (tL K fInt) a.1), (sv fInt a.2.1)]) (fun a => law_at_m a.1 a.2.1) (sv fInt)) := by
  obtain ⟨fd, F⟩ := c.def_ 13 (d := mkD "_law_at" 18) rfl
  refine ⟨_, fd, (He.glo_ok KX GN (c.fact 26 (f := .glo "_law_at") rfl)), F.kp, F.bindsN (fun _ _ _ _ _ _ us hl => match us, hl with | [_, _], _ => rfl), ?_⟩
  refine fn_def (bm := fun (a : (List (Int)) × Int × Unit) => law_at_b a.1 a.2.1) (par := (fun (a : (List (Int)) × Int × Unit) (_ : Nat → V) => [(bw (tL K fInt) a.1), (sv fInt a.2.1)])) (res := (sv fInt)) (outs := (fun _ _ => [])) (Eh := (fun _ => eh0 3)) (cls := (fun e => e)) (outsE := (fun _ _ => [])) (R := (fun u r v => [none, none, some (pn v (sv fInt r))])) (Nx := (fun u (s : Unit) => [none, none, none])) F sc_law_at  1 none [2] [] [] (fun _ h => nomatch h) (fun _ _ => rfl) (by decide) (by decide) (fun _ _ => rfl) (fun _ _ _ => (.cons rfl .nil)) (fun _ h => nomatch h) (fun _ _ => .nil) (by decide) (fun cdv A outer s H E C a u => ?_)
  obtain ⟨p0, p1, _⟩ := a
  show FS _ _ _ _ [some (bw (tL K fInt) p0), some (sv fInt p1), none] _ (law_at_b p0 p1) _ _ _
  unfold law_at_b
  exact (fv_if1 (tv_chain op_le op_lt ol_B0 ol_B0 fe_int (fe_var 1 (hs := gives_v)) (fv_callB call_len cl_lenL (He.free_ok KX GN (c.fact 0 (f := .free "len") rfl)) (va_cons (fe_var 0 (hs := gives_b)) fa_nil))) (fun _ => (fs_ret 2 (T := (sv fInt)) (mk := fun r1 => r1) (fv_ix ix_list ol_ixL (fe_var 0 (hs := gives_b)) (fe_var 1 (hs := gives_v))) tk_v (fun _ _ => (.of rfl (Le.imp (.drop (.drop (.keep .nil)))))))) (fv_ret 2 (T := (sv fInt)) (mk := fun r2 => r2) fe_int tk_v (fun _ _ => (.of rfl (Le.imp (.drop (.drop (.keep .nil))))))))
abbrev st_law_flat : Stmt := top 21
theorem sc_law_flat : FnScope ["_law_pairs", "_law_parts", "_law_pair"] ["_law_pairs"] (defScope st_law_flat) := ⟨rfl, rfl, rfl, by decide +kernel, rfl, by decide +kernel, by decide +kernel⟩
theorem ok_law_flat (KX : K.In h) (GN : h.Ns mainGlobals mg) (c : Sy fa fn fx K) : Cal P w K mg base "_law_flat" ["_law_pairs"] 1 (spP K (fun (a : (List (((List Nat) × (List Nat)))) × Unit) => [(bw (tL K (fTup K (tvc fTxt (tv1 fTxt)))) a.1)]) (fun a => law_flat_m a.1) (ob (tL K fTxt))) := by
  obtain ⟨fd, F⟩ := c.def_ 14 (d := mkD "_law_flat" 21) rfl
  refine ⟨_, fd, (He.glo_ok KX GN (c.fact 27 (f := .glo "_law_flat") rfl)), F.kp, F.bindsN (fun _ _ _ _ _ _ us hl => match us, hl with | [_], _ => rfl), ?_⟩
  refine fn_def (bm := fun (a : (List (((List Nat) × (List Nat)))) × Unit) => law_flat_b a.1) (par := (fun (a : (List (((List Nat) × (List Nat)))) × Unit) (_ : Nat → V) => [(bw (tL K (fTup K (tvc fTxt (tv1 fTxt)))) a.1)])) (res := (ob (tL K fTxt))) (outs := (fun _ _ => [])) (Eh := (fun _ => eh0 4)) (cls := (fun e => e)) (outsE := (fun _ _ => [])) (R := (fun u r v => [none, none, none, some (pn v (ob (tL K fTxt) r))])) (Nx := (fun u (s : Unit) => [none, none, none, none])) F sc_law_flat  3 none [3] [] [] (fun _ h => nomatch h) (fun _ _ => rfl) (by decide) (by decide) (fun _ _ => rfl) (fun _ _ _ => (.cons rfl .nil)) (fun _ h => nomatch h) (fun _ _ => .nil) (by decide) (fun cdv A outer s H E C a u => ?_)
  obtain ⟨p0, _⟩ := a
  show FS _ _ _ _ [some (bw (tL K (fTup K (tvc fTxt (tv1 fTxt)))) p0), none, none, none] _ (law_flat_b p0) _ _ _
  unfold law_flat_b
  exact (fs_set 1 (T := ob (tL K fTxt)) C.nd fe_nil tk_o fun v1 => (fs_pin 1 rfl fun V2 => (fs_pin 0 rfl fun V3 => (fs_seq (N1 := (fun (s8 : (List (List Nat))) => [some (pn V3 (bw (tL K (fTup K (tvc fTxt (tv1 fTxt)))) p0)), some (pn V2 (ob (tL K fTxt) s8)), none, none])) (pv_forF (Gs := (fun (s4 : (List (List Nat))) => [some (pn V3 (bw (tL K (fTup K (tvc fTxt (tv1 fTxt)))) p0)), some (pn V2 (ob (tL K fTxt) s4)), none, none])) (tl' := [2, 1]) (x0 := v1) (A := (fTup K (tvc fTxt (tv1 fTxt)))) (l := fun _ => p0) C (fe_var 0 (hs := gives_V)) (src_p 0 ls_b (fun _ => rfl)) (.of rfl (Le.imp (.keep (.keep (.keep (.keep .nil)))))) (fg_name 2 C.nd) (fun s4 a5 => (fs_app 1 (A := fTxt) (as := s4) rfl (fe_var 1 (hs := gives_V)) (fv_ix ix_tup (ol_ixT part0) (fe_var 2 (hs := gives_v)) fe_int) fun v6 => (fs_app 1 (A := fTxt) (as := (s4 ++ [v6])) rfl (fe_var 1 (hs := gives_V)) (fv_ix ix_tup (ol_ixT (partS part1)) (fe_var 2 (hs := gives_v)) fe_int) fun v7 => (fs_nil (.of rfl (Le.imp (.keep (.keep (.drop (.keep .nil))))))))))) fun s8 => (fs_retM 1 3 (fe_var 1 (hs := gives_V)) rfl (.of rfl (Le.imp (.drop (.keep (.keep (.keep .nil)))))))))))
abbrev st_Duties_remove_noted : Stmt := meth 14 2
theorem sc_Duties_remove_noted : FnScope ["self", "place", "number", "gone", "duty"] ["self", "place", "number"] (defScope st_Duties_remove_noted) := ⟨rfl, rfl, rfl, by decide +kernel, rfl, by decide +kernel, by decide +kernel⟩
theorem ok_Duties_remove_noted (KX : K.In h) (GN : h.Ns mainGlobals mg) (c : Sy fa fn fx K) : CalM P w K mg base (He.ga K "Duties") "remove_noted" ["self", "place", "number"] 2 (spG K (fun (a : (List (((List Nat) × (List Nat)) × Int)) × (List Nat) × Int × Unit) (u : Nat → V) => [(pn (u 0) (ob (tBx (He.ga K "Duties") (U_Duties K)) a.1)), (sv fTxt a.2.1), (sv fInt a.2.2.1)]) (fun a => Duties_remove_noted_m a.1 a.2.1 a.2.2.1) (fun (r : Bool × (List (((List Nat) × (List Nat)) × Int))) => sv fBool r.1) (fun (r : Bool × (List (((List Nat) × (List Nat)) × Int))) (u : Nat → V) => [((u 0), ob (tBx (He.ga K "Duties") (U_Duties K)) r.2)]) (fun e => e.1) (fun (e : Er × (List (((List Nat) × (List Nat)) × Int))) (u : Nat → V) => [((u 0), ob (tBx (He.ga K "Duties") (U_Duties K)) e.2)])) := by
  obtain ⟨fd, F⟩ := c.def_ 15 (d := mkM "Duties" "remove_noted" "Duties.remove_noted" 14 2) rfl
  refine ⟨_, fd, He.meth_ok (c.fact 28 (f := .meth "Duties" "remove_noted") rfl), F.bindsN (fun _ _ _ _ _ _ us hl => match us, hl with | [_, _, _], _ => rfl), ?_⟩
  refine fn_def (bm := fun (a : (List (((List Nat) × (List Nat)) × Int)) × (List Nat) × Int × Unit) => Duties_remove_noted_b a.1 a.2.1 a.2.2.1) (par := (fun (a : (List (((List Nat) × (List Nat)) × Int)) × (List Nat) × Int × Unit) (u : Nat → V) => [(pn (u 0) (ob (tBx (He.ga K "Duties") (U_Duties K)) a.1)), (sv fTxt a.2.1), (sv fInt a.2.2.1)])) (res := (fun (r : Bool × (List (((List Nat) × (List Nat)) × Int))) => sv fBool r.1)) (outs := (fun (r : Bool × (List (((List Nat) × (List Nat)) × Int))) (u : Nat → V) => [((u 0), ob (tBx (He.ga K "Duties") (U_Duties K)) r.2)])) (Eh := (fun u => (⟨fun e => e.1, fun e => [some (pn (u 0) (bx (He.ga K "Duties") [("_numbers", ce (tDT kTT fInt) e.2)])), none, none, none, none, none, none, none, none]⟩ : EH (Er × (List (((List Nat) × (List Nat)) × Int)))))) (cls := (fun e => e.1)) (outsE := (fun (e : Er × (List (((List Nat) × (List Nat)) × Int))) (u : Nat → V) => [((u 0), ob (tBx (He.ga K "Duties") (U_Duties K)) e.2)])) (R := (fun u r v => [some (pn (u 0) (bx (He.ga K "Duties") [("_numbers", ce (tDT kTT fInt) r.2)])), none, none, none, none, some (pn v (sv fBool r.1)), none, none, none])) (Nx := (fun u (s : (List (((List Nat) × (List Nat)) × Int))) => [some (pn (u 0) (bx (He.ga K "Duties") [("_numbers", ce (tDT kTT fInt) s)])), none, none, none, none, none, none, none, none])) F sc_Duties_remove_noted  6 none [5, 0] [0] [0] (fun _ h => nomatch h) (fun _ _ => rfl) (by decide) (by decide) (fun _ _ => rfl) (fun _ _ _ => (.cons rfl (.cons rfl .nil))) (fun _ h => nomatch h) (fun _ _ => (.cons rfl .nil)) (by decide) (fun cdv A outer s H E C a u => ?_)
  obtain ⟨p0, p1, p2, _⟩ := a
  show FS _ _ _ _ [some (pn (u 0) (bx (He.ga K "Duties") [("_numbers", ce (tDT kTT fInt) p0)])), some (sv fTxt p1), some (sv fInt p2), none, none, none, none, none, none] _ (Duties_remove_noted_b p0 p1 p2) _ _ _
  unfold Duties_remove_noted_b
  exact (fs_setLcL 3 (p := (fun e => (e, p0))) (hp := ⟨fun _ => rfl, fun _ => (.of rfl (Le.imp (.keep (.drop (.drop (.keep (.keep (.keep (.keep (.keep (.keep .nil)))))))))))⟩) (A := (fTS (tvc fTxt (tv1 fTxt)))) (own := [("duty", 4)]) (Gw := [some (pn (u 0) (bx (He.ga K "Duties") [("_numbers", ce (tDT kTT fInt) p0)])), some (sv fTxt p1), some (sv fInt p2), none, none, none, none, none, none]) (c := fun (a1 : ((List Nat) × (List Nat))) => (M.ok (decide (a1.2 = p1))).bind fun b6 => if b6 = true then ((M.ok (p0)).bind fun d2 => (M.ok (a1)).bind fun k3 => oget (dget d2 k3)).bind fun x4 => (M.ok (p2)).bind fun x5 => M.ok (decide (x4 < x5)) else M.ok false) (f := fun (a1 : ((List Nat) × (List Nat))) => M.ok (a1)) C (fe_borrow (fe_methC0 (names := nm_Duties) C (ok_Duties_pairs KX GN c) (by decide) (He.cls_ok (c.fact 7 (f := .cls "Duties") rfl)) rfl (by decide +kernel) (ak_b ak_nil) rs_o (fe_var 0 (hs := (gives_pn (gives_o (T := (tBx (He.ga K "Duties") (U_Duties K))) (a := p0))))))) (.of rfl (Le.imp (.keep (.keep (.keep (.keep (.keep (.keep (.keep (.keep (.keep .nil))))))))))) (hw_of rfl) (blkOk_by (N := ["self", "place", "number", "gone", "duty"]) (sc := defScope st_Duties_remove_noted) (by decide +kernel)) (fun sq7 Hq7 Cq7 lq7 fq7 => (fg_name 4 (C.blk _ sq7 Hq7 Cq7 lq7 fq7).nd)) (fun a1 sq7 Hq7 Cq7 lq7 fq7 => (fts_one (fw_t (fw_and (tv_cmp op_eq ol_eqS (fv_ix ix_tup (ol_ixT (partS part1)) (fe_sw (fe_var 4 (hs := gives_v))) fe_int) (fe_var 1 (hs := gives_v))) (fw_and1 (ft_cmp op_lt (fun _ _ => ol_B0) (fe_dgetT (T := kTT) (A := fInt) (C.blk _ sq7 Hq7 Cq7 lq7 fq7) (fe_fldN 0 (fe_var 0 (hs := (gives_pn (gives_o (T := tB (He.ga K "Duties")) (a := [("_numbers", ce (tDT kTT fInt) p0)]))))) cg_b nd_Duties (He.cls_ok (c.fact 7 (f := .cls "Duties") rfl)) (He.noat_ok (c.fact 8 (f := .noat "Duties" "_numbers") rfl))) (fe_var 4 (hs := gives_v))) (fe_var 2 (hs := gives_v)))))))) (fun a1 sq7 Hq7 Cq7 lq7 fq7 => (fe_var 4 (hs := gives_v))) fun v9 => (fs_pin 3 rfl fun V10 => (fs_seq (N1 := (fun (s15 : (List (((List Nat) × (List Nat)) × Int))) => [some (pn (u 0) (bx (He.ga K "Duties") [("_numbers", ce (tDT kTT fInt) s15)])), some (sv fTxt p1), some (sv fInt p2), some (pn V10 (ob (tL K (fTS (tvc fTxt (tv1 fTxt)))) v9)), none, none, none, none, none])) (pv_forF (Gs := (fun (s11 : (List (((List Nat) × (List Nat)) × Int))) => [some (pn (u 0) (bx (He.ga K "Duties") [("_numbers", ce (tDT kTT fInt) s11)])), some (sv fTxt p1), some (sv fInt p2), some (pn V10 (ob (tL K (fTS (tvc fTxt (tv1 fTxt)))) v9)), none, none, none, none, none])) (tl' := [4, 0]) (x0 := p0) (A := (fTS (tvc fTxt (tv1 fTxt)))) (l := fun _ => v9) (p := (fun e => (e, p0))) (hp := ⟨fun _ => rfl, fun _ => (.of rfl (Le.imp (.keep (.drop (.drop (.drop (.keep (.keep (.keep (.keep (.keep .nil)))))))))))⟩) C (fe_var 3 (hs := gives_V)) (src_p 3 ls_o (fun _ => rfl)) (.of rfl (Le.imp (.keep (.keep (.keep (.keep (.keep (.keep (.keep (.keep (.keep .nil))))))))))) (fg_name 4 C.nd) (fun s11 a12 => (fs_openN (q := (u 0)) (C := (He.ga K "Duties")) (l := [("_numbers", ce (tDT kTT fInt) s11)]) (f := "_numbers") (T := (tDT kTT fInt)) (a := s11) 0 6 0 nd_Duties fun W13 => (fs_re (G1 := [some (pn (u 0) (bx (He.ga K "Duties") [("_numbers", ce (tF fVal) W13)])), some (sv fTxt p1), some (sv fInt p2), some (pn V10 (ob (tL K (fTS (tvc fTxt (tv1 fTxt)))) v9)), some (sv (fTS (tvc fTxt (tv1 fTxt))) a12), none, some (pn W13 (ob (tDT kTT fInt) s11)), none, none]) (fs_ddelT (j := 6) (T := kTT) (A := fInt) (d := s11) (p := (fun e => (e, s11))) (hp := ⟨fun _ => rfl, fun _ => (.of rfl (Imp.trans (Imp.closeN (q := (u 0)) (w := W13) (C := (He.ga K "Duties")) (l := [("_numbers", ce (tF fVal) W13)]) (f := "_numbers") (T := (tDT kTT fInt)) (a := s11) (k := 0) (g := 6) 0 nd_Duties) (.of rfl (Le.imp (.keep (.drop (.drop (.drop (.drop (.keep (.keep (.keep (.keep .nil)))))))))))))⟩) C rfl (fe_fldN 0 (fe_var 0 (hs := (gives_pn (gives_o (T := tB (He.ga K "Duties")) (a := [("_numbers", ce (tF fVal) W13)]))))) cg_V nd_Duties (He.cls_ok (c.fact 7 (f := .cls "Duties") rfl)) (He.noat_ok (c.fact 8 (f := .noat "Duties" "_numbers") rfl))) (fe_var 4 (hs := gives_v)) fun k14 => (fs_nil (.of rfl (Imp.trans (Imp.closeN (q := (u 0)) (w := W13) (C := (He.ga K "Duties")) (l := [("_numbers", ce (tF fVal) W13)]) (f := "_numbers") (T := (tDT kTT fInt)) (a := (ddel s11 k14)) (k := 0) (g := 6) 0 nd_Duties) (.of rfl (Le.imp (.keep (.keep (.keep (.keep (.drop (.keep (.keep (.keep (.keep .nil))))))))))))))))))) fun s15 => (fv_ret 5 (T := (sv fBool)) (mk := fun r16 => (r16, s15)) (p := (fun e => (e, s15))) (hp := ⟨fun _ => rfl, fun _ => (.of rfl (Le.imp (.keep (.drop (.drop (.drop (.keep (.keep (.keep (.keep (.keep .nil)))))))))))⟩) (fv_cmp op_gt ol_B0 (fv_callB call_len cl_lenL (He.free_ok KX GN (c.fact 0 (f := .free "len") rfl)) (va_cons (fe_var 3 (hs := (gives_pn gives_o))) fa_nil)) fe_int) tk_v (fun _ _ => (.of rfl (Le.imp (.keep (.drop (.drop (.drop (.keep (.keep (.keep (.keep (.keep .nil))))))))))))))))
abbrev st_law_refused : Stmt := top 22
theorem sc_law_refused : FnScope ["_law_text", "why"] ["_law_text"] (defScope st_law_refused) := ⟨rfl, rfl, rfl, by decide +kernel, rfl, by decide +kernel, by decide +kernel⟩
theorem ok_law_refused (KX : K.In h) (GN : h.Ns mainGlobals mg) (c : Sy fa fn fx K) : Cal P w K mg base "_law_refused" ["_law_text"] 5 (spP K (fun (a : (List Nat) × Unit) => [(sv fTxt a.1)]) (fun a => law_refused_m a.1) (sv fBool)) := by
  obtain ⟨fd, F⟩ := c.def_ 16 (d := mkD "_law_refused" 22) rfl
  refine ⟨_, fd, (He.glo_ok KX GN (c.fact 32 (f := .glo "_law_refused") rfl)), F.kp, F.bindsN (fun _ _ _ _ _ _ us hl => match us, hl with | [_], _ => rfl), ?_⟩
  refine fn_def (bm := fun (a : (List Nat) × Unit) => law_refused_b a.1) (par := (fun (a : (List Nat) × Unit) (_ : Nat → V) => [(sv fTxt a.1)])) (res := (sv fBool)) (outs := (fun _ _ => [])) (Eh := (fun _ => eh0 3)) (cls := (fun e => e)) (outsE := (fun _ _ => [])) (R := (fun u r v => [none, none, some (pn v (sv fBool r))])) (Nx := (fun u (s : Unit) => [none, none, none])) F sc_law_refused  2 none [2] [] [] (fun _ h => nomatch h) (fun _ _ => rfl) (by decide) (by decide) (fun _ _ => rfl) (fun _ _ _ => (.cons rfl .nil)) (fun _ h => nomatch h) (fun _ _ => .nil) (by decide) (fun cdv A outer s H E C a u => ?_)
  obtain ⟨p0, _⟩ := a
  show FS _ _ _ _ [some (sv fTxt p0), none, none] _ (law_refused_b p0) _ _ _
  unfold law_refused_b
  exact (fs_seq (N1 := (fun (s2 : Unit) => [some (sv fTxt p0), none, none])) (ps_try (E1 := (⟨fun e1 => e1, fun e1 => [some (sv fTxt p0), none, none]⟩ : EH (Er))) C (hw_as (i := 1) (tab := [(.badForm, true)]) (m := fun (e1 : Er) => (exI [(.badForm, true)] e1).bind fun r10 => M.ok (.ret r10)) (p := fun (e1 : Er) => e1) C rfl rfl (by rfl) (by rfl) (nm_cls (He.glo_ok KX GN (c.fact 13 (f := .glo "BadForm") rfl))) (lk_cons (e0 := .badForm) (b0 := true) (He.exm_ok (c.fact 31 (f := .exm "BadForm" "BadForm" true) rfl)) lk_nil) (by decide) (fun _ => Nat.le_of_ble_eq_true (by rfl)) (fun _ => noS rfl) (fun _ => noS rfl) (fun _ => rfl) (fun _ => Le.imp (Le.none rfl)) (fun e1 a4 oe8 pn9 he7 hz5 hv6 => (fs_ret 2 (T := (sv fBool)) (mk := fun r10 => r10) (fv_callB (call_isE ((lk_cons (P := fun e _ => ExcC K (He.ga K e.name)) (e0 := .badForm) (b0 := true) (xExc_ok (c.ex 0 (f := xExc "BadForm") rfl)) (lk_nil (P := fun e _ => ExcC K (He.ga K e.name)))) e1 true he7) hz5 hv6) (cl_isE1 (e := e1) (tab := [(.badForm, true)]) (lk_cons (e0 := .badForm) (b0 := true) (xKit_ok (c.ex 1 (f := xKit "BadForm" "LetheError" true) rfl)) lk_nil)) (He.free_ok KX GN (c.fact 30 (f := .free "isinstance") rfl)) (va_cons (fe_var 1 (hs := gives_v)) (va_cons (fe_cls (He.glo_ok KX GN (c.fact 29 (f := .glo "LetheError") rfl))) fa_nil))) tk_v (fun _ _ => (.of rfl (Le.imp (.drop (.drop (.keep .nil))))))))) (fun W' pnv xev C => (fs_expr (p := (fun e => e)) (hp := ⟨fun _ => rfl, fun _ => (.of rfl (Le.imp (.keep (.keep (.keep .nil)))))⟩) (fv_callC C (ok_load_duties KX GN c) (by decide) (ak_v (ak_v ak_nil)) rs_o (va_cons (fe_var 0 (hs := gives_v)) (va_cons fe_int fa_nil))) fun u3 => (fs_nil (.of rfl (Le.imp (.keep (.keep (.keep .nil))))))))) fun s2 => (fv_ret 2 (T := (sv fBool)) (mk := fun r11 => r11) fe_bool tk_v (fun _ _ => (.of rfl (Le.imp (.drop (.keep (.keep .nil))))))))
abbrev st_law : Stmt := top 23
theorem sc_law : FnScope ["_law_script", "_law_row_here", "_law_names_here", "_law_number", "_law_pairs", "_law_k", "_law_pair", "_law_text", "_law_made", "_law_duties", "_law_place", "_law_strange", "_law_one", "_law_bad"] ["_law_script"] (defScope st_law) := ⟨rfl, rfl, rfl, by decide +kernel, rfl, by decide +kernel, by decide +kernel⟩
theorem ok_law (KX : K.In h) (GN : h.Ns mainGlobals mg) (c : Sy fa fn fx K) : ∃ fd : FuncData, (∀ (s : Shared) (v : Value), BindsTo s fd ⟨[v], []⟩ [("_law_script", v)]) ∧ ∀ base : Heap, FnOk P w K mg base (L2.CX P w) 6 (He.ga K "law") fd ["_law_script"] (spP K (fun (a : (List (Int)) × Unit) => [(bw (tL K fInt) a.1)]) (fun a => law_m a.1) (sv fBool)) := by
  obtain ⟨fd, F⟩ := c.def_ 17 (d := mkD "law" 23) rfl
  refine ⟨fd, fun s v => (FunD.bindsA (ps := ["_law_script"]) F fun _ _ _ _ _ _ us hl => match us, hl with | [_], _ => rfl) s [v] rfl, fun base => ?_⟩
  refine fn_def (bm := fun (a : (List (Int)) × Unit) => law_b a.1) (par := (fun (a : (List (Int)) × Unit) (_ : Nat → V) => [(bw (tL K fInt) a.1)])) (res := (sv fBool)) (outs := (fun _ _ => [])) (Eh := (fun _ => eh0 18)) (cls := (fun e => e)) (outsE := (fun _ _ => [])) (R := (fun u r v => [none, none, none, none, none, none, none, none, none, none, none, none, none, none, some (pn v (sv fBool r)), none, none, none])) (Nx := (fun u (s : Unit) => [none, none, none, none, none, none, none, none, none, none, none, none, none, none, none, none, none, none])) F sc_law  17 none [14] [] [] (fun _ h => nomatch h) (fun _ _ => rfl) (by decide) (by decide) (fun _ _ => rfl) (fun _ _ _ => (.cons rfl .nil)) (fun _ h => nomatch h) (fun _ _ => .nil) (by decide) (fun cdv A outer s H E C a u => ?_)
  obtain ⟨p0, _⟩ := a
  show FS _ _ _ _ [some (bw (tL K fInt) p0), none, none, none, none, none, none, none, none, none, none, none, none, none, none, none, none, none] _ (law_b p0) _ _ _
  unfold law_b
  exact (fs_set 1 (T := ob (tL K fInt)) C.nd (fv_callC C (ok_law_row KX GN c) (by decide) (ak_b ak_nil) rs_o (va_cons (fe_var 0 (hs := gives_b)) fa_nil)) tk_o fun v1 => (fs_set 2 (T := ob (tL K fTxt)) C.nd (fe_callC C (ok_law_names KX GN c) (by decide) (ak_v ak_nil) rs_o (fa_cons (fv_callC C (ok_law_at KX GN c) (by decide) (ak_b (ak_v ak_nil)) rs_v (va_cons (fe_var 1 (hs := gives_o)) (va_cons fe_int fa_nil))) fa_nil)) tk_o fun v5 => (fs_set 3 (T := sv fInt) C.nd (fe_binr op_mod (fun _ => (ol_Ic (by decide))) (fe_callTy call_int1 (fun _ => cl_int) (He.free_ok KX GN (c.fact 1 (f := .free "int") rfl)) (fa_cons (fv_callC C (ok_law_at KX GN c) (by decide) (ak_b (ak_v ak_nil)) rs_v (va_cons (fe_var 1 (hs := gives_o)) (va_cons fe_int fa_nil))) fa_nil)) fe_int) tk_v fun v10 => (fs_set 4 (T := ob (tL K (fTup K (tvc fTxt (tv1 fTxt))))) C.nd fe_nil tk_o fun v11 => (fs_pin 4 rfl fun V18 => (fs_seq (N1 := (fun (s47 : (List (((List Nat) × (List Nat))))) => [some (bw (tL K fInt) p0), some (ob (tL K fInt) v1), some (ob (tL K fTxt) v5), some (sv fInt v10), some (pn V18 (ob (tL K (fTup K (tvc fTxt (tv1 fTxt)))) s47)), none, none, none, none, none, none, none, none, none, none, none, none, none])) (ps_forR (Gs := (fun (s25 : (List (((List Nat) × (List Nat))))) => [some (bw (tL K fInt) p0), some (ob (tL K fInt) v1), some (ob (tL K fTxt) v5), some (sv fInt v10), some (pn V18 (ob (tL K (fTup K (tvc fTxt (tv1 fTxt)))) s25)), none, none, none, none, none, none, none, none, none, none, none, none, none])) (tl' := [5, 6, 4]) (x0 := v11) C (He.free_ok KX GN (c.fact 3 (f := .free "range") rfl)) (fe_bin op_add (fun _ _ => ol_I0) fe_int (fe_binr op_mod (fun _ => (ol_Ic (by decide))) (fe_callTy call_int1 (fun _ => cl_int) (He.free_ok KX GN (c.fact 1 (f := .free "int") rfl)) (fa_cons (fv_callC C (ok_law_at KX GN c) (by decide) (ak_b (ak_v ak_nil)) rs_v (va_cons (fe_var 1 (hs := gives_o)) (va_cons fe_int fa_nil))) fa_nil)) fe_int)) (.of rfl (Le.imp (.keep (.keep (.keep (.keep (.keep (.keep (.keep (.keep (.keep (.keep (.keep (.keep (.keep (.keep (.keep (.keep (.keep (.keep .nil)))))))))))))))))))) (fg_name 5 C.nd) (fun s25 a26 => (fs_set 6 (T := sv (fTup K (tvc fTxt (tv1 fTxt)))) C.nd (fe_tup (fa_cons (fe_ix ix_list (fun _ _ => ol_ixL) (fe_var 2 (hs := gives_o)) (fe_binr op_mod (fun _ => (ol_Ic (by decide))) (fe_callTy call_int1 (fun _ => cl_int) (He.free_ok KX GN (c.fact 1 (f := .free "int") rfl)) (fa_cons (fv_callC C (ok_law_at KX GN c) (by decide) (ak_b (ak_v ak_nil)) rs_v (va_cons (fe_var 1 (hs := gives_o)) (va_cons (fv_bin op_add ol_I0 fe_int (fe_var 5 (hs := gives_v))) fa_nil))) fa_nil)) fe_int)) (fa_cons (fe_ix ix_list (fun _ _ => ol_ixL) (fe_borrow (fv_list (va_cons fe_str (va_cons fe_str (va_cons fe_str fa_nil))) (lo_cons (lo_cons (lo_cons lo_nil))))) (fe_binr op_mod (fun _ => (ol_Ic (by decide))) (fe_callTy call_int1 (fun _ => cl_int) (He.free_ok KX GN (c.fact 1 (f := .free "int") rfl)) (fa_cons (fe_binr op_fdiv (fun _ => (ol_Ic ⟨by decide, by decide⟩)) (fv_callC C (ok_law_at KX GN c) (by decide) (ak_b (ak_v ak_nil)) rs_v (va_cons (fe_var 1 (hs := gives_o)) (va_cons (fv_bin op_add ol_I0 fe_int (fe_var 5 (hs := gives_v))) fa_nil))) fe_int) fa_nil)) fe_int)) fa_nil)) (to_c to_1) (szl (szc (szc sz0)))) tk_v fun v45 => (fv_ifend (tv_cmp (op_notInD C.u65) (ol_ninL (dTup (dtc dTxt (dt1 dTxt)))) (fe_var 6 (hs := gives_v)) (fe_var 4 (hs := (gives_pn gives_o)))) (fs_app 4 (A := (fTup K (tvc fTxt (tv1 fTxt)))) (as := s25) rfl (fe_var 4 (hs := gives_V)) (fe_var 6 (hs := gives_v)) fun v46 => (fs_nil (.of rfl (Le.imp (.keep (.keep (.keep (.keep (.keep (.drop (.drop (.keep (.keep (.keep (.keep (.keep (.keep (.keep (.keep (.keep (.keep (.keep .nil)))))))))))))))))))))) (fs_nil (.of rfl (Le.imp (.keep (.keep (.keep (.keep (.keep (.drop (.drop (.keep (.keep (.keep (.keep (.keep (.keep (.keep (.keep (.keep (.keep (.keep .nil))))))))))))))))))))))))) fun s47 => (fs_set 4 (T := ob (tL K (fTup K (tvc fTxt (tv1 fTxt))))) C.nd (fv_callB cr_sortA (cl_sortE (enc := (fun (a : ((List Nat) × (List Nat))) => [At.t a.1, At.t a.2])) (en_c ea_t (en_1 ea_t)) (fun _ h => nomatch h)) (He.free_ok KX GN (c.fact 19 (f := .free "sorted") rfl)) (va_cons (fe_var 4 (hs := (gives_pn gives_o))) fa_nil)) tk_o fun v48 => (fs_set 7 (T := sv fTxt) C.nd (fe_callC C (ok_law_pack KX GN c) (by decide) (ak_b ak_nil) rs_v (fa_cons (fe_borrow (fv_callC C (ok_law_flat KX GN c) (by decide) (ak_b ak_nil) rs_o (va_cons (fe_var 4 (hs := gives_o)) fa_nil))) fa_nil)) tk_v fun v52 => (fs_set 8 (T := fun (v191 : List (((List Nat) × (List Nat)) × Int)) => (bx (He.ga K "Duties") [("_numbers", ce (tDT kTT fInt) v191)])) C.nd (fe_make0 C (ok_Duties_init KX GN c) (by decide) ak_nil) tk_o fun v53 => (fs_pin 8 rfl fun V54 => (fs_pin 4 rfl fun V55 => (fs_seq (N1 := (fun (s62 : (List (((List Nat) × (List Nat)) × Int))) => [some (bw (tL K fInt) p0), some (ob (tL K fInt) v1), some (ob (tL K fTxt) v5), some (sv fInt v10), some (pn V55 (ob (tL K (fTup K (tvc fTxt (tv1 fTxt)))) v48)), none, none, some (sv fTxt v52), some (pn V54 (bx (He.ga K "Duties") [("_numbers", ce (tDT kTT fInt) s62)])), none, none, none, none, none, none, none, none, none])) (pv_forF (Gs := (fun (s56 : (List (((List Nat) × (List Nat)) × Int))) => [some (bw (tL K fInt) p0), some (ob (tL K fInt) v1), some (ob (tL K fTxt) v5), some (sv fInt v10), some (pn V55 (ob (tL K (fTup K (tvc fTxt (tv1 fTxt)))) v48)), none, none, some (sv fTxt v52), some (pn V54 (bx (He.ga K "Duties") [("_numbers", ce (tDT kTT fInt) s56)])), none, none, none, none, none, none, none, none, none])) (tl' := [6, 8]) (x0 := v53) (A := (fTup K (tvc fTxt (tv1 fTxt)))) (l := fun _ => v48) C (fe_var 4 (hs := gives_V)) (src_p 4 ls_o (fun _ => rfl)) (.of rfl (Le.imp (.keep (.keep (.keep (.keep (.keep (.keep (.keep (.keep (.keep (.keep (.keep (.keep (.keep (.keep (.keep (.keep (.keep (.keep .nil)))))))))))))))))))) (fg_name 6 C.nd) (fun s56 a57 => (fx_expr (fx_meth (A := fun (_ : List (((List Nat) × (List Nat)) × Int)) (_ : Hp) (v : V) => v = .non) (names := nm_Duties) (g := fun a58 => (s56, a58.1, a58.2.1, a58.2.2.1, ())) (ks := [8]) (kt := [8]) (kte := [8]) (κ := [some 8, none, none, none]) (w := (fun | 0 => V54 | _ => .non)) (q := (fun (e61 : Er × (List (((List Nat) × (List Nat)) × Int))) => e61.1)) 8 C (ok_Duties_note KX GN c) (by decide) (He.cls_ok (c.fact 7 (f := .cls "Duties") rfl)) rfl (by decide +kernel) rfl (gives_o (T := (tBx (He.ga K "Duties") (U_Duties K))) (a := s56)) (fe_var 8 (hs := gives_V)) (va_cons (fv_ix ix_tup (ol_ixT part0) (fe_var 6 (hs := gives_v)) fe_int) (va_cons (fv_ix ix_tup (ol_ixT (partS part1)) (fe_var 6 (hs := gives_v)) fe_int) (va_cons fe_int fa_nil))) (ag_cons (ag_p (q := V54) (T := (bx (He.ga K "Duties") [("_numbers", ce (tDT kTT fInt) s56)])) 8 rfl) (ag_cons ag_v (ag_cons ag_v (ag_cons ag_v ag_nil)))) ⟨own_all rfl, by decide, by decide, fun _ => (.pin rfl .nil), by decide, by decide, fun _ => (.pin rfl .nil), by decide, fun _ => rfl, (fun _ => Le.imp (Le.none rfl))⟩ (fun r Y F H v ms h => h.1)) fun z60 _ => (fs_re (G1 := [some (bw (tL K fInt) p0), some (ob (tL K fInt) v1), some (ob (tL K fTxt) v5), some (sv fInt v10), some (pn V55 (ob (tL K (fTup K (tvc fTxt (tv1 fTxt)))) v48)), none, some (sv (fTup K (tvc fTxt (tv1 fTxt))) a57), some (sv fTxt v52), some (pn V54 (bx (He.ga K "Duties") [("_numbers", ce (tDT kTT fInt) z60)])), none, none, none, none, none, none, none, none, none]) (fs_nil (.of rfl (Le.imp (.keep (.keep (.keep (.keep (.keep (.keep (.drop (.keep (.keep (.keep (.keep (.keep (.keep (.keep (.keep (.keep (.keep (.keep .nil))))))))))))))))))))))))) fun s62 => (fs_if1 (ft_cmp op_ne (fun _ _ => ol_neS) (fe_methC0 (names := nm_Duties) C (ok_Duties_image KX GN c) (by decide) (He.cls_ok (c.fact 7 (f := .cls "Duties") rfl)) rfl (by decide +kernel) (ak_b ak_nil) rs_v (fe_var 8 (hs := (gives_pn (gives_o (T := (tBx (He.ga K "Duties") (U_Duties K))) (a := s62)))))) (fe_var 7 (hs := gives_v))) (fun _ => (fv_ret 14 (T := (sv fBool)) (mk := fun r65 => r65) fe_bool tk_v (fun _ _ => (.of rfl (Le.imp (.drop (.drop (.drop (.drop (.drop (.keep (.keep (.drop (.drop (.keep (.keep (.keep (.keep (.keep (.keep (.keep (.keep (.keep .nil))))))))))))))))))))))) (fs_set 9 (T := fun (v189 : List (((List Nat) × (List Nat)) × Int)) => (bx (He.ga K "Duties") [("_numbers", ce (tDT kTT fInt) v189)])) C.nd (fv_callC C (ok_load_duties KX GN c) (by decide) (ak_v (ak_v ak_nil)) rs_o (va_cons (fe_var 7 (hs := gives_v)) (va_cons (fe_var 3 (hs := gives_v)) fa_nil))) tk_o fun v66 => (fs_if1 (fw_t (fw_or (ft_cmp (op_neD C.hr.units) (fun _ _ => (ol_neL (dTup (dtc dTxt (dt1 dTxt))))) (fe_borrow (fe_lswo (fe_methC0 (names := nm_Duties) C (ok_Duties_pairs KX GN c) (by decide) (He.cls_ok (c.fact 7 (f := .cls "Duties") rfl)) rfl (by decide +kernel) (ak_b ak_nil) rs_o (fe_var 9 (hs := (gives_o (T := (tBx (He.ga K "Duties") (U_Duties K))) (a := v66))))))) (fe_var 4 (hs := (gives_pn gives_o)))) (fw_or1 (ft_cmp op_ne (fun _ _ => ol_neS) (fe_methC0 (names := nm_Duties) C (ok_Duties_image KX GN c) (by decide) (He.cls_ok (c.fact 7 (f := .cls "Duties") rfl)) rfl (by decide +kernel) (ak_b ak_nil) rs_v (fe_var 9 (hs := (gives_o (T := (tBx (He.ga K "Duties") (U_Duties K))) (a := v66))))) (fe_var 7 (hs := gives_v)))))) (fun _ => (fv_ret 14 (T := (sv fBool)) (mk := fun r72 => r72) fe_bool tk_v (fun _ _ => (.of rfl (Le.imp (.drop (.drop (.drop (.drop (.drop (.keep (.keep (.drop (.drop (.drop (.keep (.keep (.keep (.keep (.keep (.keep (.keep (.keep .nil))))))))))))))))))))))) (fs_pin 9 rfl fun V73 => (fs_seq (N1 := (fun (s93 : (List (((List Nat) × (List Nat)) × Int))) => [some (bw (tL K fInt) p0), some (ob (tL K fInt) v1), some (ob (tL K fTxt) v5), some (sv fInt v10), some (pn V55 (ob (tL K (fTup K (tvc fTxt (tv1 fTxt)))) v48)), none, none, some (sv fTxt v52), some (pn V54 (bx (He.ga K "Duties") [("_numbers", ce (tDT kTT fInt) s62)])), some (pn V73 (bx (He.ga K "Duties") [("_numbers", ce (tDT kTT fInt) s93)])), none, none, none, none, none, none, none, none])) (pv_forF (Gs := (fun (s74 : (List (((List Nat) × (List Nat)) × Int))) => [some (bw (tL K fInt) p0), some (ob (tL K fInt) v1), some (ob (tL K fTxt) v5), some (sv fInt v10), some (pn V55 (ob (tL K (fTup K (tvc fTxt (tv1 fTxt)))) v48)), none, none, some (sv fTxt v52), some (pn V54 (bx (He.ga K "Duties") [("_numbers", ce (tDT kTT fInt) s62)])), some (pn V73 (bx (He.ga K "Duties") [("_numbers", ce (tDT kTT fInt) s74)])), none, none, none, none, none, none, none, none])) (tl' := [10, 9]) (x0 := v66) (A := fTxt) C (fe_freeze (fv_list (va_cons fe_str (va_cons fe_str (va_cons fe_str fa_nil))) (lo_cons (lo_cons (lo_cons lo_nil))))) src_f (.of rfl (Le.imp (.keep (.keep (.keep (.keep (.keep (.keep (.keep (.keep (.keep (.keep (.keep (.keep (.keep (.keep (.keep (.keep (.keep (.keep .nil)))))))))))))))))))) (fg_name 10 C.nd) (fun s74 a75 => (fx_if1 (fxt_val (tb := fun (z78 : Bool × (List (((List Nat) × (List Nat)) × Int))) => z78.1) (fx_meth (A := (Rf.on (fun (z78 : Bool × (List (((List Nat) × (List Nat)) × Int))) => z78.1) fBool).r) (names := nm_Duties) (g := fun a76 => (s74, a76.1, a76.2.1, ())) (ks := [9]) (kt := [9]) (kte := [9]) (κ := [some 9, none, none]) (w := (fun | 0 => V73 | _ => .non)) (q := (fun (e79 : Er × (List (((List Nat) × (List Nat)) × Int))) => e79.1)) 9 C (ok_Duties_remove_noted KX GN c) (by decide) (He.cls_ok (c.fact 7 (f := .cls "Duties") rfl)) rfl (by decide +kernel) rfl (gives_o (T := (tBx (He.ga K "Duties") (U_Duties K))) (a := s74)) (fe_var 9 (hs := gives_V)) (va_cons (fe_var 10 (hs := gives_v)) (va_cons (fe_var 3 (hs := gives_v)) fa_nil)) (ag_cons (ag_p (q := V73) (T := (bx (He.ga K "Duties") [("_numbers", ce (tDT kTT fInt) s74)])) 9 rfl) (ag_cons ag_v (ag_cons ag_v ag_nil))) ⟨own_all rfl, by decide, by decide, fun _ => (.pin rfl .nil), by decide, by decide, fun _ => (.pin rfl .nil), by decide, fun _ => rfl, (fun _ => Le.imp (Le.none rfl))⟩ (fun r Y F H v ms h => h.1))) (fun z78 _ => (fs_re (G1 := [some (bw (tL K fInt) p0), some (ob (tL K fInt) v1), some (ob (tL K fTxt) v5), some (sv fInt v10), some (pn V55 (ob (tL K (fTup K (tvc fTxt (tv1 fTxt)))) v48)), none, none, some (sv fTxt v52), some (pn V54 (bx (He.ga K "Duties") [("_numbers", ce (tDT kTT fInt) s62)])), some (pn V73 (bx (He.ga K "Duties") [("_numbers", ce (tDT kTT fInt) z78.2)])), some (sv fTxt a75), none, none, none, none, none, none, none]) (fv_ret 14 (T := (sv fBool)) (mk := fun r80 => r80) fe_bool tk_v (fun _ _ => (.of rfl (Le.imp (.drop (.drop (.drop (.drop (.drop (.keep (.keep (.drop (.drop (.drop (.drop (.keep (.keep (.keep (.keep (.keep (.keep (.keep .nil)))))))))))))))))))))))) (fun z78 => (fs_re (G1 := [some (bw (tL K fInt) p0), some (ob (tL K fInt) v1), some (ob (tL K fTxt) v5), some (sv fInt v10), some (pn V55 (ob (tL K (fTup K (tvc fTxt (tv1 fTxt)))) v48)), none, none, some (sv fTxt v52), some (pn V54 (bx (He.ga K "Duties") [("_numbers", ce (tDT kTT fInt) s62)])), some (pn V73 (bx (He.ga K "Duties") [("_numbers", ce (tDT kTT fInt) z78.2)])), some (sv fTxt a75), none, none, none, none, none, none, none]) (fx_ifend (fxt_cmpG (y := fun (z84 : Bool × (List (((List Nat) × (List Nat)) × Int))) => z84.1) (g := fun (z84 : Bool × (List (((List Nat) × (List Nat)) × Int))) x90 => !decide (z84.1 = x90)) (A := fBool) (N1 := fun (z84 : Bool × (List (((List Nat) × (List Nat)) × Int))) => [some (bw (tL K fInt) p0), some (ob (tL K fInt) v1), some (ob (tL K fTxt) v5), some (sv fInt v10), some (pn V55 (ob (tL K (fTup K (tvc fTxt (tv1 fTxt)))) v48)), none, none, some (sv fTxt v52), some (pn V54 (bx (He.ga K "Duties") [("_numbers", ce (tDT kTT fInt) s62)])), some (pn V73 (bx (He.ga K "Duties") [("_numbers", ce (tDT kTT fInt) z84.2)])), some (sv fTxt a75), none, none, none, none, none, none, none]) (p := fun (z84 : Bool × (List (((List Nat) × (List Nat)) × Int))) => (fun e => e)) (fun (z84 : Bool × (List (((List Nat) × (List Nat)) × Int))) x90 => (!decide (z84.1 = x90), z84.2)) (fun (d81 : Bool × (List (((List Nat) × (List Nat)) × Int))) => d81.1) (fun (d81 : Bool × (List (((List Nat) × (List Nat)) × Int))) => [some (bw (tL K fInt) p0), some (ob (tL K fInt) v1), some (ob (tL K fTxt) v5), some (sv fInt v10), some (pn V55 (ob (tL K (fTup K (tvc fTxt (tv1 fTxt)))) v48)), none, none, some (sv fTxt v52), some (pn V54 (bx (He.ga K "Duties") [("_numbers", ce (tDT kTT fInt) s62)])), some (pn V73 (bx (He.ga K "Duties") [("_numbers", ce (tDT kTT fInt) d81.2)])), some (sv fTxt a75), none, none, none, none, none, none, none]) op_ne (fun _ _ => ol_neB) (fx_meth (A := (Rf.on (fun (z84 : Bool × (List (((List Nat) × (List Nat)) × Int))) => z84.1) fBool).r) (names := nm_Duties) (g := fun a82 => (z78.2, a82.1, a82.2.1, ())) (ks := [9]) (kt := [9]) (kte := [9]) (κ := [some 9, none, none]) (w := (fun | 0 => V73 | _ => .non)) (q := (fun (e85 : Er × (List (((List Nat) × (List Nat)) × Int))) => e85.1)) 9 C (ok_Duties_remove_noted KX GN c) (by decide) (He.cls_ok (c.fact 7 (f := .cls "Duties") rfl)) rfl (by decide +kernel) rfl (gives_o (T := (tBx (He.ga K "Duties") (U_Duties K))) (a := z78.2)) (fe_var 9 (hs := gives_V)) (va_cons (fe_var 10 (hs := gives_v)) (va_cons (fv_bin op_add ol_I0 (fe_var 3 (hs := gives_v)) fe_int) fa_nil)) (ag_cons (ag_p (q := V73) (T := (bx (He.ga K "Duties") [("_numbers", ce (tDT kTT fInt) z78.2)])) 9 rfl) (ag_cons ag_v (ag_cons ag_v ag_nil))) ⟨own_all rfl, by decide, by decide, fun _ => (.pin rfl .nil), by decide, by decide, fun _ => (.pin rfl .nil), by decide, fun _ => rfl, (fun _ => Le.imp (Le.none rfl))⟩ (fun r Y F H v ms h => h.1)) (fun z84 => (fe_cmp (op_inD C.u65) (fun _ _ => (ol_inL dTxt)) (fe_var 10 (hs := gives_v)) (fe_borrow (fv_lcL (A := (fTup K (tvc fTxt (tv1 fTxt)))) (own := [("_law_pair", 6)]) (Gw := [some (bw (tL K fInt) p0), some (ob (tL K fInt) v1), some (ob (tL K fTxt) v5), some (sv fInt v10), some (pn V55 (ob (tL K (fTup K (tvc fTxt (tv1 fTxt)))) v48)), none, none, some (sv fTxt v52), some (pn V54 (bx (He.ga K "Duties") [("_numbers", ce (tDT kTT fInt) s62)])), some (pn V73 (bx (He.ga K "Duties") [("_numbers", ce (tDT kTT fInt) z84.2)])), some (sv fTxt a75), none, none, none, none, none, none, none]) (c := fun (a86 : ((List Nat) × (List Nat))) => M.ok (true)) (f := fun (a86 : ((List Nat) × (List Nat))) => M.ok (a86.2)) C (fe_var 4 (hs := (gives_pn gives_o))) (.of rfl (Le.imp (.keep (.keep (.keep (.keep (.keep (.keep (.keep (.keep (.keep (.keep (.keep (.keep (.keep (.keep (.keep (.keep (.keep (.keep .nil)))))))))))))))))))) (hw_of rfl) (blkOk_by (N := ["_law_script", "_law_row_here", "_law_names_here", "_law_number", "_law_pairs", "_law_k", "_law_pair", "_law_text", "_law_made", "_law_duties", "_law_place", "_law_strange", "_law_one", "_law_bad"]) (sc := defScope st_law) (by decide +kernel)) (fun sq87 Hq87 Cq87 lq87 fq87 => (fg_name 6 (C.blk _ sq87 Hq87 Cq87 lq87 fq87).nd)) (fun a86 sq87 Hq87 Cq87 lq87 fq87 => fts_nil) (fun a86 sq87 Hq87 Cq87 lq87 fq87 => (fv_ix ix_tup (ol_ixT (partS part1)) (fe_var 6 (hs := gives_v)) fe_int))))))) (fun z91 => (fs_re (G1 := [some (bw (tL K fInt) p0), some (ob (tL K fInt) v1), some (ob (tL K fTxt) v5), some (sv fInt v10), some (pn V55 (ob (tL K (fTup K (tvc fTxt (tv1 fTxt)))) v48)), none, none, some (sv fTxt v52), some (pn V54 (bx (He.ga K "Duties") [("_numbers", ce (tDT kTT fInt) s62)])), some (pn V73 (bx (He.ga K "Duties") [("_numbers", ce (tDT kTT fInt) z91.2)])), some (sv fTxt a75), none, none, none, none, none, none, none]) (fv_ret 14 (T := (sv fBool)) (mk := fun r92 => r92) fe_bool tk_v (fun _ _ => (.of rfl (Le.imp (.drop (.drop (.drop (.drop (.drop (.keep (.keep (.drop (.drop (.drop (.drop (.keep (.keep (.keep (.keep (.keep (.keep (.keep .nil)))))))))))))))))))))))) (fun z91 => (fs_re (G1 := [some (bw (tL K fInt) p0), some (ob (tL K fInt) v1), some (ob (tL K fTxt) v5), some (sv fInt v10), some (pn V55 (ob (tL K (fTup K (tvc fTxt (tv1 fTxt)))) v48)), none, none, some (sv fTxt v52), some (pn V54 (bx (He.ga K "Duties") [("_numbers", ce (tDT kTT fInt) s62)])), some (pn V73 (bx (He.ga K "Duties") [("_numbers", ce (tDT kTT fInt) z91.2)])), some (sv fTxt a75), none, none, none, none, none, none, none]) (fs_nil (.of rfl (Le.imp (.keep (.keep (.keep (.keep (.keep (.keep (.keep (.keep (.keep (.keep (.drop (.keep (.keep (.keep (.keep (.keep (.keep (.keep .nil))))))))))))))))))))))))))))) fun s93 => (fs_if1 (ft_cmp (op_neD C.hr.units) (fun _ _ => (ol_neL (dTup (dtc dTxt (dt1 dTxt))))) (fe_borrow (fe_lswo (fe_methC0 (names := nm_Duties) C (ok_Duties_pairs KX GN c) (by decide) (He.cls_ok (c.fact 7 (f := .cls "Duties") rfl)) rfl (by decide +kernel) (ak_b ak_nil) rs_o (fe_var 9 (hs := (gives_pn (gives_o (T := (tBx (He.ga K "Duties") (U_Duties K))) (a := s93)))))))) (fe_borrow fe_nil)) (fun _ => (fv_ret 14 (T := (sv fBool)) (mk := fun r96 => r96) fe_bool tk_v (fun _ _ => (.of rfl (Le.imp (.drop (.drop (.drop (.drop (.drop (.keep (.keep (.drop (.drop (.drop (.keep (.keep (.keep (.keep (.keep (.keep (.keep (.keep .nil))))))))))))))))))))))) (fs_set 11 (T := ob (tL K (fLst K (fTup K (tvc fTxt (tv1 fTxt)))))) C.nd (fe_list (fa_cons (fe_freeze (fv_list (va_cons (fv_tup (va_cons fe_str (va_cons fe_str fa_nil)) (to_c to_1) (szl (szc (szc sz0)))) fa_nil) (lo_cons lo_nil))) (fa_cons (fe_freeze (fe_list (fa_cons (fe_tup (fa_cons (fv_ix ix_list ol_ixL (fe_var 2 (hs := gives_o)) fe_int) (fa_cons fe_str fa_nil)) (to_c to_1) (szl (szc (szc sz0)))) fa_nil) (lo_cons lo_nil))) (fa_cons (fe_freeze (fv_list (va_cons (fv_tup (va_cons fe_str (va_cons fe_str fa_nil)) (to_c to_1) (szl (szc (szc sz0)))) fa_nil) (lo_cons lo_nil))) (fa_cons (fe_freeze (fe_list (fa_cons (fe_tup (fa_cons (fv_ix ix_list ol_ixL (fe_var 2 (hs := gives_o)) fe_int) (fa_cons fe_str fa_nil)) (to_c to_1) (szl (szc (szc sz0)))) fa_nil) (lo_cons lo_nil))) fa_nil)))) (lo_cons (lo_cons (lo_cons (lo_cons lo_nil))))) tk_o fun v122 => (fs_pin 11 rfl fun V123 => (fs_seq (N1 := (fun (s135 : Unit) => [some (bw (tL K fInt) p0), some (ob (tL K fInt) v1), some (ob (tL K fTxt) v5), some (sv fInt v10), some (pn V55 (ob (tL K (fTup K (tvc fTxt (tv1 fTxt)))) v48)), none, none, some (sv fTxt v52), some (pn V54 (bx (He.ga K "Duties") [("_numbers", ce (tDT kTT fInt) s62)])), some (pn V73 (bx (He.ga K "Duties") [("_numbers", ce (tDT kTT fInt) s93)])), none, some (pn V123 (ob (tL K (fLst K (fTup K (tvc fTxt (tv1 fTxt))))) v122)), none, none, none, none, none, none])) (pv_forF (Gs := (fun (s124 : Unit) => [some (bw (tL K fInt) p0), some (ob (tL K fInt) v1), some (ob (tL K fTxt) v5), some (sv fInt v10), some (pn V55 (ob (tL K (fTup K (tvc fTxt (tv1 fTxt)))) v48)), none, none, some (sv fTxt v52), some (pn V54 (bx (He.ga K "Duties") [("_numbers", ce (tDT kTT fInt) s62)])), some (pn V73 (bx (He.ga K "Duties") [("_numbers", ce (tDT kTT fInt) s93)])), none, some (pn V123 (ob (tL K (fLst K (fTup K (tvc fTxt (tv1 fTxt))))) v122)), none, none, none, none, none, none])) (tl' := [12]) (x0 := ()) (A := (fLst K (fTup K (tvc fTxt (tv1 fTxt))))) (l := fun _ => v122) C (fe_var 11 (hs := gives_V)) (src_p 11 ls_o (fun _ => rfl)) (.of rfl (Le.imp (.keep (.keep (.keep (.keep (.keep (.keep (.keep (.keep (.keep (.keep (.keep (.keep (.keep (.keep (.keep (.keep (.keep (.keep .nil)))))))))))))))))))) (fg_name 12 C.nd) (fun s124 a125 => (fs_ifend (ft_not (ft_val (fe_callC C (ok_law_refused KX GN c) (by decide) (ak_v ak_nil) rs_v (fa_cons (fe_callC C (ok_law_pack KX GN c) (by decide) (ak_b ak_nil) rs_v (fa_cons (fe_borrow (fv_callC C (ok_law_flat KX GN c) (by decide) (ak_b ak_nil) rs_o (va_cons (fe_read (fe_var 12 (hs := gives_v))) fa_nil))) fa_nil)) fa_nil)))) (fv_ret 14 (T := (sv fBool)) (mk := fun r133 => r133) fe_bool tk_v (fun _ _ => (.of rfl (Le.imp (.drop (.drop (.drop (.drop (.drop (.keep (.keep (.drop (.drop (.drop (.keep (.drop (.drop (.keep (.keep (.keep (.keep (.keep .nil)))))))))))))))))))))) (fs_nil (.of rfl (Le.imp (.keep (.keep (.keep (.keep (.keep (.keep (.keep (.keep (.keep (.keep (.keep (.keep (.drop (.keep (.keep (.keep (.keep (.keep .nil)))))))))))))))))))))))) fun s135 => (fs_set 13 (T := ob (tL K fTxt)) C.nd (fe_list (fa_cons fe_str (fa_cons (fv_bin op_add_str ol_cat (fe_var 7 (hs := gives_v)) fe_str) (fa_cons (fe_callC C (ok_law_pack KX GN c) (by decide) (ak_b ak_nil) rs_v (fa_cons (fe_borrow (fe_slice sl_list (fun _ _ _ => sp_list) (fe_borrow (fv_callC C (ok_law_flat KX GN c) (by decide) (ak_b ak_nil) rs_o (va_cons (fe_var 4 (hs := (gives_pn gives_o))) fa_nil))) fo_none (vo_some (fv_neg fe_int)))) fa_nil)) (fa_cons (fe_callC C (ok_law_pack KX GN c) (by decide) (ak_b ak_nil) rs_v (fa_cons (fe_borrow (fe_callC C (ok_law_flat KX GN c) (by decide) (ak_b ak_nil) rs_o (fa_cons (fe_borrow (fe_bin op_catS (fun _ _ => ol_catS) (fe_var 4 (hs := (gives_pn gives_o))) (fe_borrow (fe_list (fa_cons (fv_ix ix_list ol_ixL (fe_var 4 (hs := (gives_pn gives_o))) (fv_neg fe_int)) fa_nil) (lo_cons lo_nil))))) fa_nil))) fa_nil)) fa_nil)))) (lo_cons (lo_cons (lo_cons (lo_cons lo_nil))))) tk_o fun v162 => (fs_seq (N1 := (fun (s163 : (List (List Nat))) => [some (bw (tL K fInt) p0), some (ob (tL K fInt) v1), some (ob (tL K fTxt) v5), some (sv fInt v10), some (pn V55 (ob (tL K (fTup K (tvc fTxt (tv1 fTxt)))) v48)), none, none, some (sv fTxt v52), some (pn V54 (bx (He.ga K "Duties") [("_numbers", ce (tDT kTT fInt) s62)])), some (pn V73 (bx (He.ga K "Duties") [("_numbers", ce (tDT kTT fInt) s93)])), none, some (pn V123 (ob (tL K (fLst K (fTup K (tvc fTxt (tv1 fTxt))))) v122)), none, some (ob (tL K fTxt) s163), none, none, none, none])) (pv_ifj (tv_cmp op_gt ol_B0 (fv_callB call_len cl_lenL (He.free_ok KX GN (c.fact 0 (f := .free "len") rfl)) (va_cons (fe_var 4 (hs := (gives_pn gives_o))) fa_nil)) fe_int) (fs_pin 13 rfl fun V164 => (fs_app 13 (A := fTxt) (as := v162) rfl (fe_var 13 (hs := gives_V)) (fe_callC C (ok_law_pack KX GN c) (by decide) (ak_b ak_nil) rs_v (fa_cons (fe_borrow (fe_callC C (ok_law_flat KX GN c) (by decide) (ak_b ak_nil) rs_o (fa_cons (fe_borrow (fe_bin op_catS (fun _ _ => ol_catS) (fe_borrow (fe_list (fa_cons (fv_ix ix_list ol_ixL (fe_var 4 (hs := (gives_pn gives_o))) fe_int) (fa_cons (fv_ix ix_list ol_ixL (fe_var 4 (hs := (gives_pn gives_o))) fe_int) fa_nil)) (lo_cons (lo_cons lo_nil)))) (fe_borrow (fv_slice sl_list sp_list (fe_var 4 (hs := (gives_pn gives_o))) (vo_some fe_int) fo_none)))) fa_nil))) fa_nil)) fun v178 => (fs_nil (.of rfl (Le.imp (.keep (.keep (.keep (.keep (.keep (.keep (.keep (.keep (.keep (.keep (.keep (.keep (.keep (.unpin (.keep (.keep (.keep (.keep .nil))))))))))))))))))))))) (fs_nil (.of rfl (Le.imp (.keep (.keep (.keep (.keep (.keep (.keep (.keep (.keep (.keep (.keep (.keep (.keep (.keep (.keep (.keep (.keep (.keep (.keep .nil)))))))))))))))))))))) fun s163 => (fs_pin 13 rfl fun V179 => (fs_seq (N1 := (fun (s185 : Unit) => [some (bw (tL K fInt) p0), some (ob (tL K fInt) v1), some (ob (tL K fTxt) v5), some (sv fInt v10), some (pn V55 (ob (tL K (fTup K (tvc fTxt (tv1 fTxt)))) v48)), none, none, some (sv fTxt v52), some (pn V54 (bx (He.ga K "Duties") [("_numbers", ce (tDT kTT fInt) s62)])), some (pn V73 (bx (He.ga K "Duties") [("_numbers", ce (tDT kTT fInt) s93)])), none, some (pn V123 (ob (tL K (fLst K (fTup K (tvc fTxt (tv1 fTxt))))) v122)), none, some (pn V179 (ob (tL K fTxt) s163)), none, none, none, none])) (pv_forF (Gs := (fun (s180 : Unit) => [some (bw (tL K fInt) p0), some (ob (tL K fInt) v1), some (ob (tL K fTxt) v5), some (sv fInt v10), some (pn V55 (ob (tL K (fTup K (tvc fTxt (tv1 fTxt)))) v48)), none, none, some (sv fTxt v52), some (pn V54 (bx (He.ga K "Duties") [("_numbers", ce (tDT kTT fInt) s62)])), some (pn V73 (bx (He.ga K "Duties") [("_numbers", ce (tDT kTT fInt) s93)])), none, some (pn V123 (ob (tL K (fLst K (fTup K (tvc fTxt (tv1 fTxt))))) v122)), none, some (pn V179 (ob (tL K fTxt) s163)), none, none, none, none])) (tl' := [12]) (x0 := ()) (A := fTxt) (l := fun _ => s163) C (fe_var 13 (hs := gives_V)) (src_p 13 ls_o (fun _ => rfl)) (.of rfl (Le.imp (.keep (.keep (.keep (.keep (.keep (.keep (.keep (.keep (.keep (.keep (.keep (.keep (.keep (.keep (.keep (.keep (.keep (.keep .nil)))))))))))))))))))) (fg_name 12 C.nd) (fun s180 a181 => (fs_ifend (ft_not (ft_val (fv_callC C (ok_law_refused KX GN c) (by decide) (ak_v ak_nil) rs_v (va_cons (fe_var 12 (hs := gives_v)) fa_nil)))) (fv_ret 14 (T := (sv fBool)) (mk := fun r183 => r183) fe_bool tk_v (fun _ _ => (.of rfl (Le.imp (.drop (.drop (.drop (.drop (.drop (.keep (.keep (.drop (.drop (.drop (.keep (.drop (.drop (.drop (.keep (.keep (.keep (.keep .nil)))))))))))))))))))))) (fs_nil (.of rfl (Le.imp (.keep (.keep (.keep (.keep (.keep (.keep (.keep (.keep (.keep (.keep (.keep (.keep (.drop (.keep (.keep (.keep (.keep (.keep .nil)))))))))))))))))))))))) fun s185 => (fv_ret 14 (T := (sv fBool)) (mk := fun r186 => r186) fe_bool tk_v (fun _ _ => (.of rfl (Le.imp (.drop (.drop (.drop (.drop (.drop (.keep (.keep (.drop (.drop (.drop (.keep (.drop (.keep (.drop (.keep (.keep (.keep (.keep .nil)))))))))))))))))))))))))))))))))))))))))))))))
end
end Pf

namespace Pf
open PySem PySem.Spec PyProof.Rows L2 LK
abbrev Rw : PySem.W.OpenRow := PySem.W.OpenLaw.row PySem.Challenge.rw_lethe_k46_duties_read_back
abbrev hk : PySem.W.Hook := He.hookX 5 fa fn [] [] (fun K => fx.all fun f => f K)
def ob (s : PySem.W.SharedT) : He.AlX := He.obsX 5 fa fn [] [] (fun K => fx.all fun f => f K) (HandSHeadRun.getT s)
theorem ob_eq (s : PySem.W.SharedT) : ob s = hk.obs s.abs := He.obsX_eq (HandSHeadRun.getT_eq s)
theorem run (w : World) : HandSHeadRun.RunEq Rw (PySem.W.view Rw.prog [23]) hk ob 20000 loose w := by
  intro os
  kernel_rfl
theorem law_end {P : Program} {w : World} {K : PySem.W.Frag} {mg : Str → Option Value} {h : Heap} (KX : K.In h) (GN : h.Ns mainGlobals mg) (c : Sy fa fn fx K) {f : Addr} (hfa : mg ("law" : Str) = some (.ref f)) :
    ∃ fd : FuncData, (∀ (s : Shared) (v : Value), BindsTo s fd ⟨[v], []⟩ [("_law_script", v)]) ∧ ∀ base : Heap, K.In base → base.Ns mainGlobals mg → FnOk P w K mg base CX0 6 f fd ["_law_script"] (spLaw K) := by
  have e := hfa.symm.trans (He.glo_ok KX GN (c.fact 33 (f := .glo "law") rfl))
  cases e
  obtain ⟨fd, hb, hF⟩ := ok_law (P := P) (w := w) KX GN c
  exact ⟨fd, hb, fun base _ _ => law_ok (mir := law_m) (hF base) law_true⟩
end Pf
open PySem PySem.W PySem.Calls PyProof.Rows
theorem PySem.Challenge.cw_lethe_k46_duties_read_back_holds : PySem.Challenge.rw_lethe_k46_duties_read_back.Holds := by
  w_on; o_law
  refine HandSHeadRun.head_any (r := Pf.Rw) (q := view Pf.Rw.prog [23]) (H := Pf.hk) (ob := Pf.ob) (M := 20000) (loose := Pf.loose) (d := HandSHeadRun.topDef Pf.Rw.prog 23) (kwd := []) Pf.ob_eq
    (by kernel_rfl) (fun s => by kernel_rfl) Pf.run (by kernel_rfl) (by kernel_rfl) (by kernel_rfl) (by rfl) (by first | assumption | decide +kernel) (by decide +kernel) ⟨rfl, rfl, rfl, rfl, rfl, by decide +kernel⟩ ?hw ?hc
  case hw => w_witness2
  case hc =>
    refine L2.walk_ofE (l := PySem.Challenge.rw_lethe_k46_duties_read_back) (n := 63) (k := 6) (x := "_law_script") (CX := L2.CX0) rfl (by decide) (by kernel_rfl) ⟨rfl, by decide, by decide⟩ ?F (fun _ _ _ _ z => z)
    intro w mg fa h Y G hmg0
    obtain ⟨K, KX, c0⟩ := Y
    have c : LK.Sy Pf.fa Pf.fn Pf.fx K := ⟨c0.t.d, c0.more⟩
    have hmg : mg ("law" : PySem.Str) = some (.ref fa) := by
      have e : (HandSHeadRun.topDef Pf.Rw.prog 23).name = ("law" : PySem.Str) := by kernel_rfl
      rw [← e]
      exact hmg0
    obtain ⟨fd, hb, hF⟩ := Pf.law_end (P := (PySem.Challenge.rw_lethe_k46_duties_read_back).prog) (w := w) KX G c hmg
    exact ⟨K, fd, LK.spLaw K, KX, hb, fun H a ns hl _ hS => ⟨a, ns, rfl, hS, hl, fun _ => rfl⟩, hF⟩
