import PyProof.Rows.All
import Wide.All
import OpenK.AllK
import Wide.FinOn
import KE.KStateDown
import HandS.ForMost
import HandS.ForExc
import HandS.IsInst
import HandS.FStr
import HandS.TupLe
import HandS.StrMore
import HandS.Defaults
import HandS.Head0
import HandS.Head1
import HandS.Head2
import HandS.HeadEnd
import HandS.HeadHook1
import HandS.HeadHook2
import HandS.HeadHook4
import HandS.TryOnly
import HandS.TryMany
import HandS.ExcIs
import PyProof.StrBlock2
import HandS.Dict
import HandS.More
import HandS.WordsDict
import HandS.Iter
import HandS.HotCalls
import PyProof.WalkInts
import KE.IntTextLaws
import HandS.NoneIn
import HandS.Strs
import HandS.ExcCtx
import PyProof.Rows.SeqMore
import HandS.SortRule
import HandS.List
import HandS.Remove
import HandS.Deep
import HandS.Walk
import KE.DataFind
import HandS.TupAny
import HandS.RaiseMore
import HandS.Text
import HandS.Codes
import HandS.Conv
import HandS.DictTup
import PyProof.DictMoreH
import HandS.SetKeys
import HandS.SortInts
import PyProof.Rows.SortShellAny
import KE.KExcRaise
import HandS.DictComp
import HandS.SortKw
import HandS.Flow
import HandS.Zip
import KE.GoesNew
import HandS.ReplaceLit
import HandS.Finally
import HandS.SetBool
import KE.GoesMore
import PySem.Challenge.RW_lethe_k17_images_of_trees
set_option Elab.async false
set_option linter.all false
set_option maxRecDepth 100000
set_option synthInstance.maxSize 4096
set_option synthInstance.maxHeartbeats 400000
set_option maxHeartbeats 0
namespace LK
open PySem L2
abbrev Lk1 : Type := PySem.W.Frag → Bool
def xExc (x : Str) : Lk1 := fun K => decide (PySem.W.findIn K (.ref (He.ga K x)) "__getattribute__" = some (some (.builtin "BaseException.__getattribute__"))) && (decide (PySem.W.findIn K (.ref (He.ga K x)) "__getattr__" = some none) &&
  (decide (PySem.W.subIn K (.ref (He.ga K x)) (.type "BaseException") = some true) && (PySem.W.hasDictIn K (He.ga K x) && (decide (PySem.W.findIn K (.ref (He.ga K x)) "__class__" = some (some (.builtin "object.__class__"))) &&
  (decide (PySem.W.specialIn K (.builtin "object.__class__") "__get__" = some (some (.builtin "getset_descriptor.__get__"))) && (decide (PySem.W.takesIn K (.builtin "object.__class__") = some true) && decide (PySem.W.mroIn K (He.ga K x) (.type "object") = some true)))))))
def xKitL (x : Str) (ys : List Str) (b : Bool) : Lk1 := fun K => decide (PySem.W.kitAny K (.ref (He.ga K x)) (ys.map fun y => .ref (He.ga K y)) = some b)
def xKit (x y : Str) (b : Bool) : Lk1 := fun K => decide (PySem.W.kitOne K (.ref (He.ga K x)) (.ref (He.ga K y)) = some b)
end LK
namespace Pf
open PySem PySem.Spec PyProof.Rows L2 LK
def top (i : Nat) : Stmt := PySem.Challenge.pw_lethe_k17_images_of_trees.main.body.getD i (.Pass ⟨0, 0, 0, 0⟩)
def mkD (x : Str) (i : Nat) : He.DefD := ⟨(x, none), x, x, defArgs (top i), defBody (top i), defScope (top i), [], []⟩
def meth (i k : Nat) : Stmt := match top i with
  | .ClassDef _ _ _ b _ _ _ _ _ _ _ => b.getD k (.Pass ⟨0, 0, 0, 0⟩)
  | _ => .Pass ⟨0, 0, 0, 0⟩
def mkM (c m q : Str) (i k : Nat) : He.DefD := ⟨(c, some m), m, q, defArgs (meth i k), defBody (meth i k), defScope (meth i k), [], []⟩
def fn0 : List He.DefD := [mkD "_law_shape" 41, mkD "_law_coin" 39, mkD "_law_tree" 42, mkD "_law_odd" 51, mkD "number_of" 14, mkD "tree_of_nodes" 31, mkD "read_part" 29, mkD "read_nodes" 30, mkD "gather" 21, mkD "tree_entries" 20, mkD "coin" 4, mkD "above" 19, mkD "heaped" 28, mkD "is_shaped" 27, mkD "tree_from_image" 32, mkD "_law_read" 54, mkD "_law_numbers" 38, mkD "_law_value" 44, mkD "split_tree" 22]
def fn1 : List He.DefD := [mkD "put_entry" 23, mkD "_law_pack" 40, mkD "_law_nodes" 45, mkD "_law_cell" 37, mkD "_law_key" 43, mkD "pack" 13, mkD "gather_image" 26, mkD "tree_image" 25, mkD "_law_number" 47, mkD "_law_part" 48, mkD "_law_due" 49, mkD "_law_told" 50, mkD "_law_spoilt" 46, mkM "Order" "image" "Order.image" 34 10, mkD "_law_great" 53, mkM "Order" "__init__" "Order.__init__" 34 0, mkM "Order" "adopt" "Order.adopt" 34 12, mkD "load_order" 35, mkD "_law_size" 52, mkD "law" 55]
def fn : List He.DefD := fn0 ++ fn1
def fa0 : List He.Fa := [.free "len", .free "range", .glo "_law_shape", .free "int", .free "ord", .glo "_law_coin", .glo "_law_tree", .glo "_law_odd", .int "MOST_DIGITS" 9, .exc "BadForm", .glo "BadForm", .glo "number_of", .free "reversed", .glo "tree_of_nodes", .glo "read_part", .int "MAX_ENTRY_KEY" 40, .int "MAX_ENTRY_VALUE" 600, .glo "read_nodes", .glo "gather", .glo "tree_entries", .int "MODULUS" 2147483647, .glo "coin", .int "HEIGHT" 3, .glo "above", .glo "heaped", .glo "is_shaped", .int "MAX_ENTRIES" 200, .glo "tree_from_image", .glo "Full", .glo "Missing", .free "isinstance", .glo "NotAllowed", .glo "LetheError", .exm "Missing" "BadForm" false, .exm "Full" "BadForm" false]
def fa1 : List He.Fa := [.exm "BadForm" "BadForm" true, .exm "NotAllowed" "BadForm" false, .glo "_law_read", .glo "_law_numbers", .free "str", .glo "_law_value", .glo "split_tree", .glo "put_entry", .glo "_law_pack", .glo "_law_nodes", .glo "_law_cell", .glo "_law_key", .glo "pack", .glo "gather_image", .glo "tree_image", .glo "_law_number", .glo "_law_part", .free "sorted", .glo "_law_due", .glo "_law_told", .free "max", .glo "_law_spoilt", .cls "Order", .noat "Order" "_tree", .meth "Order" "image", .glo "_law_great", .noat "Order" "_many", .noat "Order" "seed", .mkr "Order", .glo "Order", .meth "Order" "adopt", .glo "load_order", .glo "_law_size", .free "min", .glo "law"]
def fa : List He.Fa := fa0 ++ fa1
def fx : List Lk1 := ([xExc "Missing", xExc "Full", xExc "BadForm", xExc "NotAllowed", xKitL "Missing" ["Full", "Missing"] true, xKitL "Full" ["Full", "Missing"] true, xKitL "BadForm" ["Full", "Missing"] false, xKitL "NotAllowed" ["Full", "Missing"] false, xKit "Missing" "NotAllowed" false, xKit "Full" "NotAllowed" false, xKit "BadForm" "NotAllowed" false, xKit "NotAllowed" "NotAllowed" true, xKit "Missing" "LetheError" true, xKit "Full" "LetheError" true, xKit "BadForm" "LetheError" true, xKit "NotAllowed" "LetheError" true] : List Lk1)
def loose : List Str := (["_wall", "__name__", "HEIGHT", "MODULUS", "coin", "LetheError", "NotAllowed", "BadForm", "Full", "Missing", "MOST_DIGITS", "pack", "number_of", "MAX_ENTRY_KEY", "MAX_ENTRY_VALUE", "MAX_ENTRIES", "above", "tree_entries", "gather", "split_tree", "put_entry", "find_value", "tree_image", "gather_image", "is_shaped", "heaped", "read_part", "read_nodes", "tree_of_nodes", "tree_from_image"] : List Str) ++ (["Order", "load_order", "_law_cell", "_law_numbers", "_law_coin", "_law_pack", "_law_shape", "_law_tree", "_law_key", "_law_value", "_law_nodes", "_law_spoilt", "_law_number", "_law_part", "_law_due", "_law_told", "_law_odd", "_law_size", "_law_great", "_law_read"] : List Str)

end Pf
namespace Pf
open PySem PySem.Spec PyProof.Rows L2 LK
abbrev RwZ : PySem.W.OpenRow := PySem.W.OpenLaw.row PySem.Challenge.rw_lethe_k17_images_of_trees
abbrev hkZ : PySem.W.Hook := He.hookX 5 fa fn [] [] (fun K => fx.all fun f => f K)
def obZ (s : PySem.W.SharedT) : He.AlX := He.obsX 5 fa fn [] [] (fun K => fx.all fun f => f K) (HandSHeadRun.getT s)
theorem obZ_eq (s : PySem.W.SharedT) : obZ s = hkZ.obs s.abs := He.obsX_eq (HandSHeadRun.getT_eq s)
theorem run_join {σ β γ δ ε ζ : Type} {o : Option σ} {f : σ → β} {g : σ → γ} {p : σ → δ} {q : σ → ε} {r : σ → ζ} {a : β} {b : γ} {c : δ} {d : ε} {e : ζ} (hj : ∀ s, p s = c → q s = d → r s = e) (h1 : o.map (fun s => (f s, g s, p s)) = some (a, b, c)) (h2 : o.map (fun s => (f s, g s, q s)) = some (a, b, d)) : o.map (fun s => (f s, g s, r s)) = some (a, b, e) := by
  cases o with
  | none => cases h1
  | some x =>
    obtain ⟨h3, h4⟩ := Prod.mk.inj (Option.some.inj h1)
    obtain ⟨h5, h6⟩ := Prod.mk.inj h4
    obtain ⟨_, h8⟩ := Prod.mk.inj (Option.some.inj h2)
    obtain ⟨_, h9⟩ := Prod.mk.inj h8
    show some (f x, g x, r x) = some (a, b, e)
    rw [h3, h5, hj x h6 h9]
theorem ob_join {n : Nat} {fa fb : List He.Fa} {fn fm : List He.DefD} {ex ey : PySem.W.Frag → Bool} {w : World} (g : Addr → Option Obj) (h1 : He.obsX n fa fn [] [] ex g = He.valX fn [] w) (h2 : He.obsX n fb fm [] [] ey g = He.valX fm [] w) : He.obsX n (fa ++ fb) (fn ++ fm) [] [] (fun K => ex K && ey K) g = He.valX (fn ++ fm) [] w := by
  unfold He.obsX He.valX He.obsT He.valT He.obsD He.valD at h1 h2 ⊢
  simp only [Prod.mk.injEq, Bool.and_eq_true, He.tabsB, List.all_nil, Bool.and_true, List.all_append, List.map_append, List.map_nil, and_true, true_and] at h1 h2 ⊢
  obtain ⟨⟨⟨a1, a2⟩, a3⟩, a4⟩ := h1
  obtain ⟨⟨⟨b1, b2⟩, b3⟩, b4⟩ := h2
  refine ⟨⟨⟨⟨a1, b1⟩, ⟨a2, b2⟩⟩, ?_⟩, ⟨a4, b4⟩⟩
  rw [a3, b3]
abbrev hk0 : PySem.W.Hook := He.hookX 5 fa0 [] [] [] (fun _ => true)
def ob0 (s : PySem.W.SharedT) : He.AlX := He.obsX 5 fa0 [] [] [] (fun _ => true) (HandSHeadRun.getT s)
theorem run0 (w : World) : HandSHeadRun.RunEq RwZ (PySem.W.view RwZ.prog [55]) hk0 ob0 20000 loose w := by
  intro os
  kernel_rfl
abbrev hk1 : PySem.W.Hook := He.hookX 5 fa1 [] [] [] (fun _ => true)
def ob1 (s : PySem.W.SharedT) : He.AlX := He.obsX 5 fa1 [] [] [] (fun _ => true) (HandSHeadRun.getT s)
theorem run1 (w : World) : HandSHeadRun.RunEq RwZ (PySem.W.view RwZ.prog [55]) hk1 ob1 20000 loose w := by
  intro os
  kernel_rfl
abbrev hk2 : PySem.W.Hook := He.hookX 5 [] fn0 [] [] (fun _ => true)
def ob2 (s : PySem.W.SharedT) : He.AlX := He.obsX 5 [] fn0 [] [] (fun _ => true) (HandSHeadRun.getT s)
theorem run2 (w : World) : HandSHeadRun.RunEq RwZ (PySem.W.view RwZ.prog [55]) hk2 ob2 20000 loose w := by
  intro os
  kernel_rfl
abbrev hk3 : PySem.W.Hook := He.hookX 5 [] fn1 [] [] (fun _ => true)
def ob3 (s : PySem.W.SharedT) : He.AlX := He.obsX 5 [] fn1 [] [] (fun _ => true) (HandSHeadRun.getT s)
theorem run3 (w : World) : HandSHeadRun.RunEq RwZ (PySem.W.view RwZ.prog [55]) hk3 ob3 20000 loose w := by
  intro os
  kernel_rfl
abbrev hk4 : PySem.W.Hook := He.hookX 5 [] [] [] [] (fun K => fx.all fun f => f K)
def ob4 (s : PySem.W.SharedT) : He.AlX := He.obsX 5 [] [] [] [] (fun K => fx.all fun f => f K) (HandSHeadRun.getT s)
theorem run4 (w : World) : HandSHeadRun.RunEq RwZ (PySem.W.view RwZ.prog [55]) hk4 ob4 20000 loose w := by
  intro os
  kernel_rfl
theorem runJ (w : World) : HandSHeadRun.RunEq RwZ (PySem.W.view RwZ.prog [55]) (He.hookX 5 ((((fa0 ++ fa1) ++ []) ++ []) ++ []) (((([] ++ []) ++ fn0) ++ fn1) ++ []) [] [] (fun K => ((((true && true) && true) && true) && (fun K => fx.all fun f => f K) K))) (fun s => He.obsX 5 ((((fa0 ++ fa1) ++ []) ++ []) ++ []) (((([] ++ []) ++ fn0) ++ fn1) ++ []) [] [] (fun K => ((((true && true) && true) && true) && (fun K => fx.all fun f => f K) K)) (HandSHeadRun.getT s)) 20000 loose w := fun os =>
  run_join (fun s h1 h2 => ob_join (w := w) (HandSHeadRun.getT s) h1 h2) (run_join (fun s h1 h2 => ob_join (w := w) (HandSHeadRun.getT s) h1 h2) (run_join (fun s h1 h2 => ob_join (w := w) (HandSHeadRun.getT s) h1 h2) (run_join (fun s h1 h2 => ob_join (w := w) (HandSHeadRun.getT s) h1 h2) (run0 w os) (run1 w os)) (run2 w os)) (run3 w os)) (run4 w os)
theorem ex_eq (x : PySem.W.Frag → Bool) : (fun K => ((((true && true) && true) && true) && x K)) = x := funext fun K => by simp
theorem runZ (w : World) : HandSHeadRun.RunEq RwZ (PySem.W.view RwZ.prog [55]) hkZ obZ 20000 loose w := by
  have h := runJ w
  rw [ex_eq] at h
  have e1 : ((((fa0 ++ fa1) ++ []) ++ []) ++ []) = fa := by simp [fa]
  have e2 : (((([] ++ []) ++ fn0) ++ fn1) ++ []) = fn := by simp [fn]
  rw [e1, e2] at h
  exact h
end Pf
namespace LK
open PySem L2
inductive Er where
  | notAllowed | badForm | full | missing | twice | down
  deriving DecidableEq
def Er.name : Er → Str
  | .notAllowed => "NotAllowed"
  | .badForm => "BadForm"
  | .full => "Full"
  | .missing => "Missing"
  | .twice => "Twice"
  | .down => "Down"
abbrev Mg (ε α : Type) : Type := Option (Except ε α)
abbrev M (α : Type) : Type := Mg Er α
def Mg.bindP {ε1 ε α β : Type} (p : ε1 → ε) (m : Mg ε1 α) (f : α → Mg ε β) : Mg ε β := match m with
  | none => none
  | some (.error e) => some (.error (p e))
  | some (.ok a) => f a
abbrev Mg.bind {ε α β : Type} (m : Mg ε α) (f : α → Mg ε β) : Mg ε β := Mg.bindP (fun e => e) m f
namespace M
abbrev ok {ε α : Type} (a : α) : Mg ε α := some (.ok a)
abbrev err {ε α : Type} (e : ε) : Mg ε α := some (.error e)
def need {ε α : Type} (c : Prop) [Decidable c] (m : Mg ε α) : Mg ε α := if c then m else none
theorem bind_ok {ε α β : Type} (a : α) (f : α → Mg ε β) : (M.ok a).bind f = f a := rfl
theorem need_pos {ε α : Type} {c : Prop} [Decidable c] {m : Mg ε α} (h : c) : need c m = m := if_pos h
theorem need_ne {ε α : Type} {c : Prop} [Decidable c] {m : Mg ε α} (h : need c m ≠ none) : c ∧ need c m = m := by
  by_cases hc : c
  · exact ⟨hc, if_pos hc⟩
  · exact absurd (if_neg hc) h
theorem ok_inj {ε α : Type} {a b : α} (h : (M.ok a : Mg ε α) = M.ok b) : a = b := by
  injection h with h
  injection h
end M
def Ex (H H' : Hp) : Prop := ∀ a o, H a = some o → H' a = some o
theorem Ex.refl (H : Hp) : Ex H H := fun _ _ h => h
theorem Ex.trans {H H1 H2 : Hp} (a : Ex H H1) (b : Ex H1 H2) : Ex H H2 := fun x o h => b x o (a x o h)
theorem Ex.new {H : Hp} {p : Addr} {o : HO} (h : H p = none) : Ex H (upd H p o) := fun a u e => by
  rw [upd_ne (ne_of_none e h)]
  exact e
theorem Ex.mut {H H' : Hp} {p : Addr} {o : HO} (e : Ex H H') (h : H p = none) : Ex H (upd H' p o) := fun a u ha => by
  rw [upd_ne (ne_of_none ha h)]
  exact e a u ha
theorem Ex.both {H H' : Hp} {p : Addr} {o : HO} (e : Ex H H') : Ex (upd H p o) (upd H' p o) := fun a u ha => by
  by_cases h : a = p
  · subst h
    rw [upd_same] at ha ⊢
    exact ha
  · rw [upd_ne h] at ha ⊢
    exact e a u ha
theorem Ex.ne {H H' : Hp} (e : Ex H H') {a : Addr} (h : H a ≠ none) : H' a ≠ none := by
  cases q : H a with
  | none => exact absurd q h
  | some o => rw [e a o q]; exact fun z => by cases z
theorem Ex.free {H H' : Hp} (e : Ex H H') {a : Addr} (h : H' a = none) : H a = none := by
  cases q : H a with
  | none => rfl
  | some o => rw [e a o q] at h; cases h
def Kn (H H' : Hp) : Prop := ∀ a, H a ≠ none → H' a ≠ none
theorem Kn.free {H H' : Hp} (k : Kn H H') {a : Addr} (h : H' a = none) : H a = none := by
  cases q : H a with
  | none => rfl
  | some o => exact absurd h (k a (by rw [q]; exact fun z => by cases z))
theorem Kn.refl (H : Hp) : Kn H H := fun _ h => h
theorem Kn.trans {H H1 H2 : Hp} (a : Kn H H1) (b : Kn H1 H2) : Kn H H2 := fun x h => b x (a x h)
theorem Ex.kn {H H' : Hp} (e : Ex H H') : Kn H H' := fun _ h => e.ne h
def Dly : HO → Prop
  | .dK _ => True
  | .dT _ => True
  | _ => False
def XS (F F' : Hp) : Prop := ∀ a o, F a = some o → F' a = some o ∨ ∃ u, Dly u ∧ (o = u ∨ ∃ q, o = .frz q u) ∧ (F' a = some u ∨ ∃ q, F' a = some (.frz q u))
theorem Ex.xs {F F' : Hp} (e : Ex F F') : XS F F' := fun a o h => .inl (e a o h)
theorem XS.refl (F : Hp) : XS F F := (Ex.refl F).xs
theorem XS.trans {F F1 F2 : Hp} (a : XS F F1) (b : XS F1 F2) : XS F F2 := fun x o h => by
  rcases a x o h with h1 | ⟨u, hu, ho, h1⟩
  · exact b x o h1
  · refine .inr ⟨u, hu, ho, ?_⟩
    have key : ∀ o', F1 x = some o' → (o' = u ∨ ∃ q, o' = .frz q u) → F2 x = some u ∨ ∃ q, F2 x = some (.frz q u) := fun o' h2 h3 => by
      rcases b x o' h2 with h4 | ⟨u', hu', ho', h4⟩
      · rcases h3 with rfl | ⟨q, rfl⟩
        · exact .inl h4
        · exact .inr ⟨q, h4⟩
      · have : u' = u := by
          rcases h3 with rfl | ⟨q, rfl⟩
          · rcases ho' with rfl | ⟨q, rfl⟩
            · rfl
            · exact hu.elim
          · rcases ho' with rfl | ⟨q', e⟩
            · exact hu'.elim
            · cases e; rfl
        subst this
        exact h4
    rcases h1 with h1 | ⟨q, h1⟩
    · exact key u h1 (.inl rfl)
    · exact key _ h1 (.inr ⟨q, rfl⟩)
theorem Rd.xs {F F' : Hp} {a : Addr} {u : HO} (e : XS F F') (h : Rd F a u) (hu : ∀ q w, u ≠ .frz q w) : Rd F' a u := by
  rcases h with h | ⟨o, h⟩
  · rcases e a _ h with q | ⟨w, hw, ho, q⟩
    · exact .inl q
    · rcases ho with rfl | ⟨z, rfl⟩
      · exact q
      · exact absurd rfl (hu z w)
  · rcases e a _ h with q | ⟨w, hw, ho, q⟩
    · exact .inr ⟨o, q⟩
    · rcases ho with rfl | ⟨z, e⟩
      · exact hw.elim
      · cases e
        exact q
theorem Rd.ex {H H' : Hp} {a : Addr} {u : HO} (e : Ex H H') (h : Rd H a u) : Rd H' a u := by
  rcases h with h | ⟨o, h⟩
  · exact Or.inl (e a _ h)
  · exact Or.inr ⟨o, e a _ h⟩
theorem sqL_xs {K : PySem.W.Frag} {H H' : Hp} {a : Addr} {xs : List V} (e : XS H H') (h : SqL K H a xs) : SqL K H' a xs := by
  rcases h with h | h
  · exact Or.inl (Rd.xs e h fun _ _ z => nomatch z)
  · exact Or.inr h
theorem sqT_xs {K : PySem.W.Frag} {H H' : Hp} {a : Addr} {xs : List V} (e : XS H H') (h : SqT K H a xs) : SqT K H' a xs := by
  rcases h with h | h
  · exact Or.inl (Rd.xs e h fun _ _ z => nomatch z)
  · exact Or.inr h
theorem sqL_ex {K : PySem.W.Frag} {H H' : Hp} {a : Addr} {xs : List V} (e : Ex H H') (h : SqL K H a xs) : SqL K H' a xs := sqL_xs e.xs h
theorem sqT_ex {K : PySem.W.Frag} {H H' : Hp} {a : Addr} {xs : List V} (e : Ex H H') (h : SqT K H a xs) : SqT K H' a xs := sqT_xs e.xs h
theorem ins_xs {F F' : Hp} {a C dx : Addr} {fs : List (Str × V)} (e : XS F F') (h : F a = some (.ins C dx fs)) : F' a = some (.ins C dx fs) := by
  rcases e a _ h with q | ⟨w, hw, ho, q⟩
  · exact q
  · rcases ho with rfl | ⟨z, e⟩
    · exact hw.elim
    · cases e
def NT (H : Hp) (a : Addr) : Prop := ∃ o, H a = some o ∧ ∀ xs, o ≠ .tup xs
theorem NT.ne {H : Hp} {a : Addr} (h : NT H a) : H a ≠ none := by
  obtain ⟨o, e, _⟩ := h
  rw [e]
  exact fun z => nomatch z
theorem NT.of {H : Hp} {a : Addr} {o : HO} (h : H a = some o) (n : ∀ xs, o ≠ .tup xs := by intro _ z; cases z) : NT H a := ⟨o, h, n⟩
theorem NT.up {H : Hp} {a : Addr} {o : HO} (n : ∀ xs, o ≠ .tup xs := by intro _ z; cases z) : NT (upd H a o) a := ⟨o, upd_same, n⟩
theorem NT.ex {H H' : Hp} {a : Addr} (h : NT H a) (e : Ex H H') : NT H' a := by
  obtain ⟨o, h1, h2⟩ := h
  exact ⟨o, e a o h1, h2⟩
theorem NT.un {H : Hp} {a b : Addr} {o : HO} (h : NT H a) (n : a ≠ b) : NT (upd H b o) a := by
  obtain ⟨u, h1, h2⟩ := h
  exact ⟨u, by rw [upd_ne n]; exact h1, h2⟩
theorem Ex.nt {H H' : Hp} (e : Ex H H') {a : Addr} (h : NT H a) : NT H' a := h.ex e
structure Gr (F H F' H' : Hp) : Prop where
  f : Ex F F'
  h : Ex H H'
  fh : Ex F' H'
  no : ∀ a, F a = none → NT H a → F' a = none
theorem Gr.refl {F H : Hp} (e : Ex F H) : Gr F H F H := ⟨Ex.refl F, Ex.refl H, e, fun _ h _ => h⟩
theorem Gr.trans {F H F1 H1 F2 H2 : Hp} (a : Gr F H F1 H1) (b : Gr F1 H1 F2 H2) : Gr F H F2 H2 :=
  ⟨a.f.trans b.f, a.h.trans b.h, b.fh, fun x h1 h2 => b.no x (a.no x h1 h2) (a.h.nt h2)⟩
theorem Gr.newF {F H : Hp} {p : Addr} {o : HO} (e : Ex F H) (hp : H p = none) : Gr F H (upd F p o) (upd H p o) :=
  ⟨Ex.new (e.free hp), Ex.new hp, e.both, fun a h1 h2 => by
    rw [upd_ne (fun z => h2.ne (by rw [z]; exact hp))]
    exact h1⟩
theorem Gr.newM {F H : Hp} {p : Addr} {o : HO} (e : Ex F H) (hp : H p = none) : Gr F H F (upd H p o) :=
  ⟨Ex.refl F, Ex.new hp, e.mut (e.free hp), fun a h1 _ => h1⟩
structure GrX (X : List Addr) (F H F' H' : Hp) : Prop where
  f : Ex F F'
  h : ∀ a o, a ∉ X → H a = some o → H' a = some o
  fh : Ex F' H'
  no : ∀ a, F a = none → NT H a → F' a = none
  st : ∀ a, H a ≠ none → H' a ≠ none
  nt : ∀ a, NT H a → NT H' a
theorem Gr.x {F H F' H' : Hp} (g : Gr F H F' H') (X : List Addr) : GrX X F H F' H' := ⟨g.f, fun a o _ e => g.h a o e, g.fh, g.no, fun a e => g.h.ne e, fun a e => g.h.nt e⟩
theorem GrX.gr {F H F' H' : Hp} (g : GrX [] F H F' H') : Gr F H F' H' := ⟨g.f, fun a o e => g.h a o (by simp) e, g.fh, g.no⟩
theorem GrX.trans {X : List Addr} {F H F1 H1 F2 H2 : Hp} (a : GrX X F H F1 H1) (b : GrX X F1 H1 F2 H2) : GrX X F H F2 H2 :=
  ⟨a.f.trans b.f, fun x o hx e => b.h x o hx (a.h x o hx e), b.fh, fun x h1 h2 => b.no x (a.no x h1 h2) (a.nt x h2), fun x e => b.st x (a.st x e), fun x e => b.nt x (a.nt x e)⟩
theorem GrX.mono {X Y : List Addr} {F H F' H' : Hp} (g : GrX X F H F' H') (h : ∀ a ∈ X, a ∈ Y) : GrX Y F H F' H' :=
  ⟨g.f, fun a o hx e => g.h a o (fun z => hx (h a z)) e, g.fh, g.no, g.st, g.nt⟩
theorem GrX.into {X Y : List Addr} {F0 H0 F H F' H' : Hp} (a : GrX X F0 H0 F H) (g : GrX Y F H F' H') (h : ∀ x ∈ Y, H0 x = none ∨ x ∈ X) : GrX X F0 H0 F' H' :=
  ⟨a.f.trans g.f, fun x o hx e => g.h x o (fun hy => by
    rcases h x hy with z | z
    · rw [z] at e; cases e
    · exact hx z) (a.h x o hx e), g.fh, fun x h1 h2 => g.no x (a.no x h1 h2) (a.nt x h2), fun x e => g.st x (a.st x e), fun x e => g.nt x (a.nt x e)⟩
theorem GrX.at {F H : Hp} {p : Addr} {o : HO} (x : Ex F H) (hF : F p = none) (n : ∀ xs, o ≠ .tup xs := by intro _ z; cases z) : GrX [p] F H F (upd H p o) :=
  ⟨Ex.refl F, fun a u ha e => by rw [upd_ne (fun q => ha (by rw [q]; simp))]; exact e, x.mut hF, fun a h1 _ => h1, fun a h => by
    by_cases q : a = p
    · rw [q, upd_same]; exact fun z => nomatch z
    · rw [upd_ne q]; exact h, fun a h => by
    by_cases q : a = p
    · rw [q]; exact NT.up n
    · obtain ⟨u, h1, h2⟩ := h
      exact ⟨u, by rw [upd_ne q]; exact h1, h2⟩⟩

structure Rf (α : Type) where
  r : α → Hp → V → Prop
  sx : ∀ {a F v F'}, r a F v → XS F F' → r a F' v
theorem Rf.st {α : Type} (R : Rf α) {a : α} {F : Hp} {v : V} {F' : Hp} (h : R.r a F v) (e : Ex F F') : R.r a F' v := R.sx h e.xs
structure Rl (α : Type) where
  r : α → Hp → Hp → Hp → V → Prop
  st : ∀ {a H0 F H v F' H'}, r a H0 F H v → Gr F H F' H' → r a H0 F' H' v
  pre : ∀ {a H0 H1 F H v}, r a H1 F H v → Kn H0 H1 → r a H0 F H v
def Rf.up {α : Type} (R : Rf α) : Rl α := ⟨fun a _ F _ v => R.r a F v, fun h g => R.st h g.f, fun h _ => h⟩
def S (l : List Nat) : Str := ⟨l.toArray⟩
theorem S_cps (l : List Nat) : (S l).cps.toList = l := by simp [S]
theorem S_len (l : List Nat) : (S l).length = l.length := by simp [S, Str.length]
theorem S_of (x : Str) : S x.cps.toList = x := by
  obtain ⟨a⟩ := x
  simp [S]
theorem S_inj {a b : List Nat} (h : S a = S b) : a = b := by
  have := congrArg (fun x : Str => x.cps.toList) h
  simpa [S] using this
def fInt : Rf Int := ⟨fun i _ v => v = .int i, fun h _ => h⟩
def fBool : Rf Bool := ⟨fun b _ v => v = .bl b, fun h _ => h⟩
def tOkB (l : List Nat) : Bool := decide (l.length ≤ sizeLine) && l.all fun c => decide (c < 1114112)
abbrev tOk (l : List Nat) : Prop := tOkB l = true
theorem tOk.len {l : List Nat} (h : tOk l) : l.length ≤ sizeLine := of_decide_eq_true (Bool.and_eq_true_iff.mp h).1
theorem tOk.all {l : List Nat} (h : tOk l) : ∀ c ∈ l, c < 1114112 := fun c hc => of_decide_eq_true (List.all_eq_true.mp (Bool.and_eq_true_iff.mp h).2 c hc)
theorem tOk.mk {l : List Nat} (h : l.length ≤ sizeLine) (k : ∀ c ∈ l, c < 1114112) : tOk l := Bool.and_eq_true_iff.mpr ⟨decide_eq_true h, List.all_eq_true.mpr fun c hc => decide_eq_true (k c hc)⟩
theorem tOk.sub {l m : List Nat} (h : tOk l) (hl : m.length ≤ l.length) (k : ∀ c ∈ m, c ∈ l) : tOk m := tOk.mk (Nat.le_trans hl h.len) fun c hc => h.all c (k c hc)
def fTxt : Rf (List Nat) := ⟨fun l _ v => v = .str (S l) ∧ tOk l, fun h _ => h⟩
def fUnit : Rf Unit := ⟨fun _ _ v => v = .non, fun h _ => h⟩
def fVal : Rf V := ⟨fun q _ v => v = q, fun h _ => h⟩
def fOpt {α : Type} (A : Rf α) : Rf (Option α) := ⟨fun o F v => match o with
  | none => v = .non
  | some a => A.r a F v ∧ v ≠ .non, fun {a} => by
    cases a with
    | none => exact fun h _ => h
    | some a => exact fun h e => ⟨A.sx h.1 e, h.2⟩⟩
inductive Pw {α : Type} (R : α → V → Prop) : List α → List V → Prop where
  | nil : Pw R [] []
  | cons {a v as vs} : R a v → Pw R as vs → Pw R (a :: as) (v :: vs)
theorem Pw.imp {α : Type} {R R' : α → V → Prop} (f : ∀ a v, R a v → R' a v) : ∀ {as vs}, Pw R as vs → Pw R' as vs
  | _, _, .nil => .nil
  | _, _, .cons h t => .cons (f _ _ h) (t.imp f)
theorem Pw.len {α : Type} {R : α → V → Prop} : ∀ {as vs}, Pw R as vs → as.length = vs.length
  | _, _, .nil => rfl
  | _, _, .cons _ t => congrArg (· + 1) t.len
theorem Pw.app {α : Type} {R : α → V → Prop} : ∀ {as vs bs ws}, Pw R as vs → Pw R bs ws → Pw R (as ++ bs) (vs ++ ws)
  | _, _, _, _, .nil, h => h
  | _, _, _, _, .cons h t, q => .cons h (t.app q)
theorem Pw.snoc {α : Type} {R : α → V → Prop} {as vs a v} (h : Pw R as vs) (q : R a v) : Pw R (as ++ [a]) (vs ++ [v]) := h.app (.cons q .nil)
theorem Pw.get {α : Type} {R : α → V → Prop} : ∀ {as : List α} {vs : List V}, Pw R as vs → ∀ {i : Nat} {a : α}, as[i]? = some a → ∃ v, vs[i]? = some v ∧ R a v
  | _, _, .nil, i, a, h => by simp at h
  | _, _, .cons h _, 0, a, e => by
    simp at e
    subst e
    exact ⟨_, rfl, h⟩
  | _, _, .cons _ t, i + 1, a, e => by
    obtain ⟨v, h1, h2⟩ := t.get (i := i) (a := a) (by simpa using e)
    exact ⟨v, by simpa using h1, h2⟩
theorem Pw.getV {α : Type} {R : α → V → Prop} : ∀ {as : List α} {vs : List V}, Pw R as vs → ∀ {i : Nat} {v : V}, vs[i]? = some v → ∃ a, as[i]? = some a ∧ R a v
  | _, _, .nil, i, a, h => by simp at h
  | _, _, .cons h _, 0, a, e => by
    simp at e
    subst e
    exact ⟨_, rfl, h⟩
  | _, _, .cons _ t, i + 1, a, e => by
    obtain ⟨v, h1, h2⟩ := t.getV (i := i) (v := a) (by simpa using e)
    exact ⟨v, by simpa using h1, h2⟩
theorem Pw.take {α : Type} {R : α → V → Prop} : ∀ {as : List α} {vs : List V} (n : Nat), Pw R as vs → Pw R (as.take n) (vs.take n)
  | _, _, 0, _ => .nil
  | _, _, _ + 1, .nil => .nil
  | _, _, n + 1, .cons h t => .cons h (t.take n)
theorem Pw.drop {α : Type} {R : α → V → Prop} : ∀ {as : List α} {vs : List V} (n : Nat), Pw R as vs → Pw R (as.drop n) (vs.drop n)
  | _, _, 0, h => h
  | _, _, _ + 1, .nil => .nil
  | _, _, n + 1, .cons _ t => t.drop n
theorem Pw.set {α : Type} {R : α → V → Prop} {a : α} {v : V} (q : R a v) : ∀ {as : List α} {vs : List V} (i : Nat), Pw R as vs → Pw R (as.set i a) (vs.set i v)
  | _, _, _, .nil => .nil
  | _, _, 0, .cons h t => .cons q t
  | _, _, i + 1, .cons h t => .cons h (t.set q i)
structure Tv (α : Type) where
  r : α → Hp → List V → Prop
  sx : ∀ {a F v F'}, r a F v → XS F F' → r a F' v
theorem Tv.st {α : Type} (T : Tv α) {a : α} {F : Hp} {v : List V} {F' : Hp} (h : T.r a F v) (e : Ex F F') : T.r a F' v := T.sx h e.xs
def tv1 {α : Type} (A : Rf α) : Tv α := ⟨fun a F vs => ∃ x, vs = [x] ∧ A.r a F x, fun ⟨x, e, h⟩ q => ⟨x, e, A.sx h q⟩⟩
def tvc {α β : Type} (A : Rf α) (T : Tv β) : Tv (α × β) := ⟨fun a F vs => ∃ x r, vs = x :: r ∧ A.r a.1 F x ∧ T.r a.2 F r, fun ⟨x, r, e, h, t⟩ q => ⟨x, r, e, A.sx h q, T.sx t q⟩⟩
section
variable (K : PySem.W.Frag)
def fTup {α : Type} (T : Tv α) : Rf α := ⟨fun a F v => ∃ p vs, v = .ref p ∧ SqT K F p vs ∧ T.r a F vs, fun ⟨p, vs, e, h, q⟩ x => ⟨p, vs, e, sqT_xs x h, T.sx q x⟩⟩
end
structure Th (α : Type) where
  rd : α → Hp → Hp → V → Prop
  ow : α → Hp → Hp → V → List Addr → Prop
  rst : ∀ {a F X v F' X'}, rd a F X v → XS F F' → XS X X' → rd a F' X' v
  ost : ∀ {a F H v ms F' H'}, ow a F H v ms → XS F F' → (∀ x ∈ ms, ∀ o, H x = some o → H' x = some o) → ow a F' H' v ms
  ord : ∀ {a F H v ms X}, ow a F H v ms → (∀ x ∈ ms, ∀ o, H x = some o → X x = some o) → Ex F X → rd a F X v
def tF {α : Type} (A : Rf α) : Th α := ⟨fun a F _ v => A.r a F v, fun a F _ v ms => A.r a F v ∧ ms = [], fun h x _ => A.sx h x, fun h x _ => ⟨A.sx h.1 x, h.2⟩, fun h _ _ => h.1⟩
def tL (K : PySem.W.Frag) {α : Type} (A : Rf α) : Th (List α) := ⟨fun as F X v => ∃ p vs, v = .ref p ∧ SqL K X p vs ∧ Pw (fun a x => A.r a F x) as vs,
  fun as F H v ms => ∃ p vs, v = .ref p ∧ H p = some (.lst vs) ∧ Pw (fun a x => A.r a F x) as vs ∧ ms = [p],
  fun ⟨p, vs, e, h, q⟩ x y => ⟨p, vs, e, sqL_xs y h, q.imp fun _ _ z => A.sx z x⟩,
  fun ⟨p, vs, e, h, q, m⟩ x k => ⟨p, vs, e, k p (by rw [m]; simp) _ h, q.imp fun _ _ z => A.sx z x, m⟩,
  fun ⟨p, vs, e, h, q, m⟩ k _ => ⟨p, vs, e, .inl (.inl (k p (by rw [m]; simp) _ h)), q⟩⟩
def fz {α : Type} (T : Th α) : Rf α := ⟨fun a F v => T.rd a F F v, fun h x => T.rst h x x⟩
abbrev fLst (K : PySem.W.Frag) {α : Type} (A : Rf α) : Rf (List α) := fz (tL K A)
def nw {α : Type} (T : Th α) : Rl α := ⟨fun a _ F H v => T.rd a F H v, fun h g => T.rst h g.f.xs g.h.xs, fun h _ => h⟩
def rV (v0 : V) : Rl Unit := ⟨fun _ _ _ _ v => v = v0, fun h _ => h, fun h _ => h⟩
abbrev bLst (K : PySem.W.Frag) {α : Type} (A : Rf α) : Rl (List α) := nw (tL K A)
def ro {α : Type} (T : Th α) : Rl α := ⟨fun a H0 F H v => ∃ ms, T.ow a F H v ms ∧ ∀ x ∈ ms, H0 x = none ∧ F x = none ∧ NT H x,
  fun ⟨ms, h, k⟩ g => ⟨ms, T.ost h g.f.xs fun x _ o e => g.h x o e, fun x hx => ⟨(k x hx).1, g.no x (k x hx).2.1 (k x hx).2.2, g.h.nt (k x hx).2.2⟩⟩,
  fun ⟨ms, h, k⟩ e => ⟨ms, h, fun x hx => ⟨e.free (k x hx).1, (k x hx).2⟩⟩⟩
structure Sl where
  r : Hp → Hp → Hp → V → List Addr → Prop
  own : Bool
  no : ∀ {Y F H v ms}, own = false → r Y F H v ms → ms = []
  st : ∀ {Y F H v ms Y' F' H'}, r Y F H v ms → XS Y Y' → XS F F' → (∀ x ∈ ms, ∀ o, H x = some o → H' x = some o) → r Y' F' H' v ms
def sv {α : Type} (R : Rf α) (a : α) : Sl := ⟨fun _ F _ v ms => R.r a F v ∧ ms = [], false, fun _ h => h.2, fun h _ e _ => ⟨R.sx h.1 e, h.2⟩⟩
def ob {α : Type} (T : Th α) (a : α) : Sl := ⟨fun _ F H v ms => T.ow a F H v ms, true, (fun h => nomatch h), fun h _ x k => T.ost h x k⟩
def bw {α : Type} (T : Th α) (a : α) : Sl := ⟨fun Y F _ v ms => T.rd a F Y v ∧ ms = [], false, fun _ h => h.2, fun h y x _ => ⟨T.rst h.1 x y, h.2⟩⟩
def pn (v0 : V) (s : Sl) : Sl := ⟨fun Y F H v ms => v = v0 ∧ s.r Y F H v ms, s.own, (fun o h => s.no o h.2), fun ⟨e, h⟩ y x k => ⟨e, s.st h y x k⟩⟩
abbrev Gm := List (Option Sl)
structure Bs where
  Hd : Hp
  X0 : List Addr
  F0 : Hp
  H0 : Hp
  s0 : St
structure SlOk (B : Bs) (G : Gm) (F H : Hp) (σ : St) (ms : Nat → List Addr) : Prop where
  has : ∀ (i : Nat) (s : Sl), G[i]? = some (some s) → ∃ v, (i < σ.length → σ[i]? = some (some v)) ∧ s.r B.Hd F H v (ms i)
  non : ∀ i : Nat, (∀ s : Sl, G[i]? ≠ some (some s)) → ms i = []
  mem : ∀ (i : Nat) (x : Addr), x ∈ ms i → F x = none ∧ NT H x
  own : ∀ (i : Nat) (s : Sl), G[i]? = some (some s) → s.own = true → ∀ x ∈ ms i, B.H0 x = none ∨ x ∈ B.X0
  sep : ∀ (i : Nat) (s : Sl), G[i]? = some (some s) → s.own = true → ∀ x ∈ ms i, ∀ j : Nat, j ≠ i → x ∉ ms j
structure Stt (B : Bs) (tl : List Nat) (G : Gm) (F H : Hp) (σ : St) : Prop where
  g : GrX B.X0 B.F0 B.H0 F H
  bh : ∀ a o, B.Hd a = some o → B.H0 a = some o ∧ a ∉ B.X0
  fr : ∀ i : Nat, i ∉ tl → σ[i]? = B.s0[i]?
  ls : σ.length = B.s0.length
  len : σ.length ≤ G.length
  sl : ∃ ms, SlOk B G F H σ ms
section
variable {B : Bs} {tl : List Nat} {G : Gm} {F H F' H' : Hp} {σ : St}
theorem Stt.fh (s : Stt B tl G F H σ) : Ex F H := s.g.fh
theorem Stt.yh (s : Stt B tl G F H σ) : Ex B.Hd H := fun a o h => s.g.h a o (s.bh a o h).2 (s.bh a o h).1
theorem Stt.kd (s : Stt B tl G F H σ) : Kn B.Hd B.H0 := fun a h => by
  cases q : B.Hd a with
  | none => exact absurd q h
  | some o => rw [(s.bh a o q).1]; exact fun z => nomatch z
theorem SlOk.val {ms : Nat → List Addr} (k : SlOk B G F H σ ms) {i : Nat} {s : Sl} (h : G[i]? = some (some s)) (hi : i < σ.length) : ∃ v, σ[i]? = some (some v) ∧ s.r B.Hd F H v (ms i) := by
  obtain ⟨v, h1, h2⟩ := k.has i s h
  exact ⟨v, h1 hi, h2⟩
theorem Stt.frs {ms : Nat → List Addr} (s : Stt B tl G F H σ) (k : SlOk B G F H σ ms) {i : Nat} {t : Sl} (h : G[i]? = some (some t)) (o : t.own = true) : ∀ x ∈ ms i, B.Hd x = none := fun x hx => by
  cases q : B.Hd x with
  | none => rfl
  | some u =>
    obtain ⟨h1, h2⟩ := s.bh x u q
    rcases k.own i t h o x hx with z | z
    · rw [h1] at z; cases z
    · exact absurd z h2
theorem SlOk.grow {ms : Nat → List Addr} (k : SlOk B G F H σ ms) (g : Gr F H F' H') : SlOk B G F' H' σ ms :=
  ⟨fun i z e => by
    obtain ⟨v, h1, h2⟩ := k.has i z e
    exact ⟨v, h1, z.st h2 (XS.refl _) g.f.xs fun x _ o q => g.h x o q⟩, k.non, fun i x hx => by
    obtain ⟨h1, h2⟩ := k.mem i x hx
    exact ⟨g.no x h1 h2, g.h.nt h2⟩, k.own, k.sep⟩
theorem Stt.grow (s : Stt B tl G F H σ) (g : Gr F H F' H') : Stt B tl G F' H' σ := by
  obtain ⟨ms, k⟩ := s.sl
  exact ⟨s.g.trans (g.x _), s.bh, s.fr, s.ls, s.len, ms, k.grow g⟩
theorem Stt.put {i : Nat} {T : Sl} {v : V} {mv : List Addr} {σ' : St} (s : Stt B tl G F H σ) (g : Gr F H F' H') (hl : i < G.length) (hσ : σ'.length = σ.length) (hv : i < σ.length → σ'[i]? = some (some v)) (hj : ∀ j : Nat, j ≠ i → σ'[j]? = σ[j]?) (hf : ∀ j : Nat, j ∉ tl → σ'[j]? = σ[j]?)
    (h : T.r B.Hd F' H' v mv) (k : ∀ x ∈ mv, H x = none ∧ F' x = none ∧ NT H' x) : Stt B tl (G.set i (some T)) F' H' σ' := by
  obtain ⟨ms, z⟩ := s.sl
  have z' := z.grow g
  refine ⟨s.g.trans (g.x _), s.bh, fun j hj' => (hf j hj').trans (s.fr j hj'), hσ.trans s.ls, ?_, fun j => if j = i then mv else ms j, ⟨fun j t e => ?_, fun j e => ?_, fun j x hx => ?_, fun j t e ho x hx => ?_, fun j t e ho x hx j' hj' hm => ?_⟩⟩
  · rw [List.length_set, hσ]
    exact s.len
  · by_cases hji : j = i
    · subst hji
      rw [List.getElem?_set_self hl] at e
      cases e
      rw [if_pos rfl]
      exact ⟨v, fun q => hv (by rw [← hσ]; exact q), h⟩
    · rw [List.getElem?_set_ne (fun q => hji q.symm)] at e
      rw [if_neg hji, hj j hji, hσ]
      exact z'.has j t e
  · by_cases hji : j = i
    · subst hji
      exact absurd (List.getElem?_set_self hl) (e T)
    · rw [if_neg hji]
      exact z.non j fun t q => e t (by rw [List.getElem?_set_ne (fun q => hji q.symm)]; exact q)
  · try dsimp only at hx
    by_cases hji : j = i
    · rw [if_pos hji] at hx
      exact (k x hx).2
    · rw [if_neg hji] at hx
      exact z'.mem j x hx
  · try dsimp only at hx
    by_cases hji : j = i
    · rw [if_pos hji] at hx
      exact .inl (Kn.free s.g.st (k x hx).1)
    · rw [if_neg hji] at hx
      rw [List.getElem?_set_ne (fun q => hji q.symm)] at e
      exact z.own j t e ho x hx
  · try dsimp only at hx
    try dsimp only at hm
    by_cases hji : j = i
    · rw [if_pos hji] at hx
      rw [if_neg (fun q => hj' (q.trans hji.symm))] at hm
      exact (z.mem j' x hm).2.ne (k x hx).1
    · rw [if_neg hji] at hx
      rw [List.getElem?_set_ne (fun q => hji q.symm)] at e
      by_cases hi' : j' = i
      · rw [if_pos hi'] at hm
        exact (z.mem j x hx).2.ne (k x hm).1
      · rw [if_neg hi'] at hm
        exact z.sep j t e ho x hx j' hj' hm
theorem Stt.set {i : Nat} {T : Sl} {v : V} {mv : List Addr} (s : Stt B tl G F H σ) (g : Gr F H F' H') (hi : i ∈ tl) (hl : i < G.length)
    (h : T.r B.Hd F' H' v mv) (k : ∀ x ∈ mv, H x = none ∧ F' x = none ∧ NT H' x) : Stt B tl (G.set i (some T)) F' H' (σ.set i (some v)) :=
  s.put g hl (List.length_set ..) (fun q => List.getElem?_set_self q) (fun j hj => List.getElem?_set_ne (fun q => hj q.symm)) (fun j hj => List.getElem?_set_ne (fun q => hj (by rw [← q]; exact hi))) h k
theorem Stt.ghost {i : Nat} {T : Sl} {v : V} {mv : List Addr} (s : Stt B tl G F H σ) (g : Gr F H F' H') (hi : σ.length ≤ i) (hl : i < G.length)
    (h : T.r B.Hd F' H' v mv) (k : ∀ x ∈ mv, H x = none ∧ F' x = none ∧ NT H' x) : Stt B tl (G.set i (some T)) F' H' σ :=
  s.put g hl rfl (fun q => absurd q (by omega)) (fun _ _ => rfl) (fun _ _ => rfl) h k
end
def Imp (G G' : Gm) : Prop := ∀ B tl F H σ, Stt B tl G F H σ → Stt B tl G' F H σ
theorem Imp.refl (G : Gm) : Imp G G := fun _ _ _ _ _ h => h
theorem Imp.trans {G G1 G2 : Gm} (a : Imp G G1) (b : Imp G1 G2) : Imp G G2 := fun _ _ _ _ _ h => b _ _ _ _ _ (a _ _ _ _ _ h)
theorem Imp.of {G G1 G' : Gm} (e : G = G1) (h : Imp G1 G') : Imp G G' := by rw [e]; exact h
inductive Le : Gm → Gm → Prop where
  | nil : Le [] []
  | keep {s : Option Sl} {G G' : Gm} (h : Le G G') : Le (s :: G) (s :: G')
  | drop {s : Option Sl} {G G' : Gm} (h : Le G G') : Le (s :: G) (none :: G')
  | unpin {v : V} {s : Sl} {G G' : Gm} (h : Le G G') : Le (some (pn v s) :: G) (some s :: G')
theorem Le.len {G G' : Gm} (h : Le G G') : G.length = G'.length := by
  induction h with
  | nil => rfl
  | keep _ ih => exact congrArg (· + 1) ih
  | drop _ ih => exact congrArg (· + 1) ih
  | unpin _ ih => exact congrArg (· + 1) ih
theorem Le.at_ {G G' : Gm} (h : Le G G') : ∀ {i : Nat} {s' : Sl}, G'[i]? = some (some s') → ∃ s, G[i]? = some (some s) ∧ (s'.own = true → s.own = true) ∧ ∀ Y F H v ms, s.r Y F H v ms → s'.r Y F H v ms := by
  induction h with
  | nil => intro i s' e; simp at e
  | keep _ ih =>
    intro i s' e
    cases i with
    | zero => exact ⟨s', e, id, fun _ _ _ _ _ h => h⟩
    | succ i => exact ih (by simpa using e)
  | drop _ ih =>
    intro i s' e
    cases i with
    | zero => simp at e
    | succ i => exact ih (by simpa using e)
  | unpin _ ih =>
    intro i s' e
    cases i with
    | zero =>
      simp at e
      subst e
      exact ⟨_, rfl, id, fun _ _ _ _ _ h => h.2⟩
    | succ i => exact ih (by simpa using e)
theorem Le.imp {G G' : Gm} (h : Le G G') : Imp G G' := fun B tl F H σ s => by
  obtain ⟨ms, z⟩ := s.sl
  refine ⟨s.g, s.bh, s.fr, s.ls, by rw [← h.len]; exact s.len, fun j => match G'[j]? with
    | some (some _) => ms j
    | _ => [], ⟨fun j t e => ?_, fun j e => ?_, fun j x hx => ?_, fun j t e ho x hx => ?_, fun j t e ho x hx j' hj hm => ?_⟩⟩
  · simp only [e]
    obtain ⟨u, h1, h2, h3⟩ := h.at_ e
    obtain ⟨v, q1, q2⟩ := z.has j u h1
    exact ⟨v, q1, h3 _ _ _ _ _ q2⟩
  · try dsimp only
    split
    · rename_i t q
      exact absurd q (e t)
    · rfl
  · try dsimp only at hx
    split at hx
    · exact z.mem j x hx
    · simp at hx
  · simp only [e] at hx
    obtain ⟨u, h1, h2, h3⟩ := h.at_ e
    exact z.own j u h1 (h2 ho) x hx
  · simp only [e] at hx
    try dsimp only at hm
    obtain ⟨u, h1, h2, h3⟩ := h.at_ e
    split at hm
    · exact z.sep j u h1 (h2 ho) x hx j' hj hm
    · simp at hm
theorem Le.none : ∀ {G : Gm} {n : Nat}, G.length = n → Le G (List.replicate n none)
  | [], n, e => by subst e; exact .nil
  | s :: G, n, e => by
    subst e
    exact .drop (Le.none rfl)
def ec (K : PySem.W.Frag) (e : Er) : Value := .ref (He.ga K e.name)
theorem PE.weak {X : Cx} {e : Expr} {t t' : TE} (h : PE X e t) (w : ∀ σ H Q, t' σ H Q → t σ H Q) : PE X e t' := ⟨fun pins s σ H Q I q => h.run pins s σ H Q I (w _ _ _ q)⟩
theorem PT.weak {X : Cx} {e : Expr} {t t' : TT} (h : PT X e t) (w : ∀ σ H Q, t' σ H Q → t σ H Q) : PT X e t' := ⟨fun pins s σ H Q I q => h.run pins s σ H Q I (w _ _ _ q)⟩
theorem PA.weak {X : Cx} {e : List Expr} {t t' : TA} (h : PA X e t) (w : ∀ σ H Q, t' σ H Q → t σ H Q) : PA X e t' := ⟨fun pos pins s σ H Q I q => h.run pos pins s σ H Q I (w _ _ _ q)⟩
theorem PS.weak {X : Cx} {e : Stmt} {t t' : TS} (h : PS X e t) (w : ∀ D σ H, t' D σ H → t D σ H) : PS X e t' := ⟨fun pins s σ H D I q => h.run pins s σ H D I (w _ _ _ q)⟩
theorem PSs.weak {X : Cx} {e : List Stmt} {t t' : TS} (h : PSs X e t) (w : ∀ D σ H, t' D σ H → t D σ H) : PSs X e t' := ⟨fun pins s σ H D I q => h.run pins s σ H D I (w _ _ _ q)⟩
structure Told (K : PySem.W.Frag) (W : WX) (G : Gm) {α : Type} (m : M α) (P : α → Hp → Hp → Prop) (σ : St) (H : Hp) (B : Bs) (tl : List Nat) (F : Hp) : Prop where
  st : Stt B tl G F H σ
  ne : m ≠ none
  ok : ∀ a, m = M.ok a → ∀ F' H', Gr F H F' H' → P a F' H'
  er : ∀ e, m = M.err e → ∀ F' H', Gr F H F' H' → W (ec K e) none σ H'
def tE (K : PySem.W.Frag) (W : WX) (G : Gm) {α : Type} (m : M α) (R : Rl α) : TE := fun σ H Q => ∃ B tl F, Told K W G m (fun a F' H' => ∀ v, R.r a H F' H' v → Q v H') σ H B tl F
abbrev FE (X : Cx) (W : WX) (G : Gm) (e : Expr) {α : Type} (m : M α) (R : Rl α) : Prop := PE X e (tE X.K W G m R)
def tT (K : PySem.W.Frag) (W : WX) (G : Gm) (m : M Bool) : TT := fun σ H Q => ∃ B tl F, Told K W G m (fun a F' H' => Q a H') σ H B tl F
abbrev FT (X : Cx) (W : WX) (G : Gm) (e : Expr) (m : M Bool) : Prop := PT X e (tT X.K W G m)
structure Ra (α : Type) where
  r : α → Hp → Hp → Hp → List V → Prop
  st : ∀ {a H0 F H v F' H'}, r a H0 F H v → Gr F H F' H' → r a H0 F' H' v
  pre : ∀ {a H0 H1 F H v}, r a H1 F H v → Kn H0 H1 → r a H0 F H v
def ra0 : Ra Unit := ⟨fun _ _ _ _ vs => vs = [], fun h _ => h, fun h _ => h⟩
def rac {α β : Type} (R : Rl α) (T : Ra β) : Ra (α × β) := ⟨fun a H0 F H vs => ∃ v r, vs = v :: r ∧ R.r a.1 H0 F H v ∧ T.r a.2 H0 F H r,
  fun ⟨v, r, e, h, t⟩ g => ⟨v, r, e, R.st h g, T.st t g⟩, fun ⟨v, r, e, h, t⟩ g => ⟨v, r, e, R.pre h g, T.pre t g⟩⟩
def tA (K : PySem.W.Frag) (W : WX) (G : Gm) {α : Type} (m : M α) (R : Ra α) : TA := fun σ H Q => ∃ B tl F, Told K W G m (fun a F' H' => ∀ vs, R.r a H F' H' vs → Q vs H') σ H B tl F
abbrev FA (X : Cx) (W : WX) (G : Gm) (es : List Expr) {α : Type} (m : M α) (R : Ra α) : Prop := PA X es (tA X.K W G m R)
inductive Fl (ρ b s : Type) where
  | ret (r : ρ)
  | nx (x : s)
  | bk (x : b)
  | ct (x : b)
structure EH (ε : Type) where
  cls : ε → Er
  G : ε → Gm
def eh0 (n : Nat) : EH Er := ⟨fun e => e, fun _ => List.replicate n none⟩
structure Pay {ε : Type} (Eh : EH ε) (G : Gm) (p : Er → ε) : Prop where
  c : ∀ e, Eh.cls (p e) = e
  i : ∀ e, Imp G (Eh.G (p e))
theorem pay0 {G : Gm} {n : Nat} (h : G.length = n) : Pay (eh0 n) G (fun e => e) := ⟨fun _ => rfl, fun _ => (Le.none h).imp⟩
structure ToldS (K : PySem.W.Frag) (W : WX) {ε : Type} (Eh : EH ε) (tl : List Nat) (G : Gm) {ρ b s : Type} (m : Mg ε (Fl ρ b s)) (R : ρ → V → Gm) (Gb : b → Gm) (N : s → Gm) (D : Ends) (σ : St) (H : Hp) (B : Bs) (F : Hp) : Prop where
  st : Stt B tl G F H σ
  ne : m ≠ none
  ret : ∀ r, m = M.ok (.ret r) → ∀ v σ' F' H', Stt B tl (R r v) F' H' σ' → D.rt v H'
  nx : ∀ x, m = M.ok (.nx x) → ∀ σ' F' H', Stt B tl (N x) F' H' σ' → D.nx σ' H'
  bk : ∀ x, m = M.ok (.bk x) → ∀ σ' F' H', Stt B tl (Gb x) F' H' σ' → D.bk σ' H'
  ct : ∀ x, m = M.ok (.ct x) → ∀ σ' F' H', Stt B tl (Gb x) F' H' σ' → D.ct σ' H'
  er : ∀ e, m = M.err e → ∀ σ' F' H', Stt B tl (Eh.G e) F' H' σ' → W (ec K (Eh.cls e)) none σ' H'
def tFS (K : PySem.W.Frag) (W : WX) {ε : Type} (Eh : EH ε) (tl : List Nat) (G : Gm) {ρ b s : Type} (m : Mg ε (Fl ρ b s)) (R : ρ → V → Gm) (Gb : b → Gm) (N : s → Gm) : TS := fun D σ H => ∃ B F, ToldS K W Eh tl G m R Gb N D σ H B F
abbrev FS (X : Cx) (W : WX) {ε : Type} (Eh : EH ε) (tl : List Nat) (G : Gm) (sts : List Stmt) {ρ b s : Type} (m : Mg ε (Fl ρ b s)) (R : ρ → V → Gm) (Gb : b → Gm) (N : s → Gm) : Prop := PSs X sts (tFS X.K W Eh tl G m R Gb N)
structure ToldX (K : PySem.W.Frag) (W : WX) {ε : Type} (Eh : EH ε) (tl : List Nat) (G : Gm) {α : Type} (m : Mg ε α) (N : α → V → Gm) (P : α → V → Hp → Hp → Prop) (σ : St) (H : Hp) (B : Bs) (F : Hp) : Prop where
  st : Stt B tl G F H σ
  ne : m ≠ none
  ok : ∀ a, m = M.ok a → ∀ v F' H', Ex F F' → Stt B tl (N a v) F' H' σ → P a v F' H'
  er : ∀ e, m = M.err e → ∀ F' H', Stt B tl (Eh.G e) F' H' σ → W (ec K (Eh.cls e)) none σ H'
def tX (K : PySem.W.Frag) (W : WX) {ε : Type} (Eh : EH ε) (tl : List Nat) (G : Gm) {α : Type} (m : Mg ε α) (R : α → Hp → V → Prop) (N : α → V → Gm) : TE := fun σ H Q => ∃ B F, ToldX K W Eh tl G m N (fun a v F' H' => R a F' v → Q v H') σ H B F
abbrev FX (X : Cx) (W : WX) {ε : Type} (Eh : EH ε) (tl : List Nat) (G : Gm) (e : Expr) {α : Type} (m : Mg ε α) (R : α → Hp → V → Prop) (N : α → V → Gm) : Prop := PE X e (tX X.K W Eh tl G m R N)
section
variable {X : Cx} {W : WX} {G : Gm}
theorem fe_now {e : Expr} {t : TE} {α : Type} {a : α} {R : Rl α} (h : PE X e t)
    (w : ∀ B tl σ F H (Q : VK), Stt B tl G F H σ → (∀ v F' H', Gr F H F' H' → R.r a H F' H' v → Q v H') → t σ H Q) : FE X W G e (M.ok a) R :=
  PE.weak h fun σ H Q ⟨B, tl, F, T⟩ => w B tl σ F H Q T.st fun v F' H' g r => T.ok a rfl F' H' g v r
def Gives {α : Type} (s : Sl) (a : α) (R : Rl α) : Prop := ∀ Y F H v ms, s.r Y F H v ms → Ex F H → Ex Y H → (∀ x ∈ ms, F x = none ∧ NT H x) → ∀ H0, R.r a H0 F H v
theorem gives_v {α : Type} {R : Rf α} {a : α} : Gives (sv R a) a R.up := fun Y F H v ms h _ _ _ _ => h.1
theorem gives_o {α : Type} {T : Th α} {a : α} : Gives (ob T a) a (nw T) := fun Y F H v ms h x _ _ _ => T.ord h (fun x _ o e => e) x
theorem gives_b {α : Type} {T : Th α} {a : α} : Gives (bw T a) a (nw T) := fun Y F H v ms h x y _ _ => T.rst h.1 (XS.refl _) y.xs
theorem gives_pn {v0 : V} {T : Sl} {α : Type} {a : α} {R : Rl α} (h : Gives T a R) : Gives (pn v0 T) a R := fun Y F H v ms ⟨_, h1⟩ x y k H0 => h Y F H v ms h1 x y k H0
theorem gives_V {v0 : V} {T : Sl} : Gives (pn v0 T) () (rV v0) := fun Y F H v ms h _ _ _ _ => h.1
theorem fe_var (i : Nat) {x : Str} {pos : Pos} {s : Sl} {α : Type} {a : α} {R : Rl α} (hG : G[i]? = some (some s) := by rfl) (hs : Gives s a R) (hN : X.N[i]? = some x := by rfl) (hv : Vis X.env.scope x := by first | exact Or.inl rfl | exact Or.inr (Or.inl rfl) | exact Or.inr (Or.inr rfl))
    (hd : (x == ("__debug__" : Str)) = false := by decide) (hcd : (x == ("__classdict__" : Str)) = false := by decide) : FE X W G (.Name x pos) (M.ok a) R := by
  refine ⟨fun pins s' σ H Q I ⟨B, tl, F, T⟩ => ?_⟩
  refine (pe_var hN hv hd hcd).run pins s' σ H Q I ?_
  have hi : i < σ.length := by
    rw [I.len]
    exact (List.getElem?_eq_some_iff.mp hN).1
  obtain ⟨ms, z⟩ := T.st.sl
  obtain ⟨v, h1, h2⟩ := z.val hG hi
  exact ⟨v, h1, T.ok a rfl F H (Gr.refl T.st.fh) v (hs _ F H v _ h2 T.st.fh T.st.yh (fun x hx => z.mem i x hx) H)⟩
theorem fe_int {i : Int} {j : Nat} {pos : Pos} : FE X W G (.Constant (.int i) j pos) (M.ok i) fInt.up := fe_now pe_int fun B tl σ F H Q st k => k _ F H (Gr.refl st.fh) rfl
theorem fe_bool {i : Bool} {j : Nat} {pos : Pos} : FE X W G (.Constant (.bool i) j pos) (M.ok i) fBool.up := fe_now pe_bl fun B tl σ F H Q st k => k _ F H (Gr.refl st.fh) rfl
theorem fe_none {j : Nat} {pos : Pos} : FE X W G (.Constant .none j pos) (M.ok ()) fUnit.up := fe_now pe_non fun B tl σ F H Q st k => k _ F H (Gr.refl st.fh) rfl
theorem fe_str {x : Str} {j : Nat} {pos : Pos} (hl : tOk x.cps.toList := by decide +kernel) : FE X W G (.Constant (.str x) j pos) (M.ok x.cps.toList) fTxt.up := fe_now pe_str fun B tl σ F H Q st k => k _ F H (Gr.refl st.fh) ⟨by rw [S_of], hl⟩
theorem fe_glob {x : Str} {pos : Pos} {v : V} {u : Value} {α : Type} {a : α} {R : Rf α} (hg : Gl X x) (hm : X.mg x = some u) (r : RelV v u) (hr : ∀ F, R.r a F v) (hd : (x == ("__debug__" : Str)) = false := by decide) : FE X W G (.Name x pos) (M.ok a) R.up :=
  fe_now (pe_glob hg hm r hd) fun B tl σ F H Q st k => k v F H (Gr.refl st.fh) (hr F)
theorem fe_globI {x : Str} {pos : Pos} {i : Int} (hg : Gl X x) (hm : ∃ t, X.mg x = some (.int i t)) (hd : (x == ("__debug__" : Str)) = false := by decide) : FE X W G (.Name x pos) (M.ok i) fInt.up := by
  obtain ⟨t, hm⟩ := hm
  exact fe_glob (v := .int i) hg hm ⟨t, rfl⟩ (fun _ => rfl) hd
theorem Told.seq {K : PySem.W.Frag} {α β : Type} {ma : M α} {f : α → M β} {P : β → Hp → Hp → Prop} {P1 : α → Hp → Hp → Prop} {σ : St} {H : Hp} {B : Bs} {tl : List Nat} {F : Hp} (T : Told K W G (ma.bind f) P σ H B tl F)
    (k : ∀ a F1 H1, ma = M.ok a → Gr F H F1 H1 → Told K W G (f a) P σ H1 B tl F1 → P1 a F1 H1) : Told K W G ma P1 σ H B tl F := by
  refine ⟨T.st, ?_, ?_, ?_⟩
  · intro e
    exact T.ne (by rw [e]; rfl)
  · rintro a rfl F1 H1 g1
    exact k a F1 H1 rfl g1 ⟨T.st.grow g1, T.ne, fun b e F' H' g => T.ok b e F' H' (g1.trans g), fun e q F' H' g => T.er e q F' H' (g1.trans g)⟩
  · rintro e rfl F1 H1 g1
    exact T.er e rfl F1 H1 g1
theorem Told.out {K : PySem.W.Frag} {α : Type} {m : M α} {P : α → Hp → Hp → Prop} {σ : St} {H : Hp} {B : Bs} {tl : List Nat} {F : Hp} (T : Told K W G m P σ H B tl F) (hn : ∀ e, m ≠ M.err e) : ∃ a, m = M.ok a ∧ P a F H := by
  cases q : m with
  | none => exact absurd q T.ne
  | some r =>
    cases r with
    | error e => exact absurd q (hn e)
    | ok a => exact ⟨a, rfl, T.ok a q F H (Gr.refl T.st.fh)⟩
theorem Told.fh {K : PySem.W.Frag} {α : Type} {m : M α} {P : α → Hp → Hp → Prop} {σ : St} {H : Hp} {B : Bs} {tl : List Nat} {F : Hp} (T : Told K W G m P σ H B tl F) : Ex F H := T.st.fh
structure OpP {α β γ : Type} (r : R2) (A : Rl α) (B : Rl β) (a : α) (b : β) (m : M γ) (R : Rl γ) : Prop where
  ne : ∀ e, m ≠ M.err e
  run : ∀ F H v w H0 (Q : VK), Ex F H → A.r a H0 F H v → B.r b H0 F H w → ∀ c, m = M.ok c → (∀ z F' H', Gr F H F' H' → R.r c H F' H' z → Q z H') → r v w H Q
theorem op_run {K : PySem.W.Frag} {α β γ : Type} {r : R2} {ta tb : TE} {ma : M α} {mb : M β} {g : α → β → M γ} {A : Rl α} {B : Rl β} {R : Rl γ} (hl : ∀ a b, OpP r A B a b (g a b) R) {σ : St} {H : Hp} {Q : VK}
    (ha : ∀ σ H Q, tE K W G ma A σ H Q → ta σ H Q) (hb : ∀ σ H Q, tE K W G mb B σ H Q → tb σ H Q)
    (h : tE K W G (ma.bind fun x => mb.bind fun y => g x y) R σ H Q) : tOp r ta tb σ H Q := by
  obtain ⟨Bs, tl, F, T⟩ := h
  refine ha _ _ _ ⟨Bs, tl, F, T.seq fun x F1 H1 _ g1 T1 v rv => hb _ _ _ ⟨Bs, tl, F1, T1.seq fun y F2 H2 _ g2 T2 w rw => ?_⟩⟩
  obtain ⟨c, e, q⟩ := T2.out (hl x y).ne
  exact (hl x y).run F2 H2 v w H Q T2.fh (A.st rv g2) (B.pre rw g1.h.kn) c e fun z F' H' g3 rz => T2.ok c e F' H' g3 z (R.pre rz (g1.h.trans g2.h).kn)
theorem fe_bin {α β γ : Type} {op : Operator} {r : R2} {a b : Expr} {pos : Pos} {ma : M α} {mb : M β} {g : α → β → M γ} {A : Rl α} {B : Rl β} {R : Rl γ} (ho : OpR X (binaryOp op) r) (hl : ∀ a b, OpP r A B a b (g a b) R) (ha : FE X W G a ma A) (hb : FE X W G b mb B) :
    FE X W G (.BinOp a op b pos) (ma.bind fun x => mb.bind fun y => g x y) R := PE.weak (pe_op ho ha hb) fun _ _ _ h => op_run hl (fun _ _ _ z => z) (fun _ _ _ z => z) h
theorem op_runV {K : PySem.W.Frag} {α β γ : Type} {r : R2} {ta tb : TE} {x : α} {y : β} {m : M γ} {A : Rl α} {B : Rl β} {R : Rl γ} (hl : OpP r A B x y m R) {σ : St} {H : Hp} {Q : VK}
    (ha : ∀ σ H Q, tE K W G (M.ok x) A σ H Q → ta σ H Q) (hb : ∀ σ H Q, tE K W G (M.ok y) B σ H Q → tb σ H Q) (h : tE K W G m R σ H Q) : tOp r ta tb σ H Q := by
  obtain ⟨Bs, tl, F, T⟩ := h
  have T : Told K W G ((M.ok x).bind fun _ => (M.ok y).bind fun _ => m) _ σ H Bs tl F := T
  refine ha _ _ _ ⟨Bs, tl, F, T.seq fun x' F1 H1 ex g1 T1 v rv => hb _ _ _ ⟨Bs, tl, F1, T1.seq fun y' F2 H2 ey g2 T2 w rw => ?_⟩⟩
  cases M.ok_inj ex
  cases M.ok_inj ey
  obtain ⟨c, e, q⟩ := T2.out hl.ne
  exact hl.run F2 H2 v w H Q T2.fh (A.st rv g2) (B.pre rw g1.h.kn) c e fun z F' H' g3 rz => T2.ok c e F' H' g3 z (R.pre rz (g1.h.trans g2.h).kn)
theorem fv_bin {α β γ : Type} {op : Operator} {r : R2} {a b : Expr} {pos : Pos} {x : α} {y : β} {m : M γ} {A : Rl α} {B : Rl β} {R : Rl γ} (ho : OpR X (binaryOp op) r) (hl : OpP r A B x y m R) (ha : FE X W G a (M.ok x) A) (hb : FE X W G b (M.ok y) B) :
    FE X W G (.BinOp a op b pos) m R := PE.weak (pe_op ho ha hb) fun _ _ _ h => op_runV hl (fun _ _ _ z => z) (fun _ _ _ z => z) h
theorem fe_cmp {α β γ : Type} {op : CmpOp} {r : R2} {a b : Expr} {pos : Pos} {ma : M α} {mb : M β} {g : α → β → M γ} {A : Rl α} {B : Rl β} {R : Rl γ} (ho : OpR X (compareOp op) r) (hl : ∀ a b, OpP r A B a b (g a b) R) (ha : FE X W G a ma A) (hb : FE X W G b mb B) (hm : behindInMarks op b = false := by first | exact nomark _ | rfl) :
    FE X W G (.Compare a [op] [b] pos) (ma.bind fun x => mb.bind fun y => g x y) R := PE.weak (pe_cmpR ho ha hb hm) fun _ _ _ h => op_run hl (fun _ _ _ z => z) (fun _ _ _ z => z) h
theorem fv_cmp {α β γ : Type} {op : CmpOp} {r : R2} {a b : Expr} {pos : Pos} {x : α} {y : β} {m : M γ} {A : Rl α} {B : Rl β} {R : Rl γ} (ho : OpR X (compareOp op) r) (hl : OpP r A B x y m R) (ha : FE X W G a (M.ok x) A) (hb : FE X W G b (M.ok y) B) (hm : behindInMarks op b = false := by first | exact nomark _ | rfl) :
    FE X W G (.Compare a [op] [b] pos) m R := PE.weak (pe_cmpR ho ha hb hm) fun _ _ _ h => op_runV hl (fun _ _ _ z => z) (fun _ _ _ z => z) h
theorem te_tt {K : PySem.W.Frag} {m : M Bool} {σ : St} {H : Hp} {Q : Bool → Hp → Prop} (h : tT K W G m σ H Q) : tE K W G m fBool.up σ H (fun x H' => ∃ k, x = .bl k ∧ Q k H') := by
  obtain ⟨Bs, tl, F, T⟩ := h
  exact ⟨Bs, tl, F, T.st, T.ne, fun b e F' H' g v r => ⟨b, r, T.ok b e F' H' g⟩, T.er⟩
theorem ft_cmp {α β : Type} {op : CmpOp} {r : R2} {a b : Expr} {pos : Pos} {ma : M α} {mb : M β} {g : α → β → M Bool} {A : Rl α} {B : Rl β} (ho : OpR X (compareOp op) r) (hl : ∀ a b, OpP r A B a b (g a b) fBool.up) (ha : FE X W G a ma A) (hb : FE X W G b mb B) (hm : behindInMarks op b = false := by first | exact nomark _ | rfl) :
    FT X W G (.Compare a [op] [b] pos) (ma.bind fun x => mb.bind fun y => g x y) := PT.weak (pt_cmpR ho ha hb hm) fun _ _ _ h => op_run hl (fun _ _ _ z => z) (fun _ _ _ z => z) (te_tt h)
theorem tv_cmp {α β : Type} {op : CmpOp} {r : R2} {a b : Expr} {pos : Pos} {x : α} {y : β} {m : M Bool} {A : Rl α} {B : Rl β} (ho : OpR X (compareOp op) r) (hl : OpP r A B x y m fBool.up) (ha : FE X W G a (M.ok x) A) (hb : FE X W G b (M.ok y) B) (hm : behindInMarks op b = false := by first | exact nomark _ | rfl) :
    FT X W G (.Compare a [op] [b] pos) m := PT.weak (pt_cmpR ho ha hb hm) fun _ _ _ h => op_runV hl (fun _ _ _ z => z) (fun _ _ _ z => z) (te_tt h)
theorem ft_val {e : Expr} {m : M Bool} (h : FE X W G e m fBool.up) (he : ∀ whole, isTrue e X.env whole = (do let v ← whole; standAt e.pos; holding [v] (truthy v)) := by intro _; rfl) : FT X W G e m :=
  PT.weak (pt_val h he) fun _ _ _ z => te_tt z
theorem ft_not {a : Expr} {pos : Pos} {m : M Bool} (h : FT X W G a m) : FT X W G (.UnaryOp .Not a pos) (m.bind fun b => M.ok (!b)) := PT.weak (pt_not h) fun σ H Q ⟨B, tl, F, T⟩ =>
  ⟨B, tl, F, T.seq fun b F1 H1 _ g1 T1 => T1.ok _ rfl F1 H1 (Gr.refl g1.fh)⟩
theorem tv_not {a : Expr} {pos : Pos} {b : Bool} (h : FT X W G a (M.ok b)) : FT X W G (.UnaryOp .Not a pos) (M.ok (!b)) := ft_not h
abbrev FW (X : Cx) (W : WX) (G : Gm) (e : Expr) (m : M Bool) : Prop := PW X e (tT X.K W G m)
theorem PW.weak {e : Expr} {t t' : TT} (h : PW X e t) (w : ∀ σ H Q, t' σ H Q → t σ H Q) : PW X e t' := ⟨fun whole pins s σ H Q I q => h.run whole pins s σ H Q I (w _ _ _ q)⟩
theorem fw_and1 {a : Expr} {pos : Pos} {m : M Bool} (h : FT X W G a m) : FW X W G (.BoolOp .And [a] pos) m := pw_and1 h
theorem fw_or1 {a : Expr} {pos : Pos} {m : M Bool} (h : FT X W G a m) : FW X W G (.BoolOp .Or [a] pos) m := pw_or1 h
theorem fw_and {a b : Expr} {rest : List Expr} {pos : Pos} {ma mb : M Bool} (ha : FT X W G a ma) (hb : FW X W G (.BoolOp .And (b :: rest) pos) mb) : FW X W G (.BoolOp .And (a :: b :: rest) pos) (ma.bind fun x => if x = true then mb else M.ok false) :=
  PW.weak (pw_and ha hb) fun σ H Q ⟨B, tl, F, T⟩ => ⟨B, tl, F, T.seq fun x F1 H1 _ g1 T1 => by
    cases x with
    | true => exact ⟨B, tl, F1, T1⟩
    | false => exact T1.ok false rfl F1 H1 (Gr.refl g1.fh)⟩
theorem fw_or {a b : Expr} {rest : List Expr} {pos : Pos} {ma mb : M Bool} (ha : FT X W G a ma) (hb : FW X W G (.BoolOp .Or (b :: rest) pos) mb) : FW X W G (.BoolOp .Or (a :: b :: rest) pos) (ma.bind fun x => if x = true then M.ok true else mb) :=
  PW.weak (pw_or ha hb) fun σ H Q ⟨B, tl, F, T⟩ => ⟨B, tl, F, T.seq fun x F1 H1 _ g1 T1 => by
    cases x with
    | true => exact T1.ok true rfl F1 H1 (Gr.refl g1.fh)
    | false => exact ⟨B, tl, F1, T1⟩⟩
theorem fw_t {e : Expr} {m : M Bool} (h : FW X W G e m) : FT X W G e m := PW.pt h
theorem vw_or {a b : Expr} {rest : List Expr} {pos : Pos} {x y : Bool} (ha : FT X W G a (M.ok x)) (hb : FW X W G (.BoolOp .Or (b :: rest) pos) (M.ok y)) : FW X W G (.BoolOp .Or (a :: b :: rest) pos) (M.ok (x || y)) := by
  have h := fw_or ha hb
  cases x <;> exact h
theorem fe_one {op : BoolOp} {a : Expr} {pos : Pos} {m : M Bool} (h : FE X W G a m fBool.up) : FE X W G (.BoolOp op [a] pos) m fBool.up := pe_one h
theorem fe_and {a b : Expr} {rest : List Expr} {pos : Pos} {ma mb : M Bool} (ha : FE X W G a ma fBool.up) (hb : FE X W G (.BoolOp .And (b :: rest) pos) mb fBool.up) : FE X W G (.BoolOp .And (a :: b :: rest) pos) (ma.bind fun x => if x = true then mb else M.ok false) fBool.up :=
  PE.weak (pe_and ha hb) fun σ H Q ⟨B, tl, F, T⟩ => ⟨B, tl, F, T.seq fun x F1 H1 _ g1 T1 v r => ⟨x, r, by
    cases x with
    | true => exact ⟨B, tl, F1, T1.st, T1.ne, fun a e F' H' g v r => T1.ok a e F' H' g v r, T1.er⟩
    | false => exact T1.ok false rfl F1 H1 (Gr.refl g1.fh) _ rfl⟩⟩
theorem fe_imp {α : Type} {e : Expr} {m : M α} {R R' : Rl α} (h : FE X W G e m R) (w : ∀ a H0 F H v, Ex F H → R.r a H0 F H v → R'.r a H0 F H v) : FE X W G e m R' :=
  PE.weak h fun σ H Q ⟨B, tl, F, T⟩ => ⟨B, tl, F, T.st, T.ne, fun a e F' H' g v r => T.ok a e F' H' g v (w _ _ _ _ _ g.fh r), T.er⟩
theorem fe_freeze {α : Type} {e : Expr} {m : M α} {T : Th α} (h : FE X W G e m (ro T)) : FE X W G e m (fz T).up :=
  PE.weak h fun σ H Q ⟨B, tl, F, D⟩ => ⟨B, tl, F, D.st, D.ne, fun a e F' H' g v ⟨ms, ho, k⟩ => by
    let F2 : Hp := fun x => if x ∈ ms then H' x else F' x
    have x1 : Ex F' F2 := fun x o hx => by
      show (if x ∈ ms then H' x else F' x) = some o
      by_cases z : x ∈ ms
      · rw [(k x z).2.1] at hx; cases hx
      · rw [if_neg z]; exact hx
    have x2 : Ex F2 H' := fun x o hx => by
      have hx : (if x ∈ ms then H' x else F' x) = some o := hx
      by_cases z : x ∈ ms
      · rw [if_pos z] at hx; exact hx
      · rw [if_neg z] at hx; exact g.fh x o hx
    have g2 : Gr F H F2 H' := ⟨g.f.trans x1, g.h, x2, fun x h1 h2 => by
      show (if x ∈ ms then H' x else F' x) = none
      rw [if_neg (fun z => h2.ne (k x z).1)]
      exact g.no x h1 h2⟩
    have hr : T.rd a F' F2 v := T.ord ho (fun x hx o ho => by show (if x ∈ ms then H' x else F' x) = some o; rw [if_pos hx]; exact ho) x1
    exact D.ok a e F2 H' g2 v (T.rst hr x1.xs (XS.refl _)), D.er⟩
theorem fe_borrow {α : Type} {e : Expr} {m : M α} {T : Th α} (h : FE X W G e m (ro T)) : FE X W G e m (nw T) :=
  fe_imp h fun a H0 F H v x ⟨ms, ho, k⟩ => T.ord ho (fun _ _ _ e => e) x
theorem fe_read {α : Type} {e : Expr} {m : M α} {T : Th α} (h : FE X W G e m (fz T).up) : FE X W G e m (nw T) :=
  fe_imp h fun a H0 F H v x hr => T.rst hr (XS.refl _) x.xs
end
end LK
namespace LK
open PySem L2
section
variable {K : PySem.W.Frag}
theorem opp {α β γ : Type} {r : R2} {A : Rf α} {B : Rf β} {a : α} {b : β} {c : γ} {R : Rf γ} (h : ∀ F H v w (Q : VK), Ex F H → A.r a F v → B.r b F w → (∀ z, R.r c F z → Q z H) → r v w H Q) : OpP r A.up B.up a b (M.ok c) R.up :=
  ⟨fun e q => (nomatch q), fun F H v w H0 Q x ha hb c' e k => by
    cases M.ok_inj e
    exact h F H v w Q x ha hb fun z hz => k z F H (Gr.refl x) hz⟩
theorem need_ok {ε α : Type} {c : Prop} [Decidable c] {a b : α} (h : (M.need c (M.ok a) : Mg ε α) = M.ok b) : c ∧ a = b := by
  unfold M.need at h
  split at h
  · rename_i q
    exact ⟨q, M.ok_inj h⟩
  · cases h
theorem need_err {ε α : Type} {c : Prop} [Decidable c] {a : α} (e : ε) : M.need c (M.ok a) ≠ M.err e := by
  unfold M.need
  split <;> exact fun h => nomatch h
theorem oppN {α β γ : Type} {r : R2} {A : Rf α} {B : Rf β} {a : α} {b : β} {c : γ} {R : Rf γ} {C : Prop} [Decidable C] (h : C → ∀ F H v w (Q : VK), Ex F H → A.r a F v → B.r b F w → (∀ z, R.r c F z → Q z H) → r v w H Q) : OpP r A.up B.up a b (M.need C (M.ok c)) R.up :=
  ⟨need_err, fun F H v w H0 Q x ha hb c' e k => by
    obtain ⟨hc, rfl⟩ := need_ok e
    exact h hc F H v w Q x ha hb fun z hz => k z F H (Gr.refl x) hz⟩
theorem ol_I0 {g : Int → Int → Int} {a b : Int} : OpP (rI0 fun i j => .int (g i j)) fInt.up fInt.up a b (M.ok (g a b)) fInt.up := opp fun F H v w Q x ha hb k => ⟨a, b, ha, hb, k _ rfl⟩
theorem ol_B0 {g : Int → Int → Bool} {a b : Int} : OpP (rI0 fun i j => .bl (g i j)) fInt.up fInt.up a b (M.ok (g a b)) fBool.up := opp fun F H v w Q x ha hb k => ⟨a, b, ha, hb, k _ rfl⟩
theorem ol_Ic {C : Int → Int → Prop} {g : Int → Int → Int} {a b : Int} (hc : C a b) : OpP (rI C fun i j => .int (g i j)) fInt.up fInt.up a b (M.ok (g a b)) fInt.up := opp fun F H v w Q x ha hb k => ⟨a, b, ha, hb, hc, k _ rfl⟩
theorem cmul_r {a b : Int} (h : -(2 ^ 64) < b ∧ b < 2 ^ 64) : CMul a b := .inr h
theorem ol_cat {a b : List Nat} : OpP (fun x y H Q => ∃ i j, x = .str i ∧ y = .str j ∧ i.length + j.length ≤ sizeLine ∧ Q (.str (i ++ j)) H) fTxt.up fTxt.up a b (M.need (a.length + b.length ≤ sizeLine) (M.ok (a ++ b))) fTxt.up :=
  oppN fun hc F H v w Q x ha hb k => ⟨S a, S b, ha.1, hb.1, by rw [S_len, S_len]; exact hc, k _ ⟨by
    show V.str (S a ++ S b) = V.str (S (a ++ b))
    have e : S a ++ S b = S (a ++ b) := by
      show (⟨a.toArray ++ b.toArray⟩ : Str) = ⟨(a ++ b).toArray⟩
      simp
    rw [e], tOk.mk (by rw [List.length_append]; exact hc) fun c hm => by
    rcases List.mem_append.mp hm with q | q
    · exact ha.2.all c q
    · exact hb.2.all c q⟩⟩
theorem dec_S {a b : List Nat} : decide (V.str (S a) = V.str (S b)) = decide (a = b) := by
  by_cases h : a = b
  · subst h; simp
  · rw [decide_eq_false h, decide_eq_false]
    intro e
    injection e with e
    exact h (S_inj e)
theorem ol_eqS {a b : List Nat} : OpP rEq fTxt.up fTxt.up a b (M.ok (decide (a = b))) fBool.up := opp fun F H v w Q x ha hb k => by
  obtain ⟨rfl, _⟩ := ha
  obtain ⟨rfl, _⟩ := hb
  exact ⟨rfl, k _ (congrArg V.bl dec_S)⟩
theorem ol_neS {a b : List Nat} : OpP rNe fTxt.up fTxt.up a b (M.ok (!decide (a = b))) fBool.up := opp fun F H v w Q x ha hb k => by
  obtain ⟨rfl, _⟩ := ha
  obtain ⟨rfl, _⟩ := hb
  exact ⟨rfl, k _ (congrArg (fun z => V.bl (!z)) dec_S)⟩
theorem ol_eqI {a b : Int} : OpP rEq fInt.up fInt.up a b (M.ok (decide (a = b))) fBool.up := opp fun F H v w Q x ha hb k => by
  cases ha
  cases hb
  exact ⟨rfl, k _ (congrArg V.bl (by rw [dec_int, Bool.beq_eq_decide_eq]))⟩
theorem ol_neI {a b : Int} : OpP rNe fInt.up fInt.up a b (M.ok (!decide (a = b))) fBool.up := opp fun F H v w Q x ha hb k => by
  cases ha
  cases hb
  exact ⟨rfl, k _ (congrArg (fun z => V.bl (!z)) (by rw [dec_int, Bool.beq_eq_decide_eq]))⟩
theorem ol_strcmp {a b : List Nat} {f : List Nat → List Nat → Bool} : OpP (fun x y H Q => ∃ i j, x = .str i ∧ y = .str j ∧ Q (.bl (f i.cps.toList j.cps.toList)) H) fTxt.up fTxt.up a b (M.ok (f a b)) fBool.up := opp fun F H v w Q x ha hb k => by
  obtain ⟨rfl, _⟩ := ha
  obtain ⟨rfl, _⟩ := hb
  exact ⟨S a, S b, rfl, rfl, by rw [S_cps, S_cps]; exact k _ rfl⟩
def occIn (a b : List Nat) : Bool := !(Builtin.Str.occurrences (S b) (S a) 0 (S b).length 1).isEmpty
theorem ol_isN {α : Type} {A : Rf α} {a : Option α} {u : Unit} : OpP (fun x y H Q => y = .non ∧ Q (.bl (decide (x = .non))) H) (fOpt A).up fUnit.up a u (M.ok a.isNone) fBool.up := opp fun F H v w Q x ha hb k => by
  refine ⟨hb, ?_⟩
  cases a with
  | none =>
    cases ha
    exact k _ rfl
  | some a =>
    obtain ⟨_, h⟩ := ha
    rw [decide_eq_false h]
    exact k _ rfl
end
section
variable {K : PySem.W.Frag}
def at_ {α : Type} (xs : List α) (i : Int) : M α := match atI xs i with
  | some a => M.ok a
  | none => none
theorem Pw.atI {α : Type} {R : α → V → Prop} {as : List α} {vs : List V} (h : Pw R as vs) {i : Int} {a : α} (e : L2.atI as i = some a) : ∃ v, L2.atI vs i = some v ∧ R a v := by
  unfold L2.atI at e ⊢
  rw [← h.len]
  cases q : ixN as.length i with
  | none => rw [q] at e; cases e
  | some j =>
    rw [q] at e
    exact h.get e
theorem at_err {α : Type} {xs : List α} {i : Int} (e : Er) : at_ xs i ≠ M.err e := by
  unfold at_
  split <;> exact fun h => nomatch h
theorem at_ok {α : Type} {xs : List α} {i : Int} {a : α} (e : at_ xs i = M.ok a) : atI xs i = some a := by
  unfold at_ at e
  split at e
  · rename_i b q
    rw [q, M.ok_inj e]
  · cases e
theorem ol_ixL {α : Type} {A : Rf α} {as : List α} {i : Int} : OpP (rIxL K) (bLst K A) fInt.up as i (at_ as i) A.up :=
  ⟨at_err, fun F H v w H0 Q x ⟨p, vs, ev, h, q⟩ hb c e k => by
    cases hb
    subst ev
    obtain ⟨z, h1, h2⟩ := q.atI (at_ok e)
    exact ⟨p, vs, i, z, rfl, rfl, h, h1, k z F H (Gr.refl x) h2⟩⟩
theorem ol_ixS {as : List Nat} {i : Int} : OpP rIxS fTxt.up fInt.up as i ((at_ as i).bind fun c => M.ok [c]) fTxt.up := by
  refine ⟨fun e h => ?_, fun F H v w H0 Q x ⟨ev, hl⟩ hb c e k => ?_⟩
  · cases q : at_ as i with
    | none => rw [q] at h; cases h
    | some r =>
      cases r with
      | error e => exact absurd q (at_err e)
      | ok a => rw [q] at h; cases h
  · cases hb
    subst ev
    cases q : at_ as i with
    | none => rw [q] at e; cases e
    | some r =>
      cases r with
      | error e => exact absurd q (at_err e)
      | ok a =>
        rw [q] at e
        cases M.ok_inj e
        exact ⟨S as, i, a, rfl, rfl, by rw [S_len]; exact hl.len, by rw [S_cps]; exact at_ok q, k _ F H (Gr.refl x) ⟨rfl, hl.sub (by have := atI_get (at_ok q); obtain ⟨j, _, _, h, _⟩ := this; simp; omega) fun c hc => by
          obtain ⟨j, _, h, _⟩ := atI_get (at_ok q)
          cases List.mem_singleton.mp hc
          exact List.mem_of_getElem? h⟩⟩
inductive Part {α β : Type} (T : Tv α) (A : Rf β) : Nat → α → β → Prop where
  | mk {i : Nat} {a : α} {b : β} (h : ∀ F vs, T.r a F vs → ∃ v, vs[i]? = some v ∧ A.r b F v) : Part T A i a b
theorem part1 {α : Type} {A : Rf α} {a : α} : Part (tv1 A) A 0 a a := ⟨fun F vs ⟨x, e, h⟩ => ⟨x, by rw [e]; rfl, h⟩⟩
theorem part0 {α β : Type} {A : Rf α} {T : Tv β} {a : α × β} : Part (tvc A T) A 0 a a.1 := ⟨fun F vs ⟨x, r, e, h, t⟩ => ⟨x, by rw [e]; rfl, h⟩⟩
theorem partS {α β γ : Type} {A : Rf α} {T : Tv β} {C : Rf γ} {a : α × β} {i : Nat} {c : γ} (p : Part T C i a.2 c) : Part (tvc A T) C (i + 1) a c := ⟨fun F vs ⟨x, r, e, h, t⟩ => by
  obtain ⟨p⟩ := p
  obtain ⟨v, h1, h2⟩ := p F r t
  exact ⟨v, by rw [e]; exact h1, h2⟩⟩
theorem ol_ixT {α β : Type} {T : Tv α} {A : Rf β} {i : Nat} {a : α} {b : β} (p : Part T A i a b) : OpP (rIxT K) (fTup K T).up fInt.up a (i : Int) (M.ok b) A.up := opp fun F H v w Q x ⟨q, vs, ev, h, t⟩ hb k => by
  cases hb
  obtain ⟨p⟩ := p
  obtain ⟨z, h1, h2⟩ := p F vs t
  exact ⟨q, vs, i, z, ev, rfl, sqT_ex x h, atI_nat h1, k z h2⟩
end
section
variable {X : Cx} {W : WX} {G : Gm}
theorem fv_ix {α β γ : Type} {r : R2} {a b : Expr} {pos : Pos} {x : α} {y : β} {m : M γ} {A : Rl α} {B : Rl β} {R : Rl γ} (ho : IxR X r) (hl : OpP r A B x y m R) (ha : FE X W G a (M.ok x) A) (hb : FE X W G b (M.ok y) B) (hs : PlainIx b := by exact fun _ _ => rfl) :
    FE X W G (.Subscript a b pos) m R := PE.weak (pe_ix ho ha hb hs) fun _ _ _ h => op_runV hl (fun _ _ _ z => z) (fun _ _ _ z => z) h
theorem fe_ix {α β γ : Type} {r : R2} {a b : Expr} {pos : Pos} {ma : M α} {mb : M β} {g : α → β → M γ} {A : Rl α} {B : Rl β} {R : Rl γ} (ho : IxR X r) (hl : ∀ a b, OpP r A B a b (g a b) R) (ha : FE X W G a ma A) (hb : FE X W G b mb B) (hs : PlainIx b := by exact fun _ _ => rfl) :
    FE X W G (.Subscript a b pos) (ma.bind fun x => mb.bind fun y => g x y) R := PE.weak (pe_ix ho ha hb hs) fun _ _ _ h => op_run hl (fun _ _ _ z => z) (fun _ _ _ z => z) h
theorem fa_nil : FA X W G [] (M.ok ()) ra0 := PA.weak pa_nil fun σ H Q ⟨B, tl, F, T⟩ => T.ok () rfl F H (Gr.refl T.fh) [] rfl
theorem fa_cons {α β : Type} {e : Expr} {es : List Expr} {m : M α} {ms : M β} {R : Rl α} {T : Ra β} (he : FE X W G e m R) (hr : FA X W G es ms T) (hs : starEach (e :: es) X.env = (false, eval e X.env) :: starEach es X.env := by rfl) :
    FA X W G (e :: es) (m.bind fun x => ms.bind fun y => M.ok (x, y)) (rac R T) := PA.weak (pa_cons he hr hs) fun σ H Q ⟨B, tl, F, D⟩ =>
  ⟨B, tl, F, D.seq fun x F1 H1 _ g1 D1 v rv => ⟨B, tl, F1, D1.seq fun y F2 H2 _ g2 D2 vs rvs => D2.ok (x, y) rfl F2 H2 (Gr.refl g2.fh) (v :: vs) ⟨v, vs, rfl, R.st rv g2, T.pre rvs g1.h.kn⟩⟩⟩
theorem va_cons {α β : Type} {e : Expr} {es : List Expr} {x : α} {y : β} {R : Rl α} {T : Ra β} (he : FE X W G e (M.ok x) R) (hr : FA X W G es (M.ok y) T) (hs : starEach (e :: es) X.env = (false, eval e X.env) :: starEach es X.env := by rfl) :
    FA X W G (e :: es) (M.ok (x, y)) (rac R T) := fa_cons he hr hs
structure Lo {β : Type} (A : Rf β) {α : Type} (R : Ra α) (l : α → List β) : Prop where
  run : ∀ a H0 F H vs, R.r a H0 F H vs → Pw (fun x v => A.r x F v) (l a) vs
theorem lo_nil {β : Type} {A : Rf β} : Lo A ra0 (fun _ => []) := ⟨fun a H0 F H vs h => by cases h; exact .nil⟩
theorem lo_cons {β α : Type} {A : Rf β} {R : Ra α} {l : α → List β} (h : Lo A R l) : Lo A (rac A.up R) (fun a => a.1 :: l a.2) := ⟨fun a H0 F H vs ⟨v, r, e, h1, h2⟩ => by
  subst e
  exact .cons h1 (h.run _ _ _ _ _ h2)⟩
structure To {β : Type} (T : Tv β) {α : Type} (R : Ra α) (l : α → β) : Prop where
  run : ∀ a H0 F H vs, R.r a H0 F H vs → T.r (l a) F vs
theorem to_1 {β : Type} {A : Rf β} : To (tv1 A) (rac A.up ra0) (fun a => a.1) := ⟨fun a H0 F H vs ⟨v, r, e, h1, h2⟩ => by
  cases h2
  exact ⟨v, e, h1⟩⟩
theorem to_c {β γ α : Type} {A : Rf β} {T : Tv γ} {R : Ra α} {l : α → γ} (h : To T R l) : To (tvc A T) (rac A.up R) (fun a => (a.1, l a.2)) := ⟨fun a H0 F H vs ⟨v, r, e, h1, h2⟩ => ⟨v, r, e, h1, h.run _ _ _ _ _ h2⟩⟩
theorem fe_list {α β : Type} {es : List Expr} {pos : Pos} {m : M α} {R : Ra α} {A : Rf β} {l : α → List β} (h : FA X W G es m R) (hl : Lo A R l) (hz : ∀ a, (l a).length ≤ sizeLine := by intro a; exact Nat.le_of_ble_eq_true rfl) : FE X W G (.List es pos) (m.bind fun a => M.ok (l a)) (ro (tL X.K A)) :=
  PE.weak (pe_lst h) fun σ H Q ⟨B, tl, F, D⟩ => ⟨B, tl, F, D.seq fun a F1 H1 _ g1 D1 vs r => by
    have q := hl.run _ _ _ _ _ r
    refine ⟨by rw [← q.len]; exact hz a, fun p hp => D1.ok (l a) rfl F1 _ (Gr.newM g1.fh hp) (.ref p) ⟨[p], ⟨p, vs, rfl, upd_same, q, rfl⟩, fun x hx => ?_⟩⟩
    cases List.mem_singleton.mp hx
    exact ⟨g1.h.free hp, g1.fh.free hp, NT.up⟩⟩
theorem fv_list {α β : Type} {es : List Expr} {pos : Pos} {a : α} {R : Ra α} {A : Rf β} {l : α → List β} {ls : List β} (h : FA X W G es (M.ok a) R) (hl : Lo A R l) (hme : l a = ls := by rfl) (hz : ∀ a, (l a).length ≤ sizeLine := by intro a; exact Nat.le_of_ble_eq_true rfl) : FE X W G (.List es pos) (M.ok ls) (ro (tL X.K A)) := by
  rw [← hme]
  exact fe_list h hl hz
theorem fe_nil {β : Type} {A : Rf β} {pos : Pos} : FE X W G (.List [] pos) (M.ok []) (ro (tL X.K A)) := fv_list fa_nil lo_nil rfl (fun _ => Nat.zero_le _)
theorem fe_tup {α β : Type} {es : List Expr} {k : Nat} {pos : Pos} {m : M α} {R : Ra α} {T : Tv β} {l : α → β} (h : FA X W G es m R) (hl : To T R l) (hz : ∀ a H0 F H vs, R.r a H0 F H vs → vs.length ≤ sizeLine) : FE X W G (.Tuple es k pos) (m.bind fun a => M.ok (l a)) (fTup X.K T).up :=
  PE.weak (pe_tup h) fun σ H Q ⟨B, tl, F, D⟩ => ⟨B, tl, F, D.seq fun a F1 H1 _ g1 D1 vs r => by
    have q := hl.run _ _ _ _ _ r
    exact ⟨hz _ _ _ _ _ r, fun p hp => D1.ok (l a) rfl _ _ (Gr.newF g1.fh hp) (.ref p) ⟨p, vs, rfl, .inl (.inl upd_same), T.st q (Ex.new (g1.fh.free hp))⟩⟩⟩
theorem fv_tup {α β : Type} {es : List Expr} {k : Nat} {pos : Pos} {a : α} {R : Ra α} {T : Tv β} {l : α → β} {ls : β} (h : FA X W G es (M.ok a) R) (hl : To T R l) (hz : ∀ a H0 F H vs, R.r a H0 F H vs → vs.length ≤ sizeLine) (hme : l a = ls := by rfl) : FE X W G (.Tuple es k pos) (M.ok ls) (fTup X.K T).up := by
  rw [← hme]
  exact fe_tup h hl hz
theorem sz0 : ∀ (a : Unit) (H0 F H : Hp) (vs : List V), ra0.r a H0 F H vs → vs.length ≤ 0 := fun _ _ _ _ vs h => by cases h; exact Nat.le_refl 0
theorem szc {α β : Type} {R : Rl α} {T : Ra β} {n : Nat} (h : ∀ a H0 F H vs, T.r a H0 F H vs → vs.length ≤ n) : ∀ a H0 F H vs, (rac R T).r a H0 F H vs → vs.length ≤ n + 1 := fun a H0 F H vs ⟨v, r, e, _, t⟩ => by
  subst e
  exact Nat.succ_le_succ (h _ _ _ _ _ t)
theorem szl {α : Type} {R : Ra α} {n : Nat} (h : ∀ a H0 F H vs, R.r a H0 F H vs → vs.length ≤ n) (hn : n ≤ sizeLine := by decide) : ∀ a H0 F H vs, R.r a H0 F H vs → vs.length ≤ sizeLine := fun a H0 F H vs r => Nat.le_trans (h _ _ _ _ _ r) hn
structure CallP {α γ : Type} (r : List V → Hp → VK → Prop) (A : Ra α) (a : α) (m : M γ) (R : Rl γ) : Prop where
  ne : ∀ e, m ≠ M.err e
  run : ∀ F H vs H0 (Q : VK), Ex F H → A.r a H0 F H vs → ∀ c, m = M.ok c → (∀ z F' H', Gr F H F' H' → R.r c H F' H' z → Q z H') → r vs H Q
theorem fe_callB {α γ : Type} {id : String} {x : Str} {p pos : Pos} {e : Expr} {es : List Expr} {m : M α} {A : Ra α} {g : α → M γ} {R : Rl γ} {r : List V → Hp → VK → Prop} (hc : CallR X (.builtin id) r) (hl : ∀ a, CallP r A a (g a) R) (hm : X.mg x = none) (ha : FA X W G (e :: es) m A)
    (hg : Gl X x := by rfl) (hv : bootBuiltins x = some (.builtin id) := by decide +kernel) (hn : x ≠ "__name__" := by decide) (hdb : (x == ("__debug__" : Str)) = false := by decide) (he : starEach (e :: es) X.env = (false, eval e X.env) :: starEach es X.env := by rfl) (hpl : (backTo pos (starEach es X.env)).any (·.1) = false := by rfl) :
    FE X W G (.Call (.Name x p) (e :: es) [] pos) (m.bind g) R := PE.weak (pe_callB hc hg hm hv ha hn hdb he hpl) fun σ H Q ⟨B, tl, F, T⟩ => ⟨B, tl, F, T.seq fun a F1 H1 _ g1 T1 vs rv => by
    obtain ⟨c, ec, q⟩ := T1.out (hl a).ne
    exact (hl a).run F1 H1 vs H Q g1.fh rv c ec fun z F' H' g2 rz => T1.ok c ec F' H' g2 z (R.pre rz g1.h.kn)⟩
theorem fv_callB {α γ : Type} {id : String} {x : Str} {p pos : Pos} {e : Expr} {es : List Expr} {a : α} {A : Ra α} {m : M γ} {R : Rl γ} {r : List V → Hp → VK → Prop} (hc : CallR X (.builtin id) r) (hl : CallP r A a m R) (hm : X.mg x = none) (ha : FA X W G (e :: es) (M.ok a) A)
    (hg : Gl X x := by rfl) (hv : bootBuiltins x = some (.builtin id) := by decide +kernel) (hn : x ≠ "__name__" := by decide) (hdb : (x == ("__debug__" : Str)) = false := by decide) (he : starEach (e :: es) X.env = (false, eval e X.env) :: starEach es X.env := by rfl) (hpl : (backTo pos (starEach es X.env)).any (·.1) = false := by rfl) :
    FE X W G (.Call (.Name x p) (e :: es) [] pos) m R := PE.weak (pe_callB hc hg hm hv ha hn hdb he hpl) fun σ H Q ⟨B, tl, F, T⟩ => by
    have T : Told X.K W G ((M.ok a).bind fun _ => m) _ σ H B tl F := T
    refine ⟨B, tl, F, T.seq fun a' F1 H1 ea g1 T1 vs rv => ?_⟩
    cases M.ok_inj ea
    obtain ⟨c, ec, q⟩ := T1.out hl.ne
    exact hl.run F1 H1 vs H Q g1.fh rv c ec fun z F' H' g2 rz => T1.ok c ec F' H' g2 z (R.pre rz g1.h.kn)
theorem fe_callTy {α γ : Type} {id : String} {x : Str} {p pos : Pos} {e : Expr} {es : List Expr} {m : M α} {A : Ra α} {g : α → M γ} {R : Rl γ} {r : List V → Hp → VK → Prop} (hc : CallR X (.type id) r) (hl : ∀ a, CallP r A a (g a) R) (hm : X.mg x = none) (ha : FA X W G (e :: es) m A)
    (hg : Gl X x := by rfl) (hv : bootBuiltins x = some (.type id) := by decide +kernel) (hn : x ≠ "__name__" := by decide) (hdb : (x == ("__debug__" : Str)) = false := by decide) (he : starEach (e :: es) X.env = (false, eval e X.env) :: starEach es X.env := by rfl) (hpl : (backTo pos (starEach es X.env)).any (·.1) = false := by rfl) :
    FE X W G (.Call (.Name x p) (e :: es) [] pos) (m.bind g) R := PE.weak (pe_callTy hc hg hm hv ha hn hdb he hpl) fun σ H Q ⟨B, tl, F, T⟩ => ⟨B, tl, F, T.seq fun a F1 H1 _ g1 T1 vs rv => by
    obtain ⟨c, ec, q⟩ := T1.out (hl a).ne
    exact (hl a).run F1 H1 vs H Q g1.fh rv c ec fun z F' H' g2 rz => T1.ok c ec F' H' g2 z (R.pre rz g1.h.kn)⟩
theorem fv_callTy {α γ : Type} {id : String} {x : Str} {p pos : Pos} {e : Expr} {es : List Expr} {a : α} {A : Ra α} {m : M γ} {R : Rl γ} {r : List V → Hp → VK → Prop} (hc : CallR X (.type id) r) (hl : CallP r A a m R) (hm : X.mg x = none) (ha : FA X W G (e :: es) (M.ok a) A)
    (hg : Gl X x := by rfl) (hv : bootBuiltins x = some (.type id) := by decide +kernel) (hn : x ≠ "__name__" := by decide) (hdb : (x == ("__debug__" : Str)) = false := by decide) (he : starEach (e :: es) X.env = (false, eval e X.env) :: starEach es X.env := by rfl) (hpl : (backTo pos (starEach es X.env)).any (·.1) = false := by rfl) :
    FE X W G (.Call (.Name x p) (e :: es) [] pos) m R := PE.weak (pe_callTy hc hg hm hv ha hn hdb he hpl) fun σ H Q ⟨B, tl, F, T⟩ => by
    have T : Told X.K W G ((M.ok a).bind fun _ => m) _ σ H B tl F := T
    refine ⟨B, tl, F, T.seq fun a' F1 H1 ea g1 T1 vs rv => ?_⟩
    cases M.ok_inj ea
    obtain ⟨c, ec, q⟩ := T1.out hl.ne
    exact hl.run F1 H1 vs H Q g1.fh rv c ec fun z F' H' g2 rz => T1.ok c ec F' H' g2 z (R.pre rz g1.h.kn)
abbrev a1 {α : Type} (R : Rl α) : Ra (α × Unit) := rac R ra0
abbrev a2 {α β : Type} (R : Rl α) (T : Rl β) : Ra (α × β × Unit) := rac R (rac T ra0)
theorem cp1 {α γ : Type} {r : List V → Hp → VK → Prop} {A : Rl α} {a : α} {c : γ} {R : Rf γ} (h : ∀ F H v H0 (Q : VK), Ex F H → A.r a H0 F H v → (∀ z, R.r c F z → Q z H) → r [v] H Q) : CallP r (a1 A) (a, ()) (M.ok c) R.up :=
  ⟨fun e q => (nomatch q), fun F H vs H0 Q x ⟨v, r, e, h1, h2⟩ c' ec k => by
    cases M.ok_inj ec
    cases h2
    subst e
    exact h F H v H0 Q x h1 fun z hz => k z F H (Gr.refl x) hz⟩
theorem cp1N {α γ : Type} {r : List V → Hp → VK → Prop} {A : Rl α} {a : α} {c : γ} {R : Rf γ} {C : Prop} [Decidable C] (h : C → ∀ F H v H0 (Q : VK), Ex F H → A.r a H0 F H v → (∀ z, R.r c F z → Q z H) → r [v] H Q) : CallP r (a1 A) (a, ()) (M.need C (M.ok c)) R.up :=
  ⟨need_err, fun F H vs H0 Q x ⟨v, r, e, h1, h2⟩ c' ec k => by
    obtain ⟨hc, rfl⟩ := need_ok ec
    cases h2
    subst e
    exact h hc F H v H0 Q x h1 fun z hz => k z F H (Gr.refl x) hz⟩
theorem cl_lenS {a : List Nat} : CallP (fun xs H Q => ∃ x n, xs = [x] ∧ LenV X.K x H n ∧ Q (.int n) H) (a1 fTxt.up) (a, ()) (M.ok (a.length : Int)) fInt.up := cp1 fun F H v H0 Q x ⟨e, hl⟩ k => by
  subst e
  exact ⟨_, a.length, rfl, ⟨by rw [S_len]; exact hl.len, (S_len a).symm⟩, k _ rfl⟩
theorem cl_lenL {α : Type} {A : Rf α} {a : List α} : CallP (fun xs H Q => ∃ x n, xs = [x] ∧ LenV X.K x H n ∧ Q (.int n) H) (a1 (bLst X.K A)) (a, ()) (M.ok (a.length : Int)) fInt.up := cp1 fun F H v H0 Q x ⟨p, vs, e, h, q⟩ k => by
  subst e
  exact ⟨_, a.length, rfl, .inl ⟨vs, h, q.len⟩, k _ rfl⟩
theorem cl_int {a : Int} : CallP (fun xs H Q => (∃ i, xs = [.int i] ∧ Q (.int i) H) ∨ ∃ k, xs = [.bl k] ∧ Q (.int (if k then 1 else 0)) H) (a1 fInt.up) (a, ()) (M.ok a) fInt.up := cp1 fun F H v H0 Q x e k => .inl ⟨a, by rw [e], k _ rfl⟩
theorem cl_intB {a : Bool} : CallP (fun xs H Q => (∃ i, xs = [.int i] ∧ Q (.int i) H) ∨ ∃ k, xs = [.bl k] ∧ Q (.int (if k then 1 else 0)) H) (a1 fBool.up) (a, ()) (M.ok (if a = true then (1 : Int) else 0)) fInt.up := cp1 fun F H v H0 Q x e k => .inr ⟨a, by rw [e], k _ rfl⟩
def strI (i : Int) : List Nat := (toString i : Str).cps.toList
theorem cl_str {a : Int} : CallP (fun xs H Q => ∃ i, xs = [.int i] ∧ i.natAbs.log2 < 1920 ∧ Q (.str (toString i)) H) (a1 fInt.up) (a, ()) (M.need (a.natAbs.log2 < 1920 ∧ tOk (strI a)) (M.ok (strI a))) fTxt.up := cp1N fun hc F H v H0 Q x e k => ⟨a, by rw [e], hc.1, k _ ⟨by rw [strI, S_of], hc.2⟩⟩
theorem cl_ord {a : List Nat} : CallP (fun xs H Q => ∃ x, xs = [.str x] ∧ x.length = 1 ∧ Q (.int (x.cps.getD 0 0 : Nat)) H) (a1 fTxt.up) (a, ()) (M.need (a.length = 1) (M.ok ((a.getD 0 0 : Nat) : Int))) fInt.up := cp1N fun hc F H v H0 Q x ⟨e, _⟩ k => ⟨S a, by rw [e], by rw [S_len]; exact hc, k _ (by simp [S]; rfl)⟩
theorem cl_min2 {a b : Int} : CallP (fun xs H Q => ∃ i j, xs = [.int i, .int j] ∧ Q (.int (if j < i then j else i)) H) (a2 fInt.up fInt.up) (a, b, ()) (M.ok (if b < a then b else a)) fInt.up :=
  ⟨fun e q => (nomatch q), fun F H vs H0 Q x ⟨v, r, e, h1, ⟨v2, r2, e2, h2, h3⟩⟩ c' ec k => by
    cases M.ok_inj ec
    cases h3; cases h1; cases h2; subst e2; subst e
    exact ⟨a, b, rfl, k _ F H (Gr.refl x) rfl⟩⟩
theorem cl_max2 {a b : Int} : CallP (fun xs H Q => ∃ i j, xs = [.int i, .int j] ∧ Q (.int (if j > i then j else i)) H) (a2 fInt.up fInt.up) (a, b, ()) (M.ok (if b > a then b else a)) fInt.up :=
  ⟨fun e q => (nomatch q), fun F H vs H0 Q x ⟨v, r, e, h1, ⟨v2, r2, e2, h2, h3⟩⟩ c' ec k => by
    cases M.ok_inj ec
    cases h3; cases h1; cases h2; subst e2; subst e
    exact ⟨a, b, rfl, k _ F H (Gr.refl x) rfl⟩⟩
def TyL {α : Type} (K : PySem.W.Frag) (T : String) (O : Rl α) : Prop := ∀ x H0 F H v, O.r x H0 F H v → tyV K T v H
theorem ty_str {K : PySem.W.Frag} : TyL K "str" fTxt.up := fun x H0 F H v ⟨e, _⟩ => by subst e; rfl
structure MetP {α β γ : Type} (r : V → List V → Hp → VK → Prop) (O : Rl α) (A : Ra β) (o : α) (a : β) (m : M γ) (R : Rl γ) : Prop where
  ne : ∀ e, m ≠ M.err e
  run : ∀ F H v vs H0 (Q : VK), Ex F H → O.r o H0 F H v → A.r a H0 F H vs → ∀ c, m = M.ok c → (∀ z F' H', Gr F H F' H' → R.r c H F' H' z → Q z H') → r v vs H Q
theorem fv_bm0 {α γ : Type} {T id : String} {name : Str} {o : Expr} {apos cpos : Pos} {x : α} {O : Rl α} {m : M γ} {R : Rl γ} {r : V → List V → Hp → VK → Prop} (pa : PlainAttrs T) (slot : Slot T name id) (hty : typeOf (.builtin id) = pure (.type "method_descriptor")) (hm : MtR X id r) (ht : TyL X.K T O)
    (hl : MetP r O ra0 x () m R) (ho : FE X W G o (M.ok x) O) (hbase : attributeBase o name X.env (eval o X.env) = eval o X.env := by rfl) (hline : (apos.endLine == cpos.line) = true := by rfl) :
    FE X W G (.Call (.Attribute o name apos) [] [] cpos) m R := PE.weak (pe_bm0 pa slot hty hm ho hbase hline) fun σ H Q ⟨B, tl, F, D⟩ => by
    have D : Told X.K W G ((M.ok x).bind fun _ => m) _ σ H B tl F := D
    refine ⟨B, tl, F, D.seq fun x' F1 H1 ex g1 D1 v rv => ?_⟩
    cases M.ok_inj ex
    obtain ⟨c, ec, q⟩ := D1.out hl.ne
    exact ⟨ht x H F1 H1 v rv, hl.run F1 H1 v [] H Q g1.fh rv rfl c ec fun z F' H' g2 rz => D1.ok c ec F' H' g2 z (R.pre rz g1.h.kn)⟩
theorem fe_bm {α β γ : Type} {T id : String} {name : Str} {o e : Expr} {es : List Expr} {apos cpos : Pos} {mo : M α} {ma : M β} {O : Rl α} {A : Ra β} {g : α → β → M γ} {R : Rl γ} {r : V → List V → Hp → VK → Prop} (pa : PlainAttrs T) (slot : Slot T name id) (hty : typeOf (.builtin id) = pure (.type "method_descriptor")) (hm : MtR X id r) (ht : TyL X.K T O)
    (hl : ∀ x a, MetP r O A x a (g x a) R) (ho : FE X W G o mo O) (ha : FA X W G (e :: es) ma A) (hbase : attributeBase o name X.env (eval o X.env) = eval o X.env := by rfl)
    (hfew : ((backTo cpos (starEach (e :: es) X.env)).all (fun x => !x.1) && (backToKw cpos (keywordEach [] X.env)).all (fun x => x.1.isSome)
      && decide ((e :: es).length + ([] : List Keyword).length + (if ([] : List Keyword).isEmpty then 0 else 1) < 30)) = true := by rfl)
    (hline : (apos.endLine == cpos.line) = true := by rfl) (hs : starEach (e :: es) X.env = (false, eval e X.env) :: starEach es X.env := by rfl) (hplain : (backTo cpos (starEach es X.env)).any (·.1) = false := by rfl) :
    FE X W G (.Call (.Attribute o name apos) (e :: es) [] cpos) (mo.bind fun x => ma.bind fun a => g x a) R := PE.weak (pe_bm pa slot hty hm ho ha hbase hfew hline hs hplain) fun σ H Q ⟨B, tl, F, D⟩ => ⟨B, tl, F, D.seq fun x F1 H1 _ g1 D1 v rv => ⟨ht x H F1 H1 v rv, ⟨B, tl, F1, D1.seq fun a F2 H2 _ g2 D2 vs rvs => by
    obtain ⟨c, ec, q⟩ := D2.out (hl x a).ne
    exact (hl x a).run F2 H2 v vs H Q g2.fh (O.st rv g2) (A.pre rvs g1.h.kn) c ec fun z F' H' g3 rz => D2.ok c ec F' H' g3 z (R.pre rz (g1.h.trans g2.h).kn)⟩⟩⟩
theorem fv_bm {α β γ : Type} {T id : String} {name : Str} {o e : Expr} {es : List Expr} {apos cpos : Pos} {x : α} {a : β} {O : Rl α} {A : Ra β} {m : M γ} {R : Rl γ} {r : V → List V → Hp → VK → Prop} (pa : PlainAttrs T) (slot : Slot T name id) (hty : typeOf (.builtin id) = pure (.type "method_descriptor")) (hm : MtR X id r) (ht : TyL X.K T O)
    (hl : MetP r O A x a m R) (ho : FE X W G o (M.ok x) O) (ha : FA X W G (e :: es) (M.ok a) A) (hbase : attributeBase o name X.env (eval o X.env) = eval o X.env := by rfl)
    (hfew : ((backTo cpos (starEach (e :: es) X.env)).all (fun x => !x.1) && (backToKw cpos (keywordEach [] X.env)).all (fun x => x.1.isSome)
      && decide ((e :: es).length + ([] : List Keyword).length + (if ([] : List Keyword).isEmpty then 0 else 1) < 30)) = true := by rfl)
    (hline : (apos.endLine == cpos.line) = true := by rfl) (hs : starEach (e :: es) X.env = (false, eval e X.env) :: starEach es X.env := by rfl) (hplain : (backTo cpos (starEach es X.env)).any (·.1) = false := by rfl) :
    FE X W G (.Call (.Attribute o name apos) (e :: es) [] cpos) m R := PE.weak (pe_bm pa slot hty hm ho ha hbase hfew hline hs hplain) fun σ H Q ⟨B, tl, F, D⟩ => by
    have D : Told X.K W G ((M.ok x).bind fun _ => (M.ok a).bind fun _ => m) _ σ H B tl F := D
    refine ⟨B, tl, F, D.seq fun x' F1 H1 ex g1 D1 v rv => ⟨ht x' H F1 H1 v rv, ⟨B, tl, F1, D1.seq fun a' F2 H2 ea g2 D2 vs rvs => ?_⟩⟩⟩
    cases M.ok_inj ex
    cases M.ok_inj ea
    obtain ⟨c, ec, q⟩ := D2.out hl.ne
    exact hl.run F2 H2 v vs H Q g2.fh (O.st rv g2) (A.pre rvs g1.h.kn) c ec fun z F' H' g3 rz => D2.ok c ec F' H' g3 z (R.pre rz (g1.h.trans g2.h).kn)
theorem mp0 {α γ : Type} {r : V → List V → Hp → VK → Prop} {O : Rl α} {o : α} {c : γ} {R : Rf γ} (h : ∀ F H v H0 (Q : VK), Ex F H → O.r o H0 F H v → (∀ z, R.r c F z → Q z H) → r v [] H Q) : MetP r O ra0 o () (M.ok c) R.up :=
  ⟨fun e q => (nomatch q), fun F H v vs H0 Q x ho ha c' ec k => by
    cases M.ok_inj ec
    cases ha
    exact h F H v H0 Q x ho fun z hz => k z F H (Gr.refl x) hz⟩
theorem mp1 {α β γ : Type} {r : V → List V → Hp → VK → Prop} {O : Rl α} {A : Rl β} {o : α} {a : β} {c : γ} {R : Rf γ} (h : ∀ F H v w H0 (Q : VK), Ex F H → O.r o H0 F H v → A.r a H0 F H w → (∀ z, R.r c F z → Q z H) → r v [w] H Q) : MetP r O (a1 A) o (a, ()) (M.ok c) R.up :=
  ⟨fun e q => (nomatch q), fun F H v vs H0 Q x ho ⟨w, r, e, h1, h2⟩ c' ec k => by
    cases M.ok_inj ec
    cases h2
    subst e
    exact h F H v w H0 Q x ho h1 fun z hz => k z F H (Gr.refl x) hz⟩
theorem mp1N {α β γ : Type} {r : V → List V → Hp → VK → Prop} {O : Rl α} {A : Rl β} {o : α} {a : β} {c : γ} {R : Rf γ} {C : Prop} [Decidable C] (h : C → ∀ F H v w H0 (Q : VK), Ex F H → O.r o H0 F H v → A.r a H0 F H w → (∀ z, R.r c F z → Q z H) → r v [w] H Q) : MetP r O (a1 A) o (a, ()) (M.need C (M.ok c)) R.up :=
  ⟨need_err, fun F H v vs H0 Q x ho ⟨w, r, e, h1, h2⟩ c' ec k => by
    obtain ⟨hc, rfl⟩ := need_ok ec
    cases h2
    subst e
    exact h hc F H v w H0 Q x ho h1 fun z hz => k z F H (Gr.refl x) hz⟩
abbrev uS (x : Str) : List Nat := x.cps.toList
theorem uS_txt {x : Str} {F : Hp} (h : tOk (uS x)) : fTxt.r (uS x) F (.str x) := ⟨by rw [S_of], h⟩
theorem ml_test {f : Str → Bool} {o : List Nat} : MetP (fun x xs H Q => ∃ a, x = .str a ∧ xs = [] ∧ True ∧ Q (.bl (f a)) H) fTxt.up ra0 o () (M.ok (f (S o))) fBool.up := mp0 fun F H v H0 Q x ⟨e, _⟩ k => ⟨S o, e, rfl, trivial, k _ rfl⟩
theorem ml_int1 {f : Str → Str → Int} {o a : List Nat} : MetP (fun x xs H Q => ∃ a b, x = .str a ∧ xs = [.str b] ∧ Q (.int (f a b)) H) fTxt.up (a1 fTxt.up) o (a, ()) (M.ok (f (S o) (S a))) fInt.up := mp1 fun F H v w H0 Q x ⟨e, _⟩ ⟨e2, _⟩ k => ⟨S o, S a, e, by rw [e2], k _ rfl⟩
theorem ml_int3 {f : Str → Str → Int → Int} {o a : List Nat} {i : Int} : MetP (fun x xs H Q => ∃ (a b : Str) (i : Int), x = .str a ∧ xs = [.str b, .int i] ∧ Q (.int (f a b i)) H) fTxt.up (a2 fTxt.up fInt.up) o (a, i, ()) (M.ok (f (S o) (S a) i)) fInt.up :=
  ⟨fun e q => (nomatch q), fun F H v vs H0 Q x ⟨e, _⟩ ⟨w, r, e1, ⟨e2, _⟩, ⟨w2, r2, e3, h3, h4⟩⟩ c' ec k => by
    cases M.ok_inj ec
    cases h4; cases h3; subst e2; subst e3; subst e1
    exact ⟨S o, S a, i, e, rfl, k _ F H (Gr.refl x) rfl⟩⟩
theorem pw_strs : ∀ {as : List (List Nat)} {vs : List V} {F : Hp}, Pw (fun a x => fTxt.r a F x) as vs → vs = (as.map S).map V.str
  | _, _, _, .nil => rfl
  | _, _, _, .cons ⟨e, _⟩ t => by
    rw [e, pw_strs t]
    rfl
def joinL (a : List Nat) (xs : List (List Nat)) : List Nat := uS (Txt.join (S a) (xs.map S))
theorem ml_join {K : PySem.W.Frag} {o : List Nat} {a : List (List Nat)} : MetP (fun x xs H Q => ∃ a p, ∃ ys : List Str, x = .str a ∧ xs = [.ref p] ∧ (SqL K H p (ys.map V.str) ∨ SqT K H p (ys.map V.str)) ∧
    (ys.map (·.length)).sum + ys.length * a.length ≤ 16777216 ∧ Q (.str (Txt.join a ys)) H) fTxt.up (a1 (bLst K fTxt)) o (a, ()) (M.need ((a.map List.length).sum + a.length * o.length ≤ 16777216 ∧ tOk (joinL o a)) (M.ok (joinL o a))) fTxt.up :=
  mp1N fun hc F H v w H0 Q x ⟨e, _⟩ ⟨p, vs, e2, h, q⟩ k => ⟨S o, p, a.map S, e, by rw [e2], .inl (by rw [← pw_strs q]; exact h), by
    have e3 : ((a.map S).map (·.length)) = a.map List.length := by
      rw [List.map_map]
      exact List.map_congr_left fun x _ => S_len x
    rw [e3, S_len, List.length_map]
    exact hc.1, k _ (uS_txt hc.2)⟩
def tO (K : PySem.W.Frag) (W : WX) (G : Gm) (m : M (Option Int)) : TO := fun σ H Q => ∃ B tl F, Told K W G m (fun a F' H' => Q a H') σ H B tl F
abbrev FO (X : Cx) (W : WX) (G : Gm) (eo : Option Expr) (m : M (Option Int)) : Prop := PO X eo (tO X.K W G m)
theorem PO.weak {X : Cx} {e : Option Expr} {t t' : TO} (h : PO X e t) (w : ∀ σ H Q, t' σ H Q → t σ H Q) : PO X e t' := ⟨fun pins s σ H Q I q => h.run pins s σ H Q I (w _ _ _ q)⟩
theorem fo_none : FO X W G none (M.ok none) := PO.weak po_none fun σ H Q ⟨B, tl, F, D⟩ => D.ok none rfl F H (Gr.refl D.fh)
theorem fo_some {e : Expr} {m : M Int} (h : FE X W G e m fInt.up) : FO X W G (some e) (m.bind fun i => M.ok (some i)) := PO.weak (po_some h) fun σ H Q ⟨B, tl, F, D⟩ =>
  ⟨B, tl, F, D.seq fun i F1 H1 _ g1 D1 v r => ⟨i, r, D1.ok (some i) rfl F1 H1 (Gr.refl g1.fh)⟩⟩
theorem vo_some {e : Expr} {i : Int} (h : FE X W G e (M.ok i) fInt.up) : FO X W G (some e) (M.ok (some i)) := fo_some h
def cut {α : Type} (l : List α) (lo hi : Option Int) : List α := (l.drop (HT.sIx l.length 0 lo)).take (HT.sIx l.length l.length hi - HT.sIx l.length 0 lo)
theorem cut_len {α : Type} (l : List α) (lo hi : Option Int) : (cut l lo hi).length ≤ l.length := by
  unfold cut
  rw [List.length_take, List.length_drop]
  omega
theorem cutS_S (l : List Nat) (lo hi : Option Int) : cutS (S l) lo hi = S (cut l lo hi) := by
  unfold cutS cut
  rw [S_cps, S_len]
  rfl
structure SlP {α γ : Type} (r : V → Option Int → Option Int → Hp → VK → Prop) (O : Rl α) (o : α) (lo hi : Option Int) (m : M γ) (R : Rl γ) : Prop where
  ne : ∀ e, m ≠ M.err e
  run : ∀ F H v H0 (Q : VK), Ex F H → O.r o H0 F H v → ∀ c, m = M.ok c → (∀ z F' H', Gr F H F' H' → R.r c H F' H' z → Q z H') → r v lo hi H Q
theorem fv_slice {α γ : Type} {r : V → Option Int → Option Int → Hp → VK → Prop} {e : Expr} {lo hi : Option Expr} {p2 pos : Pos} {x : α} {a b : Option Int} {O : Rl α} {m : M γ} {R : Rl γ} (hr : SlR X r) (hl : SlP r O x a b m R)
    (he : FE X W G e (M.ok x) O) (h1 : FO X W G lo (M.ok a)) (h2 : FO X W G hi (M.ok b)) : FE X W G (.Subscript e (.Slice lo hi none p2) pos) m R :=
  PE.weak (pe_slice hr he h1 h2) fun σ H Q ⟨B, tl, F, D⟩ => by
    have D : Told X.K W G ((M.ok x).bind fun _ => (M.ok a).bind fun _ => (M.ok b).bind fun _ => m) _ σ H B tl F := D
    refine ⟨B, tl, F, D.seq fun x' F1 H1 ex g1 D1 v rv => ⟨B, tl, F1, D1.seq fun a' F2 H2 ea g2 D2 => ⟨B, tl, F2, D2.seq fun b' F3 H3 eb g3 D3 => ?_⟩⟩⟩
    cases M.ok_inj ex
    cases M.ok_inj ea
    cases M.ok_inj eb
    obtain ⟨c, ec, q⟩ := D3.out hl.ne
    exact hl.run F3 H3 v H Q g3.fh (O.st rv (g2.trans g3)) c ec fun z F' H' g4 rz => D3.ok c ec F' H' g4 z (R.pre rz ((g1.h.trans g2.h).trans g3.h).kn)
theorem sp_str {o : List Nat} {lo hi : Option Int} : SlP rSlS fTxt.up o lo hi (M.ok (cut o lo hi)) fTxt.up :=
  ⟨fun e q => (nomatch q), fun F H v H0 Q x ⟨e, hl⟩ c ec k => by
    cases M.ok_inj ec
    exact ⟨S o, e, by rw [S_len]; exact hl.len, by rw [cutS_S]; exact k _ F H (Gr.refl x) ⟨rfl, hl.sub (cut_len _ _ _) fun c hc => List.mem_of_mem_drop (List.mem_of_mem_take hc)⟩⟩⟩
theorem sp_list {α : Type} {A : Rf α} {o : List α} {lo hi : Option Int} : SlP (rSlL X.K) (bLst X.K A) o lo hi (M.ok (cut o lo hi)) (ro (tL X.K A)) :=
  ⟨fun e q => (nomatch q), fun F H v H0 Q x ⟨p, vs, e, h, q⟩ c ec k => by
    cases M.ok_inj ec
    refine ⟨p, vs, e, h, fun l hl => k (.ref l) F _ (Gr.newM x hl) ⟨[l], ⟨l, cutV vs lo hi, rfl, upd_same, ?_, rfl⟩, fun y hy => ?_⟩⟩
    · unfold cutV cut
      rw [q.len]
      exact (q.drop _).take _
    · cases List.mem_singleton.mp hy
      exact ⟨hl, x.free hl, NT.up⟩⟩
end
end LK
namespace LK
open PySem L2
structure Cok (X : Cx) (W : WX) (k : Nat) : Prop where
  calm : X.calm = true
  tk : L2N.Takes X W
  hp : PassesOwn (model X.prog X.w) X.A X.env X.xe
  hr : Room k X.A
  nd : X.N.Nodup
theorem takes0N {X : Cx} : L2N.Takes X (fun _ _ _ _ => False) := fun _ _ ⟨_, _, _, _, _, _, _, _, _, _, _, _, _, _, _, _, w⟩ => w.elim
def hid (ms : List Addr) (H : Hp) : Hp := fun a => if a ∈ ms then none else H a
theorem hid_not {ms : List Addr} {H : Hp} {x : Addr} (h : x ∉ ms) : hid ms H x = H x := if_neg h
theorem hid_none {ms : List Addr} {H : Hp} {x : Addr} (h : hid ms H x = none) : x ∈ ms ∨ H x = none := by
  unfold hid at h
  split at h
  · exact .inl (by assumption)
  · exact .inr h
theorem hid_some {ms : List Addr} {H : Hp} {x : Addr} {o : HO} (h : hid ms H x = some o) : H x = some o ∧ x ∉ ms := by
  unfold hid at h
  split at h
  · cases h
  · exact ⟨h, by assumption⟩
theorem hid_nil {H : Hp} : hid [] H = H := by
  funext a
  exact if_neg (by simp)
structure CellsOk (Y F H : Hp) (cs : List (V × Sl)) (ms : Nat → List Addr) : Prop where
  has : ∀ (i : Nat) (v : V) (s : Sl), cs[i]? = some (v, s) → ∀ Y', s.r Y' F H v (ms i)
  non : ∀ i : Nat, cs.length ≤ i → ms i = []
  mem : ∀ (i : Nat) (x : Addr), x ∈ ms i → Y x = none ∧ F x = none ∧ NT H x
  sep : ∀ (i : Nat) (x : Addr), x ∈ ms i → ∀ j : Nat, j ≠ i → x ∉ ms j
structure PmG (Y F H : Hp) (X : List Addr) (par : List Sl) (vs : List V) (ms : Nat → List Addr) : Prop where
  len : par.length = vs.length
  has : ∀ (i : Nat) (s : Sl), par[i]? = some s → ∃ v, vs[i]? = some v ∧ s.r Y F H v (ms i)
  non : ∀ i : Nat, par.length ≤ i → ms i = []
  mem : ∀ (i : Nat) (x : Addr), x ∈ ms i → F x = none ∧ NT H x
  own : ∀ (i : Nat) (s : Sl), par[i]? = some s → s.own = true → ∀ x ∈ ms i, x ∈ X
  sep : ∀ (i : Nat) (s : Sl), par[i]? = some s → s.own = true → ∀ x ∈ ms i, ∀ j : Nat, j ≠ i → x ∉ ms j
def spG (K : PySem.W.Frag) {ε α ρ : Type} (par : α → (Nat → V) → List Sl) (mir : α → Mg ε ρ) (res : ρ → Sl) (outs : ρ → (Nat → V) → List (V × Sl)) (cls : ε → Er) (outsE : ε → (Nat → V) → List (V × Sl)) : Sp := fun vs H Q E => ∃ (a : α) (F : Hp) (w : Nat → V) (X : List Addr) (ms : Nat → List Addr), Ex F H ∧ PmG (hid X H) F H X (par a w) vs ms ∧ mir a ≠ none ∧
  (∀ r, mir a = M.ok r → ∀ v F' H' ms', GrX X F H F' H' → CellsOk (hid X H) F' H' ((v, res r) :: outs r w) ms' → Q v H') ∧
  (∀ e, mir a = M.err e → ∀ F' H' ms', GrX X F H F' H' → CellsOk (hid X H) F' H' (outsE e w) ms' → E (ec K (cls e)) none H')
abbrev spP (K : PySem.W.Frag) {α ρ : Type} (par : α → List Sl) (mir : α → M ρ) (res : ρ → Sl) : Sp := spG K (fun a _ => par a) mir res (fun _ _ => []) (fun e => e) (fun _ _ => [])
structure ArgOk {α : Type} (A : Ra α) (par : α → List Sl) : Prop where
  run : ∀ a H0 F H vs, Ex F H → A.r a H0 F H vs → PmG H F H [] (par a) vs (fun _ => [])
theorem ak_nil : ArgOk ra0 (fun _ => []) := ⟨fun a H0 F H vs _ h => by
  cases h
  exact ⟨rfl, fun i s e => by simp at e, fun _ _ => rfl, fun _ _ h => (nomatch h), fun i s e => by simp at e, fun i s e => by simp at e⟩⟩
theorem pm_cons {Y F H : Hp} {s : Sl} {v : V} {ss : List Sl} {vs : List V} (h : s.r Y F H v []) (o : s.own = false) (t : PmG Y F H [] ss vs (fun _ => [])) : PmG Y F H [] (s :: ss) (v :: vs) (fun _ => []) :=
  ⟨congrArg (· + 1) t.len, fun i s' e => by
    cases i with
    | zero =>
      simp at e
      subst e
      exact ⟨v, rfl, h⟩
    | succ i => exact t.has i s' (by simpa using e), fun _ _ => rfl, fun _ _ h => (nomatch h), fun i s' e o' x hx => (nomatch hx), fun i s' e o' x hx => (nomatch hx)⟩
theorem ak_v {α β : Type} {R : Rf α} {T : Ra β} {par : β → List Sl} (h : ArgOk T par) : ArgOk (rac R.up T) (fun a => sv R a.1 :: par a.2) := ⟨fun a H0 F H vs x ⟨v, r, e, h1, h2⟩ => by
  subst e
  exact pm_cons ⟨h1, rfl⟩ rfl (h.run _ _ _ _ _ x h2)⟩
theorem ak_b {α β : Type} {A : Th α} {T : Ra β} {par : β → List Sl} (h : ArgOk T par) : ArgOk (rac (nw A) T) (fun a => bw A a.1 :: par a.2) := ⟨fun a H0 F H vs x ⟨v, r, e, h1, h2⟩ => by
  subst e
  exact pm_cons ⟨h1, rfl⟩ rfl (h.run _ _ _ _ _ x h2)⟩
structure ResOf {ρ : Type} (res : ρ → Sl) (R : Rl ρ) : Prop where
  run : ∀ r Y H0 F H v ms, (res r).r Y F H v ms → (∀ x ∈ ms, H0 x = none ∧ F x = none ∧ NT H x) → R.r r H0 F H v
theorem rs_v {ρ : Type} {A : Rf ρ} : ResOf (sv A) A.up := ⟨fun r Y H0 F H v ms h _ => h.1⟩
theorem rs_o {ρ : Type} {T : Th ρ} : ResOf (ob T) (ro T) := ⟨fun r Y H0 F H v ms h k => ⟨ms, h, k⟩⟩
section
variable {X : Cx} {W : WX} {G : Gm} {k : Nat}
theorem ask_pure {K : PySem.W.Frag} {α ρ : Type} {par : α → List Sl} {mir : α → M ρ} {res : ρ → Sl} {R : Rl ρ} {A : Ra α} {B : Bs} {tl : List Nat} {F1 H0 H1 : Hp} {σ : St} {Q : VK} {a : α} {vs : List V} (hp : ArgOk A par) (hr : ResOf res R) (kn : Kn H0 H1) (D1 : Told K W G (mir a) (fun a F' H' => ∀ v, R.r a H0 F' H' v → Q v H') σ H1 B tl F1) (rv : A.r a H0 F1 H1 vs) : spP K par mir res vs H1 Q (WE W σ) :=
  ⟨a, F1, fun _ => .non, [], fun _ => [], D1.st.fh, by rw [hid_nil]; exact hp.run _ _ _ _ _ D1.st.fh rv, D1.ne, fun r e v F' H' ms' g c => by
    refine D1.ok r e F' H' g.gr v (R.pre (hr.run r _ H1 F' H' v (ms' 0) (c.has 0 _ _ rfl H1) fun x hx => ?_) kn)
    have := c.mem 0 x hx
    rw [hid_nil] at this
    exact this, fun e q F' H' ms' g c => D1.er e q F' H' g.gr⟩
theorem fe_call {α ρ : Type} {j : Nat} {f : Addr} {fd : FuncData} {ps : List Str} {x : Str} {p pos : Pos} {e : Expr} {es : List Expr} {par : α → List Sl} {mir : α → M ρ} {res : ρ → Sl} {R : Rl ρ} {m : M α} {A : Ra α} (C : Cok X W k)
    (Fk : FnOk X.prog X.w X.K X.mg X.base (L2N.CX X.prog X.w) j f fd ps (spP X.K par mir res)) (hj : j ≤ k) (hm : X.mg x = some (.ref f)) (hk : PySem.W.keepIn X.K (.ref f) = true) (hb : Binds X.K fd ps []) (hp : ArgOk A par) (hr : ResOf res R) (ha : FA X W G (e :: es) m A)
    (hg : Gl X x := by rfl) (hdb : (x == ("__debug__" : Str)) = false := by decide) (he : starEach (e :: es) X.env = (false, eval e X.env) :: starEach es X.env := by rfl) (hpl : (backTo pos (starEach es X.env)).any (·.1) = false := by rfl) :
    FE X W G (.Call (.Name x p) (e :: es) [] pos) (m.bind mir) R :=
  PE.weak (pe_callS (E := WE W) Fk (C.hr.mono hj) hg hm hk hb (fun σ => L2N.passAt C.tk σ) ha hdb he hpl) fun σ H Q ⟨B, tl, F, D⟩ => ⟨B, tl, F, D.seq fun a F1 H1 _ g1 D1 vs rv =>
    ask_pure hp hr g1.h.kn D1 rv⟩
end
section
variable {ε : Type} {Eh : EH ε} {X : Cx} {W : WX} {G : Gm} {tl : List Nat} {ρ b s : Type} {R : ρ → V → Gm} {Gb : b → Gm} {N : s → Gm}
theorem fs_nil {x : s} (h : Imp G (N x)) : FS X W Eh tl G [] (M.ok (.nx x)) R Gb N := PSs.weak pss_nil fun D σ H ⟨B, F, T⟩ => T.nx x rfl σ F H (h _ _ _ _ _ T.st)
theorem fs_imp {G1 : Gm} {sts : List Stmt} {m : Mg ε (Fl ρ b s)} (i : Imp G G1) (h : FS X W Eh tl G1 sts m R Gb N) : FS X W Eh tl G sts m R Gb N :=
  PSs.weak h fun D σ H ⟨B, F, T⟩ => ⟨B, F, i _ _ _ _ _ T.st, T.ne, T.ret, T.nx, T.bk, T.ct, T.er⟩
theorem ToldS.tellE {K : PySem.W.Frag} {α : Type} {p : Er → ε} {ma : M α} {f : α → Mg ε (Fl ρ b s)} {D : Ends} {σ : St} {H : Hp} {B : Bs} {F : Hp} {P : α → Hp → Hp → Prop} (T : ToldS K W Eh tl G (ma.bindP p f) R Gb N D σ H B F) (hp : Pay Eh G p)
    (k : ∀ a F1 H1, ma = M.ok a → Gr F H F1 H1 → P a F1 H1) : Told K W G ma P σ H B tl F := by
  refine ⟨T.st, ?_, fun a e F1 H1 g => k a F1 H1 e g, ?_⟩
  · intro e
    exact T.ne (by rw [e]; rfl)
  · rintro e rfl F1 H1 g1
    have := T.er (p e) rfl σ F1 H1 (hp.i e _ _ _ _ _ (T.st.grow g1))
    rw [hp.c e] at this
    exact this
theorem ToldS.rest {K : PySem.W.Frag} {ε1 α : Type} {p : ε1 → ε} {ma : Mg ε1 α} {f : α → Mg ε (Fl ρ b s)} {D : Ends} {σ σ1 : St} {H H1 F1 : Hp} {B : Bs} {F : Hp} {G1 : Gm} (T : ToldS K W Eh tl G (ma.bindP p f) R Gb N D σ H B F) {a : α} (e : ma = M.ok a) (st : Stt B tl G1 F1 H1 σ1) : ToldS K W Eh tl G1 (f a) R Gb N D σ1 H1 B F1 := by
  subst e
  exact ⟨st, T.ne, T.ret, T.nx, T.bk, T.ct, T.er⟩
theorem pss_ex {α : Type} {sts : List Stmt} {t : α → TS} (h : ∀ a, PSs X sts (t a)) : PSs X sts (fun D σ H => ∃ a, t a D σ H) := ⟨fun pins s σ H D I ⟨a, q⟩ => (h a).run pins s σ H D I q⟩
structure Takes1 {α : Type} (R : Rl α) (T : α → Sl) : Prop where
  run : ∀ a Y H0 F H v, R.r a H0 F H v → ∃ ms, (T a).r Y F H v ms ∧ ∀ x ∈ ms, H0 x = none ∧ F x = none ∧ NT H x
theorem tk_v {α : Type} {R : Rf α} : Takes1 R.up (sv R) := ⟨fun a Y H0 F H v h => ⟨[], ⟨h, rfl⟩, fun x hx => nomatch hx⟩⟩
theorem tk_o {α : Type} {T : Th α} : Takes1 (ro T) (ob T) := ⟨fun a Y H0 F H v h => h⟩
theorem fs_ret {α : Type} (g : Nat) {e : Expr} {pos : Pos} {p : Er → ε} {m : M α} {A : Rl α} {T : α → Sl} {mk : α → ρ} (h : FE X W G e m A) (ht : Takes1 A T) (hR : ∀ a v, Imp (G.set g (some (pn v (T a)))) (R (mk a) v)) (hg : X.N.length ≤ g := by exact Nat.le_of_ble_eq_true rfl) (hl : g < G.length := by exact Nat.le_of_ble_eq_true rfl) (hp : Pay Eh G p := by exact pay0 rfl) :
    FS X W Eh tl G [.Return (some e) pos] (m.bindP p fun a => M.ok (Fl.ret (b := b) (s := s) (mk a))) R Gb N := by
  refine ⟨fun pins s' σ H D I ⟨B, F, T'⟩ => (pss_one (ps_ret h)).run pins s' σ H D I ?_⟩
  refine ⟨B, tl, F, T'.tellE hp fun a F1 H1 e g1 v r => ?_⟩
  obtain ⟨ms, h1, h2⟩ := ht.run a B.Hd _ _ _ _ r
  exact T'.ret (mk a) (by rw [e]; rfl) v σ F1 H1 (hR a v _ _ _ _ _ (T'.st.ghost (T := pn v (T a)) g1 (by rw [I.len]; exact hg) hl ⟨rfl, h1⟩ h2))
theorem fs_set {α : Type} (i : Nat) {x : Str} {e : Expr} {pos pos' : Pos} {rest : List Stmt} {p : Er → ε} {m : M α} {A : Rl α} {T : α → Sl} {f : α → Mg ε (Fl ρ b s)} (nd : X.N.Nodup) (he : FE X W G e m A) (ht : Takes1 A T) (hr : ∀ a, FS X W Eh tl (G.set i (some (T a))) rest (f a) R Gb N)
    (hi : X.N[i]? = some x := by rfl) (hm : i ∈ tl := by decide) (hl : i < G.length := by exact Nat.le_of_ble_eq_true rfl) (hx : Loc X.env.scope x := by first | exact Or.inl rfl | exact Or.inr rfl) (hs : swapsWith e (some (.Name x pos')) pos.line X.env = pure false := by rfl) (hf : X.fn x = true ∨ X.env.scope.names.lookup x = some .local := by first | exact .inl rfl | exact .inr rfl | assumption) (hp : Pay Eh G p := by exact pay0 rfl) :
    FS X W Eh tl G (.Assign [.Name x pos'] e pos :: rest) (m.bindP p f) R Gb N := PSs.weak (pss_cons (ps_set nd hi hx he hs hf) (pss_ex hr)) fun D σ H ⟨B, F, D1⟩ =>
  ⟨B, tl, F, D1.tellE hp fun a F1 H1 ea g v r => by
    obtain ⟨ms, h1, h2⟩ := ht.run a B.Hd _ _ _ _ r
    exact ⟨a, B, F1, D1.rest ea (D1.st.set g hm hl h1 h2)⟩⟩
theorem fs_raise {er : Er} {pe : ε} {x m : Str} {j : Nat} {p p2 pos pos' : Pos} {kk : Nat} (C : Cok X W kk) (hx : x = er.name) (fx : PySem.W.excIn X.K (He.ga X.K x) He.veBase "ValueError.__new__" = true ∧ PySem.W.keepIn X.K (.ref (He.ga X.K x)) = true ∧ PySem.W.subIn X.K (.ref (He.ga X.K x)) (.type "BaseException") = some true ∧ PySem.W.typeIn X.K (.ref (He.ga X.K x)) = some (.type "type"))
    (gx : X.mg x = some (.ref (He.ga X.K x))) (hc : Eh.cls pe = er) (hi : Imp G (Eh.G pe)) (hg : Gl X x := by rfl) (hdb : (x == ("__debug__" : Str)) = false := by decide) : FS X W Eh tl G [.Raise (some (.Call (.Name x p) [.Constant (.str m) j p2] [] pos)) none pos'] (M.err pe : Mg ε (Fl ρ b s)) R Gb N :=
  PSs.weak (pss_one (L2N.ps_raise C.calm C.tk (L2N.pmk_own PySem.F.excBase_ValueError fx.1 gx fx.2.1 (raises_own fx.2.2.1 fx.2.2.2) hg hdb))) fun D σ H ⟨B, F, T⟩ => by
    have e : (.ref (He.ga X.K x) : Value) = ec X.K er := by rw [hx]; rfl
    show W (.ref (He.ga X.K x)) none σ H
    rw [e, ← hc]
    exact T.er pe rfl σ F H (hi _ _ _ _ _ T.st)
theorem ToldS.test {K : PySem.W.Frag} {p : Er → ε} {ma : M Bool} {f : Bool → Mg ε (Fl ρ b s)} {D : Ends} {σ : St} {H : Hp} {B : Bs} {F : Hp} {P : Bool → Hp → Prop} (T : ToldS K W Eh tl G (ma.bindP p f) R Gb N D σ H B F) (hp : Pay Eh G p)
    (k : ∀ a F1 H1, ma = M.ok a → ToldS K W Eh tl G (f a) R Gb N D σ H1 B F1 → P a H1) : tT K W G ma σ H P :=
  ⟨B, tl, F, T.tellE hp fun a F1 H1 e g => k a F1 H1 e (T.rest e (T.st.grow g))⟩
theorem fs_ifend {c : Expr} {a d : List Stmt} {pos : Pos} {p : Er → ε} {mc : M Bool} {ma md : Mg ε (Fl ρ b s)} (hc : FT X W G c mc) (ha : FS X W Eh tl G a ma R Gb N) (hd : FS X W Eh tl G d md R Gb N) (hp : Pay Eh G p := by exact pay0 rfl) : FS X W Eh tl G [.If c a d pos] (mc.bindP p fun x => if x = true then ma else md) R Gb N :=
  PSs.weak (pss_one (ps_if hc ha hd)) fun D σ H ⟨B, F, T⟩ => T.test hp fun x F1 H1 _ T1 => by
    cases x with
    | true => exact ⟨B, F1, T1⟩
    | false => exact ⟨B, F1, T1⟩
def slF : Sl := ⟨fun _ _ _ _ _ => False, false, (fun _ h => h.elim), fun h _ _ _ => h⟩
theorem Stt.never {B : Bs} {F H : Hp} {σ : St} (st : Stt B tl [some slF] F H σ) : False := by
  obtain ⟨ms, z⟩ := st.sl
  obtain ⟨v, _, h⟩ := z.has 0 slF rfl
  exact h
theorem fs_if1 {c : Expr} {a rest : List Stmt} {st : Stmt} {pos : Pos} {p : Er → ε} {mc : M Bool} {ma mr : Mg ε (Fl ρ b s)} (hc : FT X W G c mc) (ha : ∀ N' : s → Gm, FS X W Eh tl G a ma R Gb N') (hr : FS X W Eh tl G (st :: rest) mr R Gb N) (hp : Pay Eh G p := by exact pay0 rfl) :
    FS X W Eh tl G (.If c a [] pos :: st :: rest) (mc.bindP p fun x => if x = true then ma else mr) R Gb N :=
  PSs.weak (pss_cons (ps_if hc (ha fun _ => [some slF]) pss_nil) hr) fun D σ H ⟨B, F, T⟩ => T.test hp fun x F1 H1 _ T1 => by
    cases x with
    | true => exact ⟨B, F1, T1.st, T1.ne, T1.ret, fun y e σ' F' H' st => st.never.elim, T1.bk, T1.ct, T1.er⟩
    | false => exact ⟨B, F1, T1⟩
def seqF {ε ρ b s1 s : Type} (m : Mg ε (Fl ρ b s1)) (k : s1 → Mg ε (Fl ρ b s)) : Mg ε (Fl ρ b s) := m.bind fun x => match x with
  | .ret r => M.ok (.ret r)
  | .nx y => k y
  | .bk y => M.ok (.bk y)
  | .ct y => M.ok (.ct y)
theorem fs_seq {s1 : Type} {st : Stmt} {rest : List Stmt} {m : Mg ε (Fl ρ b s1)} {N1 : s1 → Gm} {f : s1 → Mg ε (Fl ρ b s)} (h1 : PS X st (tFS X.K W Eh tl G m R Gb N1)) (hr : ∀ y, FS X W Eh tl (N1 y) rest (f y) R Gb N) : FS X W Eh tl G (st :: rest) (seqF m f) R Gb N :=
  PSs.weak (pss_cons h1 (pss_ex hr)) fun D σ H ⟨B, F, T⟩ => by
    refine ⟨B, F, T.st, ?_, fun r e => T.ret r (by rw [e]; rfl), fun y e σ' F' H' st => ?_, fun y e => T.bk y (by rw [e]; rfl), fun y e => T.ct y (by rw [e]; rfl), fun e q => T.er e (by rw [q]; rfl)⟩
    · intro e
      exact T.ne (by rw [e]; rfl)
    · subst e
      exact ⟨y, B, F', st, T.ne, T.ret, T.nx, T.bk, T.ct, T.er⟩
theorem ps_ifj {c : Expr} {a d : List Stmt} {pos : Pos} {p : Er → ε} {mc : M Bool} {ma md : Mg ε (Fl ρ b s)} (hc : FT X W G c mc) (ha : FS X W Eh tl G a ma R Gb N) (hd : FS X W Eh tl G d md R Gb N) (hp : Pay Eh G p := by exact pay0 rfl) : PS X (.If c a d pos) (tFS X.K W Eh tl G (mc.bindP p fun x => if x = true then ma else md) R Gb N) :=
  PS.weak (ps_if hc ha hd) fun D σ H ⟨B, F, T⟩ => T.test hp fun x F1 H1 _ T1 => by
    cases x with
    | true => exact ⟨B, F1, T1⟩
    | false => exact ⟨B, F1, T1⟩
end
section
variable {B : Bs} {tl : List Nat} {G : Gm} {F H F' H' : Hp} {σ : St}
theorem Stt.mut {ms : Nat → List Addr} {i : Nat} {sl T : Sl} {v : V} {mv : List Addr} (s : Stt B tl G F H σ) (z : SlOk B G F H σ ms) (hG : G[i]? = some (some sl)) (ho : sl.own = true) (hv : i < σ.length → σ[i]? = some (some v)) (g : GrX (ms i) F H F' H') (h : T.r B.Hd F' H' v mv)
    (k : ∀ x ∈ mv, (x ∈ ms i ∨ H x = none) ∧ F' x = none ∧ NT H' x) : Stt B tl (G.set i (some T)) F' H' σ := by
  have hl : i < G.length := (List.getElem?_eq_some_iff.mp hG).1
  have own := z.own i sl hG ho
  have sep := z.sep i sl hG ho
  refine ⟨s.g.into g own, s.bh, s.fr, s.ls, by rw [List.length_set]; exact s.len, fun j => if j = i then mv else ms j, ⟨fun j t e => ?_, fun j e => ?_, fun j x hx => ?_, fun j t e hoj x hx => ?_, fun j t e hoj x hx j' hj' hm => ?_⟩⟩
  · by_cases hj : j = i
    · subst hj
      rw [List.getElem?_set_self hl] at e
      cases e
      rw [if_pos rfl]
      exact ⟨v, hv, h⟩
    · rw [List.getElem?_set_ne (fun q => hj q.symm)] at e
      rw [if_neg hj]
      obtain ⟨w, h1, h2⟩ := z.has j t e
      exact ⟨w, h1, t.st h2 (XS.refl _) g.f.xs fun x hx o q => g.h x o (fun hm => sep x hm j hj hx) q⟩
  · by_cases hj : j = i
    · subst hj
      exact absurd (List.getElem?_set_self hl) (e T)
    · rw [if_neg hj]
      exact z.non j fun t q => e t (by rw [List.getElem?_set_ne (fun q => hj q.symm)]; exact q)
  · try dsimp only at hx
    by_cases hj : j = i
    · rw [if_pos hj] at hx
      exact (k x hx).2
    · rw [if_neg hj] at hx
      obtain ⟨h1, h2⟩ := z.mem j x hx
      exact ⟨g.no x h1 h2, g.nt x h2⟩
  · try dsimp only at hx
    by_cases hj : j = i
    · rw [if_pos hj] at hx
      rcases (k x hx).1 with q | q
      · exact own x q
      · exact .inl (Kn.free s.g.st q)
    · rw [if_neg hj] at hx
      rw [List.getElem?_set_ne (fun q => hj q.symm)] at e
      exact z.own j t e hoj x hx
  · try dsimp only at hx
    try dsimp only at hm
    by_cases hj : j = i
    · rw [if_pos hj] at hx
      rw [if_neg (fun q => hj' (q.trans hj.symm))] at hm
      rcases (k x hx).1 with q | q
      · exact sep x q j' (fun q => hj' (q.trans hj.symm)) hm
      · exact (z.mem j' x hm).2.ne q
    · rw [if_neg hj] at hx
      rw [List.getElem?_set_ne (fun q => hj q.symm)] at e
      by_cases hi' : j' = i
      · rw [if_pos hi'] at hm
        rcases (k x hm).1 with q | q
        · exact sep x q j hj hx
        · exact (z.mem j x hx).2.ne q
      · rw [if_neg hi'] at hm
        exact z.sep j t e hoj x hx j' hj' hm
end
section
variable {ε : Type} {Eh : EH ε} {X : Cx} {W : WX} {G : Gm} {tl : List Nat} {ρ b s : Type} {R : ρ → V → Gm} {Gb : b → Gm} {N : s → Gm}
theorem fs_pin {sts : List Stmt} {m : Mg ε (Fl ρ b s)} {T : Sl} (k : Nat) (hG : G[k]? = some (some T)) (h : ∀ v0, FS X W Eh tl (G.set k (some (pn v0 T))) sts m R Gb N) : FS X W Eh tl G sts m R Gb N :=
  PSs.weak (pss_ex h) fun D σ H ⟨B, F, T1⟩ => by
    have hl : k < G.length := (List.getElem?_eq_some_iff.mp hG).1
    obtain ⟨ms, z⟩ := T1.st.sl
    obtain ⟨v, h1, h2⟩ := z.has k _ hG
    refine ⟨v, B, F, ⟨?_, T1.ne, T1.ret, T1.nx, T1.bk, T1.ct, T1.er⟩⟩
    have at_ : ∀ j t, (G.set k (some (pn v T)))[j]? = some (some t) → (j = k ∧ t = pn v T) ∨ (j ≠ k ∧ G[j]? = some (some t)) := fun j t e => by
      by_cases q : j = k
      · subst q
        rw [List.getElem?_set_self hl] at e
        exact .inl ⟨rfl, (Option.some.inj (Option.some.inj e)).symm⟩
      · rw [List.getElem?_set_ne (Ne.symm q)] at e
        exact .inr ⟨q, e⟩
    refine ⟨T1.st.g, T1.st.bh, T1.st.fr, T1.st.ls, by rw [List.length_set]; exact T1.st.len, ms, ⟨fun j t e => ?_, fun j e => ?_, z.mem, fun j t e o => ?_, fun j t e o => ?_⟩⟩
    · rcases at_ j t e with ⟨rfl, rfl⟩ | ⟨q, e⟩
      · exact ⟨v, h1, rfl, h2⟩
      · exact z.has j t e
    · refine z.non j fun t q => ?_
      by_cases c : j = k
      · subst c
        exact e (pn v T) (by rw [List.getElem?_set_self hl])
      · exact e t (by rw [List.getElem?_set_ne (Ne.symm c)]; exact q)
    · rcases at_ j t e with ⟨rfl, rfl⟩ | ⟨q, e⟩
      · exact z.own _ _ hG o
      · exact z.own j t e o
    · rcases at_ j t e with ⟨rfl, rfl⟩ | ⟨q, e⟩
      · exact z.sep _ _ hG o
      · exact z.sep j t e o
theorem fs_app {α : Type} (i : Nat) {q : V} {o e : Expr} {apos cpos pos : Pos} {rest : List Stmt} {p : Er → ε} {m : M α} {A : Rf α} {as : List α} {g : α → Mg ε (Fl ρ b s)} (hG : G[i]? = some (some (pn q (ob (tL X.K A) as)))) (ho : FE X W G o (M.ok ()) (rV q)) (he : FE X W G e m A.up) (hr : ∀ a, FS X W Eh tl (G.set i (some (pn q (ob (tL X.K A) (as ++ [a]))))) rest (g a) R Gb N)
    (hbase : attributeBase o "append" X.env (eval o X.env) = eval o X.env := by rfl)
    (hfew : ((backTo cpos (starEach [e] X.env)).all (fun x => !x.1) && (backToKw cpos (keywordEach [] X.env)).all (fun x => x.1.isSome)
      && decide ([e].length + ([] : List Keyword).length + (if ([] : List Keyword).isEmpty then 0 else 1) < 30)) = true := by rfl)
    (hline : (apos.endLine == cpos.line) = true := by rfl) (hs : starEach [e] X.env = (false, eval e X.env) :: starEach [] X.env := by rfl) (hplain : (backTo cpos (starEach [] X.env)).any (·.1) = false := by rfl)
    (hsw : swapsWith (.Call (.Attribute o "append" apos) [e] [] cpos) none pos.line X.env = pure false := by rfl) (hp : Pay Eh G p := by exact pay0 rfl) :
    FS X W Eh tl G (.Expr (.Call (.Attribute o "append" apos) [e] [] cpos) pos :: rest) (m.bindP p fun a => M.need (as.length < sizeLine) (g a)) R Gb N :=
  PSs.weak (pss_cons (ps_expr (pe_bm PySem.F.plainAttrs_list PySem.F.slot_list_append PySem.F.type_list_append mt_append ho (pa_cons he pa_nil hs) hbase hfew hline hs hplain) hsw) (pss_ex hr)) fun D σ H ⟨B, F, D1⟩ => by
  have D1' : ToldS X.K W Eh tl G ((M.ok () : M Unit).bindP p fun _ => m.bindP p fun a => M.need (as.length < sizeLine) (g a)) R Gb N D σ H B F := D1
  refine ⟨B, tl, F, D1'.tellE hp fun q' F0 H0 eq g0 v rv => ?_⟩
  cases (show v = q from rv)
  have D1 := D1'.rest eq (D1.st.grow g0)
  obtain ⟨ms, z⟩ := D1.st.sl
  obtain ⟨v, h1, rfl, qa, vs, rfl, hh, pw, em⟩ := z.has i _ hG
  refine ⟨.inl ⟨rfl, vs, .inl (.inl hh)⟩, B, tl, F0, D1.tellE hp fun a F1 H1 ea g1 w rw' => ?_⟩
  have D2 := D1.rest ea (D1.st.grow g1)
  obtain ⟨hlt, e2⟩ := M.need_ne D2.ne
  have z1 := z.grow g1
  obtain ⟨hF, hH⟩ := z1.mem i qa (by rw [em]; simp)
  refine ⟨qa, vs, w, rfl, rfl, g1.h _ _ hh, by rw [← pw.len]; exact hlt, a, B, F1, ?_⟩
  rw [e2] at D2
  refine ⟨D2.st.mut z1 hG rfl h1 (by rw [em]; exact GrX.at g1.fh hF) ⟨rfl, qa, vs ++ [w], rfl, upd_same, (pw.imp fun _ _ h => A.st h g1.f).snoc rw', rfl⟩ (fun y hy => ?_), D2.ne, D2.ret, D2.nx, D2.bk, D2.ct, D2.er⟩
  cases List.mem_singleton.mp hy
  exact ⟨.inl (by rw [em]; simp), hF, NT.up⟩
end
section
variable {B : Bs} {tl tl' : List Nat} {G G' : Gm} {F H F' H' : Hp} {σ σ' : St}
def ownAt (G : Gm) (ms : Nat → List Addr) : List Addr := (List.range G.length).flatMap fun i => match G[i]? with
  | some (some sl) => if sl.own = true then ms i else []
  | _ => []
theorem mem_ownAt {ms : Nat → List Addr} {x : Addr} (h : x ∈ ownAt G ms) : ∃ i sl, G[i]? = some (some sl) ∧ sl.own = true ∧ x ∈ ms i := by
  unfold ownAt at h
  obtain ⟨i, _, h⟩ := List.mem_flatMap.mp h
  split at h
  · rename_i sl e
    split at h
    · rename_i o
      exact ⟨i, sl, e, o, h⟩
    · cases h
  · cases h
theorem ownAt_mem {ms : Nat → List Addr} {x : Addr} {i : Nat} {sl : Sl} (e : G[i]? = some (some sl)) (o : sl.own = true) (h : x ∈ ms i) : x ∈ ownAt G ms := by
  unfold ownAt
  refine List.mem_flatMap.mpr ⟨i, List.mem_range.mpr (List.getElem?_eq_some_iff.mp e).1, ?_⟩
  rw [e]
  simp only [o, if_true]
  exact h
theorem Stt.rebase (s : Stt B tl G F H σ) : ∃ Xl : List Addr, (∀ x ∈ Xl, B.H0 x = none ∨ x ∈ B.X0) ∧ Stt ⟨B.Hd, Xl, F, H, σ⟩ tl' G F H σ := by
  obtain ⟨ms, z⟩ := s.sl
  have hX : ∀ x ∈ ownAt G ms, B.H0 x = none ∨ x ∈ B.X0 := fun x hx => by
    obtain ⟨i, sl, e, o, h⟩ := mem_ownAt hx
    exact z.own i sl e o x h
  refine ⟨ownAt G ms, hX, (Gr.refl s.fh).x _, fun a o ha => ⟨s.yh a o ha, fun hx => ?_⟩, fun _ _ => rfl, rfl, s.len, ms, ⟨z.has, z.non, z.mem, fun j t e ho x hx => .inr (ownAt_mem e ho hx), z.sep⟩⟩
  obtain ⟨h1, h2⟩ := s.bh a o ha
  rcases hX a hx with q | q
  · rw [h1] at q; cases q
  · exact h2 q
theorem Stt.leave {Xl : List Addr} (s : Stt B tl G F H σ) (hX : ∀ x ∈ Xl, B.H0 x = none ∨ x ∈ B.X0) (ht : ∀ i ∈ tl', i ∈ tl) (s' : Stt ⟨B.Hd, Xl, F, H, σ⟩ tl' G' F' H' σ') : Stt B tl G' F' H' σ' := by
  obtain ⟨ms, z⟩ := s'.sl
  refine ⟨s.g.into s'.g hX, s.bh, fun i hi => ?_, ?_, s'.len, ms, ⟨z.has, z.non, z.mem, fun j t e ho x hx => ?_, z.sep⟩⟩
  · exact (s'.fr i fun q => hi (ht i q)).trans (s.fr i hi)
  · exact s'.ls.trans s.ls
  · rcases z.own j t e ho x hx with q | q
    · exact .inl (Kn.free s.g.st q)
    · exact hX x q
end
structure Lc (K : PySem.W.Frag) (W : WX) {ε : Type} (Eh : EH ε) (tl : List Nat) {ρ b s : Type} (m : Mg ε (Fl ρ b s)) (R : ρ → V → Gm) (N : s → Gm) (D : Ends) (B : Bs) : Prop where
  ne : m ≠ none
  ret : ∀ r, m = M.ok (.ret r) → ∀ v σ' F' H', Stt B tl (R r v) F' H' σ' → D.rt v H'
  nx : ∀ x, m = M.ok (.nx x) → ∀ σ' F' H', Stt B tl (N x) F' H' σ' → D.nx σ' H'
  er : ∀ e, m = M.err e → ∀ σ' F' H', Stt B tl (Eh.G e) F' H' σ' → W (ec K (Eh.cls e)) none σ' H'
theorem ToldS.lc {K : PySem.W.Frag} {W : WX} {ε : Type} {Eh : EH ε} {tl tl' : List Nat} {G : Gm} {ρ b s : Type} {m : Mg ε (Fl ρ b s)} {R : ρ → V → Gm} {Gb : b → Gm} {N : s → Gm} {D : Ends} {σ : St} {H : Hp} {B : Bs} {F : Hp} {Xl : List Addr} (T : ToldS K W Eh tl G m R Gb N D σ H B F)
    (hX : ∀ x ∈ Xl, B.H0 x = none ∨ x ∈ B.X0) (ht : ∀ i ∈ tl', i ∈ tl) : Lc K W Eh tl' m R N D ⟨B.Hd, Xl, F, H, σ⟩ :=
  ⟨T.ne, fun r e v σ' F' H' st => T.ret r e v σ' F' H' (T.st.leave hX ht st), fun x e σ' F' H' st => T.nx x e σ' F' H' (T.st.leave hX ht st),
    fun e q σ' F' H' st => T.er e q σ' F' H' (T.st.leave hX ht st)⟩
def tGt {ι α : Type} (tl : List Nat) (G : ι → Gm) (A : Rf α) (sel : ι → α) (G' : ι → Gm) : TG := fun v σ H Q => ∃ (z : ι) (B : Bs) (F : Hp), Stt B tl (G z) F H σ ∧ A.r (sel z) F v ∧ ∀ σ', Stt B tl (G' z) F H σ' → Q σ' H
def tGs {ι α : Type} (tl : List Nat) (G : ι → Gm) (T : Tv α) (sel : ι → α) (G' : ι → Gm) : TGs := fun vs σ H Q => ∃ (z : ι) (B : Bs) (F : Hp), Stt B tl (G z) F H σ ∧ T.r (sel z) F vs ∧ ∀ σ', Stt B tl (G' z) F H σ' → Q σ' H
abbrev FG (X : Cx) {ι α : Type} (tl : List Nat) (G : ι → Gm) (tg : Expr) (A : Rf α) (sel : ι → α) (G' : ι → Gm) : Prop := PG X tg (tGt tl G A sel G')
abbrev FGs (X : Cx) {ι α : Type} (tl : List Nat) (G : ι → Gm) (tg : List Expr) (T : Tv α) (sel : ι → α) (G' : ι → Gm) : Prop := PGs X tg (tGs tl G T sel G')
theorem PG.weak {X : Cx} {e : Expr} {t t' : TG} (h : PG X e t) (w : ∀ v σ H Q, t' v σ H Q → t v σ H Q) : PG X e t' := ⟨fun pins s σ H v u Q I r q => h.run pins s σ H v u Q I r (w _ _ _ _ q)⟩
theorem PGs.weak {X : Cx} {e : List Expr} {t t' : TGs} (h : PGs X e t) (w : ∀ v σ H Q, t' v σ H Q → t v σ H Q) : PGs X e t' := ⟨fun pins s σ H v u Q I r q => h.run pins s σ H v u Q I r (w _ _ _ _ q)⟩
section
variable {X : Cx} {ι α β : Type} {tl : List Nat} {G G1 G2 : ι → Gm}
theorem fg_name (i : Nat) {x : Str} {pos : Pos} {A : Rf α} {sel : ι → α} (nd : X.N.Nodup) (hl : ∀ z, i < (G z).length := by intro z; exact Nat.le_of_ble_eq_true rfl) (hm : i ∈ tl := by decide) (hi : X.N[i]? = some x := by rfl) (hx : Loc X.env.scope x := by first | exact Or.inl rfl | exact Or.inr rfl)
    (hf : X.fn x = true ∨ X.env.scope.names.lookup x = some .local := by first | exact .inl rfl | exact .inr rfl | assumption) : FG X tl G (.Name x pos) A sel (fun z => (G z).set i (some (sv A (sel z)))) :=
  PG.weak (pg_name nd hi hx hf) fun v σ H Q ⟨z, B, F, st, h, k⟩ => k _ (st.set (Gr.refl st.fh) hm (hl z) (T := sv A (sel z)) (mv := []) ⟨h, rfl⟩ fun x hx => nomatch hx)
theorem fgs_1 {e : Expr} {A : Rf α} {sel : ι → α} (h : FG X tl G e A sel G1) (hs : (assignEach [e] X.env).map (·.2) = assign e X.env :: (assignEach [] X.env).map (·.2) := by rfl) : FGs X tl G [e] (tv1 A) sel G1 :=
  PGs.weak (pgs_cons h pgs_nil hs) fun vs σ H Q ⟨z, B, F, st, ⟨v, ev, hv⟩, k⟩ => ⟨v, [], ev, z, B, F, st, hv, fun σ' st' => ⟨rfl, k σ' st'⟩⟩
theorem fgs_c {e : Expr} {es : List Expr} {A : Rf α} {T : Tv β} {sel : ι → α × β} (h : FG X tl G e A (fun z => (sel z).1) G1) (ht : FGs X tl G1 es T (fun z => (sel z).2) G2) (hs : (assignEach (e :: es) X.env).map (·.2) = assign e X.env :: (assignEach es X.env).map (·.2) := by rfl) : FGs X tl G (e :: es) (tvc A T) sel G2 :=
  PGs.weak (pgs_cons h ht hs) fun vs σ H Q ⟨z, B, F, st, ⟨v, r, ev, hv, hr⟩, k⟩ => ⟨v, r, ev, z, B, F, st, hv, fun σ' st' => ⟨z, B, F, st', hr, k⟩⟩
structure TvN {α : Type} (T : Tv α) (n : Nat) : Prop where
  run : ∀ a F vs, T.r a F vs → vs.length = n
theorem tn1 {A : Rf α} : TvN (tv1 A) 1 := ⟨fun a F vs ⟨x, e, _⟩ => by subst e; rfl⟩
theorem tnc {A : Rf α} {T : Tv β} {n : Nat} (h : TvN T n) : TvN (tvc A T) (n + 1) := ⟨fun a F vs ⟨x, r, e, _, t⟩ => by subst e; exact congrArg (· + 1) (h.run _ _ _ t)⟩
theorem fg_tup {es : List Expr} {k n : Nat} {pos : Pos} {T : Tv α} {sel : ι → α} (hc : X.calm = true) (h : FGs X tl G es T sel G1) (hn : TvN T n) (h1 : (assignEach es X.env).length = n := by rfl) (h2 : (assignEach es X.env).findIdx? (·.1) = none := by rfl) :
    FG X tl G (.Tuple es k pos) (fTup X.K T) sel G1 := PG.weak (pg_tup hc h h1 h2) fun v σ H Q ⟨z, B, F, st, ⟨p, vs, ev, hp, ht⟩, k⟩ => ⟨p, vs, ev, sqT_ex st.fh hp, hn.run _ _ _ ht, z, B, F, st, ht, k⟩
end
def forL {ε α ρ b s : Type} (f : s → α → Mg ε (Fl ρ s s)) : List α → s → Mg ε (Fl ρ b s)
  | [], x => M.ok (.nx x)
  | a :: r, x => (f x a).bind fun o => match o with
    | .ret v => M.ok (.ret v)
    | .nx y => forL f r y
    | .ct y => forL f r y
    | .bk y => M.ok (.nx y)
section
variable {ε : Type} {Eh : EH ε} {X : Cx} {W : WX} {tl tl' : List Nat} {ρ b s : Type} {R : ρ → V → Gm} {Gs : s → Gm} {α : Type} {A : Rf α} {f : s → α → Mg ε (Fl ρ s s)}
theorem for_turn {D : Ends} {B' : Bs} {as : List α} {i : Nat} {a : α} {G2 : s × α → Gm} {Pv : St → Hp → Prop} (hi : as[i]? = some a) (hP : ∀ y σ' F' H', Stt B' tl' (Gs y) F' H' σ' → Lc X.K W Eh tl' (forL (b := b) f (as.drop (i + 1)) y) R Gs D B' → Pv σ' H')
    {x : s} {F H : Hp} {σ : St} {v : V} (st : Stt B' tl' (Gs x) F H σ) (lc : Lc X.K W Eh tl' (forL (b := b) f (as.drop i) x) R Gs D B') (hv : A.r a F v) :
    tGt tl' (fun z : s × α => Gs z.1) A (fun z => z.2) G2 v σ H fun σ2 H2 => ∃ z : s × α, tFS X.K W Eh tl' (G2 z) (f z.1 z.2) R Gs Gs { D with nx := Pv, ct := Pv, bk := D.nx } σ2 H2 := by
  have e : as.drop i = a :: as.drop (i + 1) := by
    obtain ⟨h1, h2⟩ := List.getElem?_eq_some_iff.mp hi
    rw [List.drop_eq_getElem_cons h1, h2]
  rw [e] at lc
  have l2 : Lc X.K W Eh tl' ((f x a).bind fun o => match o with
    | .ret v => M.ok (.ret v)
    | .nx y => forL (b := b) f (as.drop (i + 1)) y
    | .ct y => forL (b := b) f (as.drop (i + 1)) y
    | .bk y => M.ok (.nx y)) R Gs D B' := lc
  refine ⟨(x, a), B', F, st, hv, fun σ' st' => ⟨(x, a), B', F, st', ?_, ?_, ?_, ?_, ?_, ?_⟩⟩
  · intro q
    exact l2.ne (by rw [q]; rfl)
  · intro r q v σ' F' H' st'
    exact l2.ret r (by rw [q]; rfl) v σ' F' H' st'
  · intro y q σ' F' H' st'
    refine hP y σ' F' H' st' ?_
    rw [q] at l2
    exact l2
  · intro y q σ' F' H' st'
    exact l2.nx y (by rw [q]; rfl) σ' F' H' st'
  · intro y q σ' F' H' st'
    refine hP y σ' F' H' st' ?_
    rw [q] at l2
    exact l2
  · intro er q σ' F' H' st'
    exact l2.er er (by rw [q]; rfl) σ' F' H' st'
theorem for_stand {D : Ends} {B' : Bs} {as : List α} {q : Addr} {G2 : s × α → Gm} {x0 : s} {F H : Hp} {σ : St} (st : Stt B' tl' (Gs x0) F H σ) (lc : Lc X.K W Eh tl' (forL (b := b) f as x0) R Gs D B')
    (hs : ∀ x F' H' σ', Stt B' tl' (Gs x) F' H' σ' → ∃ vs, SqL X.K H' q vs ∧ Pw (fun a v => A.r a F' v) as vs) : ∃ W_1 : Nat → Nat → St → Hp → Prop, (∃ m, W_1 0 m σ H) ∧ ∀ i m σ H, W_1 i m σ H →
      ((Itl X.K q).stop i H ∧ D.nx σ H) ∨ ((Itl X.K q).go i H ∧ ∃ N : St → Hp → Prop, (∀ σ' H', N σ' H' → ∃ m', m' < m ∧ W_1 (i + 1) m' σ' H') ∧ ∀ x H', (Itl X.K q).yld i H x H' →
        tGt tl' (fun z : s × α => Gs z.1) A (fun z => z.2) G2 x σ H' fun σ2 H2 => ∃ z : s × α, tFS X.K W Eh tl' (G2 z) (f z.1 z.2) R Gs Gs { D with nx := N, ct := N, bk := D.nx } σ2 H2) := by
  refine ⟨fun i m σ H => m = as.length - i ∧ i ≤ as.length ∧ ∃ F x, Stt B' tl' (Gs x) F H σ ∧ Lc X.K W Eh tl' (forL (b := b) f (as.drop i) x) R Gs D B', ⟨_, rfl, Nat.zero_le _, F, x0, st, lc⟩, ?_⟩
  rintro i m σ H ⟨rfl, hi, F, x, st, lc⟩
  obtain ⟨vs, hq, pw⟩ := hs x F H σ st
  by_cases hlt : i < as.length
  · obtain ⟨v, hv, hr⟩ := pw.get (i := i) (List.getElem?_eq_getElem hlt)
    refine .inr ⟨⟨vs, v, hq, hv⟩, fun σ' H' => ∃ F y, Stt B' tl' (Gs y) F H' σ' ∧ Lc X.K W Eh tl' (forL (b := b) f (as.drop (i + 1)) y) R Gs D B', fun σ' H' h => ⟨_, by omega, rfl, hlt, h⟩, fun u H' ⟨eH, yl⟩ => ?_⟩
    subst eH
    have hu := yl vs hq
    rw [hv] at hu
    cases hu
    exact for_turn (List.getElem?_eq_getElem hlt) (fun y σ' F' H' st' lc' => ⟨F', y, st', lc'⟩) st lc hr
  · have e : as.drop i = [] := List.drop_eq_nil_of_le (by omega)
    rw [e] at lc
    exact .inl ⟨⟨vs, hq, by rw [← pw.len]; omega⟩, lc.nx x rfl σ F H st⟩
structure Src {γ : Type} (K : PySem.W.Frag) (A : Rf α) (Gs : s → Gm) (R : Rl γ) (l : γ → List α) : Prop where
  run : ∀ c H0 F H v B0 tl0 x0 σ0, R.r c H0 F H v → Stt B0 tl0 (Gs x0) F H σ0 → ∃ q, v = .ref q ∧ ∀ B tl x F' H' σ', Stt B tl (Gs x) F' H' σ' → Ex F F' → ∃ vs, SqL K H' q vs ∧ Pw (fun a v => A.r a F' v) (l c) vs
theorem src_f {K : PySem.W.Frag} : Src K A Gs (fLst K A).up (fun as => as) := ⟨fun c H0 F H v B0 tl0 x0 σ0 ⟨p, vs, e, h, q⟩ x => ⟨p, e, fun B tl y F' H' σ' st xf => ⟨vs, sqL_ex st.fh (sqL_ex xf h), q.imp fun _ _ z => A.st z xf⟩⟩⟩
structure LSl (K : PySem.W.Frag) (A : Rf α) (sl : Sl) (as : List α) : Prop where
  run : ∀ Y F H v ms, sl.r Y F H v ms → Ex F H → Ex Y H → ∃ q vs, v = .ref q ∧ SqL K H q vs ∧ Pw (fun a x => A.r a F x) as vs
theorem ls_o {K : PySem.W.Frag} {as : List α} : LSl K A (ob (tL K A) as) as := ⟨fun Y F H v ms h x y => (tL K A).ord h (fun _ _ _ e => e) x⟩
theorem ls_b {K : PySem.W.Frag} {as : List α} : LSl K A (bw (tL K A) as) as := ⟨fun Y F H v ms h x y => (tL K A).rst h.1 (XS.refl _) y.xs⟩
theorem src_p {K : PySem.W.Frag} {as : List α} {sl : Sl} {q : V} (k : Nat) (hL : LSl K A sl as) (hq : ∀ x, (Gs x)[k]? = some (some (pn q sl))) : Src K A Gs (rV q) (fun _ => as) := ⟨fun c H0 F H v B0 tl0 x0 σ0 h st0 => by
  have h : v = q := h
  subst h
  have key : ∀ B tl x F' H' σ', Stt B tl (Gs x) F' H' σ' → ∃ a vs, v = .ref a ∧ SqL K H' a vs ∧ Pw (fun a v => A.r a F' v) as vs := fun B tl x F' H' σ' st => by
    obtain ⟨ms, z⟩ := st.sl
    obtain ⟨u, _, rfl, h2⟩ := z.has k _ (hq x)
    exact hL.run _ _ _ _ _ h2 st.fh st.yh
  obtain ⟨a, _, rfl, _⟩ := key _ _ _ _ _ _ st0
  refine ⟨a, rfl, fun B tl x F' H' σ' st _ => ?_⟩
  obtain ⟨a', vs, e, h1, h2⟩ := key B tl x F' H' σ' st
  cases e
  exact ⟨vs, h1, h2⟩⟩
theorem ps_forF {γ : Type} {e : Expr} {pos : Pos} {tg : Expr} {body : List Stmt} {G : Gm} {kk : Nat} {p : Er → ε} {m : M γ} {Rs : Rl γ} {l : γ → List α} {G2 : s × α → Gm} {x0 : s} {Gb : b → Gm} (C : Cok X W kk) (he : FE X W G e m Rs) (hS : Src X.K A Gs Rs l) (hG : Imp G (Gs x0)) (hg : FG X tl' (fun z : s × α => Gs z.1) tg A (fun z => z.2) G2)
    (hb : ∀ x a, FS X W Eh tl' (G2 (x, a)) body (f x a) R Gs Gs) (ht : ∀ i ∈ tl', i ∈ tl := by decide) (hs : ∀ x, foldedSetIterable e X.env x = pure x := by intro _; rfl) (hp : Pay Eh G p := by exact pay0 rfl) : PS X (.For tg e body [] pos) (tFS X.K W Eh tl G (m.bindP p fun c => forL f (l c) x0) R Gb Gs) :=
  PS.weak (ps_for C.hp C.calm (pi_list he) hg (pss_ex fun z : s × α => hb z.1 z.2) hs) fun D σ H ⟨B, F, T⟩ => by
    refine ⟨B, tl, F, T.tellE hp fun c F1 H1 ea g v rv => ?_⟩
    have T1 := T.rest ea (T.st.grow g)
    have st1 := hG _ _ _ _ _ T1.st
    obtain ⟨Xl, hX, st2⟩ := st1.rebase (tl' := tl')
    obtain ⟨q, rfl, hq⟩ := hS.run c H F1 H1 v _ _ _ _ rv st2
    have lc1 := T1.lc hX ht
    have stand : ∀ x F' H' σ', Stt ⟨B.Hd, Xl, F1, H1, σ⟩ tl' (Gs x) F' H' σ' → ∃ vs, SqL X.K H' q vs ∧ Pw (fun a v => A.r a F' v) (l c) vs := fun x F' H' σ' st => hq _ _ x F' H' σ' st st.g.f
    obtain ⟨vs, h1, _⟩ := stand x0 F1 H1 σ st2
    exact ⟨q, rfl, ⟨vs, h1⟩, for_stand st2 lc1 stand⟩
def rngL (n : Int) : List Int := (List.range n.toNat).map fun (k : Nat) => (k : Int)
theorem rngL_get {n : Int} {i : Nat} (h : i < n.toNat) : (rngL n)[i]? = some (i : Int) := by
  unfold rngL
  rw [List.getElem?_map, List.getElem?_range h]
  rfl
theorem rngL_len (n : Int) : (rngL n).length = n.toNat := by simp [rngL]
def rng2L (a b : Int) : List Int := (rngL (b - a)).map fun k => a + k
theorem rng2L_len (a b : Int) : (rng2L a b).length = (b - a).toNat := by unfold rng2L; rw [List.length_map, rngL_len]
theorem rng2L_get {a b : Int} {i : Nat} (h : i < (b - a).toNat) : (rng2L a b)[i]? = some (a + (i : Int)) := by
  unfold rng2L
  rw [List.getElem?_map, rngL_get h]
  rfl
theorem for_rng {D : Ends} {B' : Bs} {lo : Int} {n : Nat} {as : List Int} {f : s → Int → Mg ε (Fl ρ s s)} {G2 : s × Int → Gm} {x0 : s} {F H : Hp} {σ : St} (st : Stt B' tl' (Gs x0) F H σ) (lc : Lc X.K W Eh tl' (forL (b := b) f as x0) R Gs D B') (hl : as.length = n) (hs : ∀ i : Nat, i < n → as[i]? = some (lo + (i : Int))) :
    ∃ W_1 : Nat → Nat → St → Hp → Prop, (∃ m, W_1 0 m σ H) ∧ ∀ i m σ H, W_1 i m σ H →
      ((Itr lo n).stop i H ∧ D.nx σ H) ∨ ((Itr lo n).go i H ∧ ∃ N : St → Hp → Prop, (∀ σ' H', N σ' H' → ∃ m', m' < m ∧ W_1 (i + 1) m' σ' H') ∧ ∀ x H', (Itr lo n).yld i H x H' →
        tGt tl' (fun z : s × Int => Gs z.1) fInt (fun z => z.2) G2 x σ H' fun σ2 H2 => ∃ z : s × Int, tFS X.K W Eh tl' (G2 z) (f z.1 z.2) R Gs Gs { D with nx := N, ct := N, bk := D.nx } σ2 H2) := by
  refine for_range (tb := fun D σ H => ∃ z : s × Int, tFS X.K W Eh tl' (G2 z) (f z.1 z.2) R Gs Gs D σ H) (fun i σ H => ∃ F x, Stt B' tl' (Gs x) F H σ ∧ Lc X.K W Eh tl' (forL (b := b) f (as.drop i) x) R Gs D B') ⟨F, x0, st, lc⟩ ?_ ?_
  · rintro i σ H hi ⟨F, x, st, lc⟩
    exact for_turn (hs i hi) (fun y σ' F' H' st' lc' => ⟨F', y, st', lc'⟩) st lc rfl
  · rintro σ H ⟨F, x, st, lc⟩
    rw [← hl, List.drop_length] at lc
    exact lc.nx x rfl σ F H st
theorem ps_forR {e : Expr} {p cpos pos : Pos} {tg : Expr} {body : List Stmt} {G : Gm} {kk : Nat} {pp : Er → ε} {m : M Int} {f : s → Int → Mg ε (Fl ρ s s)} {G2 : s × Int → Gm} {x0 : s} {Gb : b → Gm} (C : Cok X W kk) (hm : X.mg "range" = none) (he : FE X W G e m fInt.up) (hG : Imp G (Gs x0)) (hg : FG X tl' (fun z : s × Int => Gs z.1) tg fInt (fun z => z.2) G2)
    (hb : ∀ x a, FS X W Eh tl' (G2 (x, a)) body (f x a) R Gs Gs) (ht : ∀ i ∈ tl', i ∈ tl := by decide) (hgl : Gl X "range" := by rfl) (hst : starEach [e] X.env = [(false, eval e X.env)] := by rfl) (hs : ∀ x, foldedSetIterable (.Call (.Name "range" p) [e] [] cpos) X.env x = pure x := by intro _; rfl) (hp : Pay Eh G pp := by exact pay0 rfl) :
    PS X (.For tg (.Call (.Name "range" p) [e] [] cpos) body [] pos) (tFS X.K W Eh tl G (m.bindP pp fun n => M.need (-(2 ^ 62) ≤ n ∧ n < 2 ^ 62) (forL f (rngL n) x0)) R Gb Gs) :=
  PS.weak (ps_for C.hp C.calm (pi_range1 hgl hm (pa_cons he pa_nil hst) hst) hg (pss_ex fun z : s × Int => hb z.1 z.2) hs) fun D σ H ⟨B, F, T⟩ => by
    refine ⟨B, tl, F, T.tellE hp fun n F1 H1 ea g v ev => ?_⟩
    have T1 := T.rest ea (T.st.grow g)
    obtain ⟨hc, e2⟩ := M.need_ne T1.ne
    rw [e2] at T1
    refine ⟨n, by rw [show v = V.int n from ev], hc.1, hc.2, ?_⟩
    obtain ⟨Xl, hX, st2⟩ := (hG _ _ _ _ _ T1.st).rebase (tl' := tl')
    exact for_rng st2 (T1.lc hX ht) (rngL_len n) fun i hi => by rw [rngL_get hi, Int.zero_add]
theorem ps_forR2 {e e2 : Expr} {p cpos pos : Pos} {tg : Expr} {body : List Stmt} {G : Gm} {kk : Nat} {pp : Er → ε} {m m2 : M Int} {f : s → Int → Mg ε (Fl ρ s s)} {G2 : s × Int → Gm} {x0 : s} {Gb : b → Gm} (C : Cok X W kk) (hm : X.mg "range" = none) (he : FE X W G e m fInt.up) (he2 : FE X W G e2 m2 fInt.up) (hG : Imp G (Gs x0)) (hg : FG X tl' (fun z : s × Int => Gs z.1) tg fInt (fun z => z.2) G2)
    (hb : ∀ x a, FS X W Eh tl' (G2 (x, a)) body (f x a) R Gs Gs) (ht : ∀ i ∈ tl', i ∈ tl := by decide) (hgl : Gl X "range" := by rfl) (hst : starEach [e, e2] X.env = [(false, eval e X.env), (false, eval e2 X.env)] := by rfl) (hst2 : starEach [e2] X.env = [(false, eval e2 X.env)] := by rfl) (hs : ∀ x, foldedSetIterable (.Call (.Name "range" p) [e, e2] [] cpos) X.env x = pure x := by intro _; rfl) (hp : Pay Eh G pp := by exact pay0 rfl) :
    PS X (.For tg (.Call (.Name "range" p) [e, e2] [] cpos) body [] pos) (tFS X.K W Eh tl G (m.bindP pp fun n => m2.bindP pp fun n2 => M.need (-(2 ^ 62) ≤ n ∧ n < 2 ^ 62 ∧ -(2 ^ 62) ≤ n2 ∧ n2 < 2 ^ 62) (forL f (rng2L n n2) x0)) R Gb Gs) :=
  PS.weak (ps_for C.hp C.calm (pi_range2 hgl hm (pa_cons he (pa_cons he2 pa_nil hst2) (by rw [hst, hst2])) hst hst2) hg (pss_ex fun z : s × Int => hb z.1 z.2) hs) fun D σ H ⟨B, F, T⟩ => by
    refine ⟨B, tl, F, T.tellE hp fun n F1 H1 ea g v ev => ?_⟩
    have T1 := T.rest ea (T.st.grow g)
    refine ⟨B, tl, F1, T1.tellE hp fun n2 F2 H2 ea2 g2 v2 ev2 => ?_⟩
    have T2 := T1.rest ea2 (T1.st.grow g2)
    obtain ⟨hc, e2⟩ := M.need_ne T2.ne
    rw [e2] at T2
    refine ⟨n, n2, by rw [show v = V.int n from ev, show v2 = V.int n2 from ev2], hc, ?_⟩
    obtain ⟨Xl, hX, st2⟩ := (hG _ _ _ _ _ T2.st).rebase (tl' := tl')
    exact for_rng st2 (T2.lc hX ht) (rng2L_len n n2) fun i hi => rng2L_get hi
def signs (l : List Nat) : List (List Nat) := l.map fun c => [c]
theorem ps_forS {e : Expr} {pos : Pos} {tg : Expr} {body : List Stmt} {G : Gm} {kk : Nat} {p : Er → ε} {m : M (List Nat)} {f : s → List Nat → Mg ε (Fl ρ s s)} {G2 : s × List Nat → Gm} {x0 : s} {Gb : b → Gm} (C : Cok X W kk) (he : FE X W G e m fTxt.up) (hG : Imp G (Gs x0)) (hg : FG X tl' (fun z : s × List Nat => Gs z.1) tg fTxt (fun z => z.2) G2)
    (hb : ∀ x a, FS X W Eh tl' (G2 (x, a)) body (f x a) R Gs Gs) (ht : ∀ i ∈ tl', i ∈ tl := by decide) (hs : ∀ x, foldedSetIterable e X.env x = pure x := by intro _; rfl) (hp : Pay Eh G p := by exact pay0 rfl) : PS X (.For tg e body [] pos) (tFS X.K W Eh tl G (m.bindP p fun l => forL f (signs l) x0) R Gb Gs) :=
  PS.weak (ps_for C.hp C.calm (pi_str he) hg (pss_ex fun z : s × List Nat => hb z.1 z.2) hs) fun D σ H ⟨B, F, T⟩ => by
    refine ⟨B, tl, F, T.tellE hp fun l F1 H1 ea g v ⟨ev, hl⟩ => ?_⟩
    have T1 := T.rest ea (T.st.grow g)
    refine ⟨S l, ev, ?_⟩
    obtain ⟨Xl, hX, st1⟩ := (hG _ _ _ _ _ T1.st).rebase (tl' := tl')
    have lc1 := T1.lc hX ht
    generalize (⟨B.Hd, Xl, F1, H1, σ⟩ : Bs) = B' at st1 lc1
    have hsz : (S l).cps.size = l.length := by simp [S]
    refine ⟨fun i m σ H => m = l.length - i ∧ i ≤ l.length ∧ ∃ F x, Stt B' tl' (Gs x) F H σ ∧ Lc X.K W Eh tl' (forL (b := b) f ((signs l).drop i) x) R Gs D B', ⟨_, rfl, Nat.zero_le _, F1, x0, st1, lc1⟩, ?_⟩
    rintro i m σ H ⟨rfl, hi, F, x, st, lc⟩
    by_cases hlt : i < l.length
    · refine .inr ⟨by show i < (S l).cps.size; rw [hsz]; exact hlt, fun σ' H' => ∃ F y, Stt B' tl' (Gs y) F H' σ' ∧ Lc X.K W Eh tl' (forL (b := b) f ((signs l).drop (i + 1)) y) R Gs D B', fun σ' H' h => ⟨_, by omega, rfl, hlt, h⟩, fun v H' yl => ?_⟩
      obtain ⟨e1, c, hc, e2⟩ := yl
      subst e1 e2
      have hc' : l[i]? = some c := by simpa [S] using hc
      refine for_turn (a := [c]) (by unfold signs; rw [List.getElem?_map, hc']; rfl) (fun y σ' F' H' st' lc' => ⟨F', y, st', lc'⟩) st lc ⟨rfl, hl.sub (by simp; omega) fun d hd => by
        cases List.mem_singleton.mp hd
        exact List.mem_of_getElem? hc'⟩
    · refine .inl ⟨by show (S l).cps.size ≤ i; rw [hsz]; omega, ?_⟩
      have e : (signs l).drop i = [] := List.drop_eq_nil_of_le (by simp [signs]; omega)
      rw [e] at lc
      exact lc.nx x rfl σ F H st
def whileL {ε ρ b s : Type} (p : Er → s → ε) (c : s → M Bool) (f : s → Mg ε (Fl ρ s s)) : Nat → s → Mg ε (Fl ρ b s)
  | 0, _ => none
  | n + 1, x => (c x).bindP (fun e => p e x) fun t => if t = true then (f x).bind fun o => match o with
      | .ret v => M.ok (.ret v)
      | .nx y => whileL p c f n y
      | .ct y => whileL p c f n y
      | .bk y => M.ok (.nx y)
    else M.ok (.nx x)
theorem pt_ex {ι : Type} {e : Expr} {t : ι → TT} (h : ∀ a, PT X e (t a)) : PT X e (fun σ H Q => ∃ a, t a σ H Q) := ⟨fun pins s σ H Q I ⟨a, q⟩ => (h a).run pins s σ H Q I q⟩
theorem ps_whl {c : Expr} {pos : Pos} {body : List Stmt} {G : Gm} {kk : Nat} {p : Er → s → ε} {mc : s → M Bool} {g : s → Mg ε (Fl ρ s s)} {x0 : s} {Gb : b → Gm} (C : Cok X W kk) (fuel : Nat) (hc : ∀ x, FT X W (Gs x) c (mc x)) (hG : Imp G (Gs x0)) (hb : ∀ x, FS X W Eh tl' (Gs x) body (g x) R Gs Gs) (ht : ∀ i ∈ tl', i ∈ tl := by decide) (hp : ∀ x, Pay Eh (Gs x) (fun e => p e x) := by exact fun _ => pay0 rfl) :
    PS X (.While c body [] pos) (tFS X.K W Eh tl G (whileL p mc g fuel x0) R Gb Gs) :=
  PS.weak (ps_while C.hp (pt_ex hc) (pss_ex hb)) fun D σ H ⟨B, F, T⟩ => by
    obtain ⟨Xl, hX, st1⟩ := (hG _ _ _ _ _ T.st).rebase (tl' := tl')
    have lc1 := T.lc hX ht
    generalize (⟨B.Hd, Xl, F, H, σ⟩ : Bs) = B' at st1 lc1
    refine ⟨fun m σ H => ∃ F x, Stt B' tl' (Gs x) F H σ ∧ Lc X.K W Eh tl' (whileL (b := b) p mc g m x) R Gs D B', ⟨fuel, F, x0, st1, lc1⟩, ?_⟩
    rintro m σ H ⟨F, x, st, lc⟩
    cases m with
    | zero => exact absurd rfl lc.ne
    | succ m =>
      have l2 : Lc X.K W Eh tl' ((mc x).bindP (fun e => p e x) fun t => if t = true then (g x).bind fun o => match o with
        | .ret v => M.ok (.ret v)
        | .nx y => whileL (b := b) p mc g m y
        | .ct y => whileL (b := b) p mc g m y
        | .bk y => M.ok (.nx y)
        else M.ok (.nx x)) R Gs D B' := lc
      refine ⟨x, B', tl', F, st, ?_, fun t et F1 H1 g1 => ?_, ?_⟩
      · intro q
        exact l2.ne (by rw [q]; rfl)
      · rw [et] at l2
        have st2 := st.grow g1
        cases t with
        | false => exact l2.nx x rfl σ F1 H1 st2
        | true =>
          have l3 : Lc X.K W Eh tl' ((g x).bind fun o => match o with
            | .ret v => M.ok (.ret v)
            | .nx y => whileL (b := b) p mc g m y
            | .ct y => whileL (b := b) p mc g m y
            | .bk y => M.ok (.nx y)) R Gs D B' := l2
          refine ⟨fun σ' H' => ∃ F y, Stt B' tl' (Gs y) F H' σ' ∧ Lc X.K W Eh tl' (whileL (b := b) p mc g m y) R Gs D B', fun σ' H' h => ⟨m, Nat.lt_succ_self m, h⟩, x, B', F1, st2, ?_, ?_, ?_, ?_, ?_, ?_⟩
          · intro q
            exact l3.ne (by rw [q]; rfl)
          · intro r q v σ' F' H' st'
            exact l3.ret r (by rw [q]; rfl) v σ' F' H' st'
          · intro y q σ' F' H' st'
            rw [q] at l3
            exact ⟨F', y, st', l3⟩
          · intro y q σ' F' H' st'
            exact l3.nx y (by rw [q]; rfl) σ' F' H' st'
          · intro y q σ' F' H' st'
            rw [q] at l3
            exact ⟨F', y, st', l3⟩
          · intro er q σ' F' H' st'
            exact l3.er er (by rw [q]; rfl) σ' F' H' st'
      · rintro er q F' H' gg
        have := l2.er (p er x) (by rw [q]; rfl) σ F' H' ((hp x).i er _ _ _ _ _ (st.grow gg))
        rw [(hp x).c er] at this
        exact this
end
def fin {ε ρ s : Type} (d : Option (s → ρ)) (m : Mg ε (Fl ρ Unit s)) : Mg ε ρ := m.bind fun o => match o with
  | .ret r => M.ok r
  | .nx t => match d with
    | some f => M.ok (f t)
    | none => none
  | _ => none
def env0 (ss : List Sl) (n : Nat) : Gm := ss.map some ++ List.replicate n none
theorem env0_get {ss : List Sl} {n i : Nat} {s : Sl} (e : (env0 ss n)[i]? = some (some s)) : ss[i]? = some s := by
  unfold env0 at e
  by_cases hi : i < ss.length
  · rw [List.getElem?_append_left (by simpa using hi), List.getElem?_map] at e
    cases q : ss[i]? with
    | none => rw [q] at e; cases e
    | some t => rw [q] at e; simpa using e
  · rw [List.getElem?_append_right (by simpa using hi)] at e
    rw [List.getElem?_replicate] at e
    split at e <;> simp at e
theorem stt_start {F H : Hp} {X : List Addr} {ss : List Sl} {vs : List V} {N : List Str} {ms : Nat → List Addr} {n : Nat} (x : Ex F H) (h : PmG (hid X H) F H X ss vs ms) (hl : vs.length ≤ N.length) (hn : N.length ≤ ss.length + n) : Stt ⟨hid X H, X, F, H, L2.start N vs⟩ (List.range N.length) (env0 ss n) F H (L2.start N vs) := by
  have hlen : (L2.start N vs).length = N.length := by simp [L2.start]; omega
  refine ⟨(Gr.refl x).x _, fun a o ha => hid_some ha, fun _ _ => rfl, rfl, by rw [hlen]; simp [env0]; omega, ms, ⟨fun i s e => ?_, fun i e => ?_, h.mem, fun i s e o y hy => .inr (h.own i s (env0_get e) o y hy), fun i s e o => h.sep i s (env0_get e) o⟩⟩
  · obtain ⟨v, hv, hr⟩ := h.has i s (env0_get e)
    refine ⟨v, fun _ => ?_, hr⟩
    have hi := (List.getElem?_eq_some_iff.mp hv).1
    unfold L2.start
    rw [List.getElem?_append_left (by simpa using hi), List.getElem?_map, hv]
    rfl
  · refine h.non i (Nat.le_of_not_lt fun hi => ?_)
    refine e ss[i] ?_
    unfold env0
    rw [List.getElem?_append_left (by simpa using hi), List.getElem?_map, List.getElem?_eq_getElem hi]
    rfl
inductive Picks (G : Gm) : List Nat → List (V × Sl) → Prop where
  | nil : Picks G [] []
  | cons {i : Nat} {is : List Nat} {v : V} {s : Sl} {cs : List (V × Sl)} (h : G[i]? = some (some (pn v s))) (t : Picks G is cs) (y : ∀ Y Y' F H v ms, s.r Y F H v ms → s.r Y' F H v ms := by intro _ _ _ _ _ _ h; exact h) : Picks G (i :: is) ((v, s) :: cs)
theorem Picks.at_ {G : Gm} : ∀ {is : List Nat} {cs : List (V × Sl)}, Picks G is cs → ∀ {j : Nat} {v : V} {s : Sl}, cs[j]? = some (v, s) → ∃ i, is[j]? = some i ∧ G[i]? = some (some (pn v s)) ∧ ∀ Y Y' F H v ms, s.r Y F H v ms → s.r Y' F H v ms
  | _, _, .nil, j, v, s, e => by simp at e
  | _, _, .cons h t y, 0, v, s, e => by
    simp at e
    obtain ⟨rfl, rfl⟩ := e
    exact ⟨_, rfl, h, y⟩
  | _, _, .cons h t y, j + 1, v, s, e => by
    obtain ⟨i, h1, h2⟩ := t.at_ (j := j) (by simpa using e)
    exact ⟨i, by simpa using h1, h2⟩
theorem Picks.len {G : Gm} : ∀ {is : List Nat} {cs : List (V × Sl)}, Picks G is cs → is.length = cs.length
  | _, _, .nil => rfl
  | _, _, .cons _ t _ => congrArg (· + 1) t.len
theorem Picks.back {G : Gm} : ∀ {is : List Nat} {cs : List (V × Sl)}, Picks G is cs → ∀ {j i : Nat}, is[j]? = some i → ∃ v s, cs[j]? = some (v, s) ∧ G[i]? = some (some (pn v s))
  | _, _, .nil, j, i, e => by simp at e
  | _, _, .cons h t _, 0, i, e => by
    simp at e
    subst e
    exact ⟨_, _, rfl, h⟩
  | _, _, .cons h t _, j + 1, i, e => by
    obtain ⟨v, s, h1, h2⟩ := t.back (j := j) (by simpa using e)
    exact ⟨v, s, by simpa using h1, h2⟩
theorem Stt.cells {B : Bs} {tl : List Nat} {G : Gm} {F H : Hp} {σ : St} {is : List Nat} {cs : List (V × Sl)} (st : Stt B tl G F H σ) (p : Picks G is cs) (nd : is.Nodup) : ∃ ms, CellsOk B.Hd F H cs ms := by
  obtain ⟨ms, z⟩ := st.sl
  let mi : Nat → List Addr := fun j => match is[j]? with
    | some i => ms i
    | none => []
  have has' : ∀ (j : Nat) (x : Addr), x ∈ mi j → ∃ i v s, is[j]? = some i ∧ G[i]? = some (some (pn v s)) ∧ x ∈ ms i := fun j x hx => by
    have hx : x ∈ (match is[j]? with
      | some i => ms i
      | none => []) := hx
    cases q : is[j]? with
    | none => rw [q] at hx; simp at hx
    | some i =>
      rw [q] at hx
      obtain ⟨v, s, _, h2⟩ := p.back q
      exact ⟨i, v, s, rfl, h2, hx⟩
  have own : ∀ (i : Nat) (v : V) (s : Sl) (x : Addr), G[i]? = some (some (pn v s)) → x ∈ ms i → s.own = true := fun i v s x hG hx => by
    cases o : s.own with
    | true => rfl
    | false =>
      obtain ⟨u, _, hr⟩ := z.has i _ hG
      have : ms i = [] := (pn v s).no o hr
      rw [this] at hx
      simp at hx
  refine ⟨mi, fun j v s e Y' => ?_, fun j hj => ?_, fun j x hx => ?_, fun j x hx j' hj hm => ?_⟩
  · obtain ⟨i, h1, h2, h3⟩ := p.at_ e
    obtain ⟨u, _, rfl, hr⟩ := z.has i _ h2
    refine h3 B.Hd Y' _ _ _ _ ?_
    show s.r B.Hd F H u (match is[j]? with
      | some i => ms i
      | none => [])
    rw [h1]
    exact hr
  · show (match is[j]? with
      | some i => ms i
      | none => []) = []
    rw [List.getElem?_eq_none (by rw [p.len]; exact hj)]
  · obtain ⟨i, v, s, h1, h2, h3⟩ := has' j x hx
    exact ⟨st.frs z h2 (own i v s x h2 h3) x h3, z.mem i x h3⟩
  · obtain ⟨i, v, s, h1, h2, h3⟩ := has' j x hx
    obtain ⟨i', v', s', h1', h2', h3'⟩ := has' j' x hm
    refine z.sep i _ h2 (own i v s x h2 h3) x h3 i' (fun q => hj ?_) h3'
    subst q
    have l1 := (List.getElem?_eq_some_iff.mp h1).1
    have l2 := (List.getElem?_eq_some_iff.mp h1').1
    have nd' := List.pairwise_iff_getElem.mp nd
    have e1 := (List.getElem?_eq_some_iff.mp h1).2
    have e2 := (List.getElem?_eq_some_iff.mp h1').2
    rcases Nat.lt_trichotomy j' j with hlt | heq | hlt
    · exact absurd (e2.trans e1.symm) (nd' j' j l2 l1 hlt)
    · exact heq
    · exact absurd (e1.trans e2.symm) (nd' j j' l1 l2 hlt)
abbrev WE0 (E : XK) : WX := fun cls d _ H => E cls d H
abbrev bodyCx (P : Program) (w : World) (K : PySem.W.Frag) (mg : Str → Option Value) (base : Heap) (N : List Str) (qual : Str) (scope : Scope) (f : Addr) (cdv : Value) (A : Around) (outer : List PySem.Env) (s : Shared) (H : Hp) (E : XK) : Cx := cxOf (L2N.CX P w) P w K mg base N qual scope f cdv A outer s H E
theorem fn_def {P : Program} {w : World} {K : PySem.W.Frag} {mg : Str → Option Value} {base : Heap} {x qual : Str} {params : Arguments} {body : List Stmt} {scope : Scope} {f : Addr} {fd : FuncData} (Fd : FunD K x qual params body scope [] [] f fd) {N ps : List Str} (S : FnScope N ps scope) {k : Nat} {ε α ρ s : Type} {par : α → (Nat → V) → List Sl} {bm : α → Mg ε (Fl ρ Unit s)} {res : ρ → Sl} {outs : ρ → (Nat → V) → List (V × Sl)} {Eh : (Nat → V) → EH ε} {cls : ε → Er} {outsE : ε → (Nat → V) → List (V × Sl)}
    {R : (Nat → V) → ρ → V → Gm} {Nx : (Nat → V) → s → Gm} (n : Nat) (d : Option (s → ρ)) (ix ixn ixe : List Nat)
    (hd : ∀ f, d = some f → ∀ t Y F H, (res (f t)).r Y F H .non []) (hl : ∀ a w, (par a w).length = ps.length) (hn : N.length ≤ ps.length + n) (hps : ps.length ≤ N.length) (hcl : ∀ w e, (Eh w).cls e = cls e)
    (hR : ∀ w r v, Picks (R w r v) ix ((v, res r) :: outs r w)) (hN : ∀ f, d = some f → ∀ w t, Picks (Nx w t) ixn (outs (f t) w)) (hE : ∀ w e, Picks ((Eh w).G e) ixe (outsE e w)) (nd : ix.Nodup ∧ ixn.Nodup ∧ ixe.Nodup)
    (hbody : ∀ (cdv : Value) (A : Around) (outer : List PySem.Env) (s : Shared) (H : Hp) (E : XK), Cok (bodyCx P w K mg base N qual scope f cdv A outer s H E) (WE0 E) k →
      ∀ a u, FS (bodyCx P w K mg base N qual scope f cdv A outer s H E) (WE0 E) (Eh u) (List.range N.length) (env0 (par a u) n) body (bm a) (R u) (fun _ : Unit => []) (Nx u)) :
    FnOk P w K mg base (L2N.CX P w) (k + 1) f fd ps (spG K par (fun a => fin d (bm a)) res outs cls outsE) := by
  refine Fd.ok S (fun vs H Q E ⟨a, F, u, X, ms, x, h, _⟩ => ?_) fun cdv A outer s H vs Q E hr ⟨a, F, u, X, ms, x, h, ne, hok, her⟩ => ?_
  · rw [← h.len]; exact hl a u
  · have hv : vs.length = ps.length := by rw [← h.len]; exact hl a u
    refine ⟨_, hbody cdv A outer s H E ⟨rfl, L2N.takes_of rfl rfl rfl rfl, passes_of rfl, hr, S.nd⟩ a u, ⟨hid X H, X, F, H, L2.start N vs⟩, F, ?_, ?_, ?_, ?_, ?_, ?_, ?_⟩
    · exact stt_start x h (by rw [hv]; exact hps) (by rw [hl a u]; exact hn)
    · intro e
      exact ne (by show fin d (bm a) = none; rw [e]; rfl)
    · intro r e v σ' F' H' st
      obtain ⟨ms', c⟩ := st.cells (hR u r v) nd.1
      exact hok r (by show fin d (bm a) = _; rw [e]; rfl) v F' H' ms' st.g c
    · intro t e σ' F' H' st
      cases d with
      | none => exact absurd (by show fin none (bm a) = none; rw [e]; rfl) ne
      | some f =>
        obtain ⟨ms', c⟩ := st.cells (hN f rfl u t) nd.2.1
        refine hok (f t) (by show fin (some f) (bm a) = _; rw [e]; rfl) .non F' H' (fun j => match j with
          | 0 => []
          | j + 1 => ms' j) st.g ⟨fun j v s e Y' => ?_, fun j hj => ?_, fun j x hx => ?_, fun j x hx j' hj hm => ?_⟩
        · cases j with
          | zero =>
            simp at e
            obtain ⟨rfl, rfl⟩ := e
            exact hd f rfl t _ _ _
          | succ j => exact c.has j v s (by simpa using e) Y'
        · cases j with
          | zero => rfl
          | succ j => exact c.non j (by simpa using hj)
        · cases j with
          | zero => exact nomatch hx
          | succ j => exact c.mem j x hx
        · cases j with
          | zero => exact nomatch hx
          | succ j =>
            cases j' with
            | zero => exact nomatch hm
            | succ j' => exact c.sep j x hx j' (fun q => hj (by rw [q])) hm
    · intro z e
      exact absurd (by show fin d (bm a) = none; rw [e]; rfl) ne
    · intro z e
      exact absurd (by show fin d (bm a) = none; rw [e]; rfl) ne
    · intro e q σ' F' H' st
      obtain ⟨ms', c⟩ := st.cells (hE u e) nd.2.2
      have := her e (by show fin d (bm a) = _; rw [q]; rfl) F' H' ms' st.g c
      rw [← hcl u e] at this
      exact this
end LK
namespace LK
open PySem L2
def noerr {α : Type} (m : M α) : M α := match m with
  | some (.error _) => none
  | m => m
theorem noerr_ne {α : Type} {m : M α} (h : noerr m ≠ none) : ∃ a, m = M.ok a := by
  cases m with
  | none => exact absurd rfl h
  | some r =>
    cases r with
    | error e => exact absurd rfl h
    | ok a => exact ⟨a, rfl⟩
def lcL {α β : Type} (c : α → M Bool) (f : α → M β) : List α → List β → M (List β)
  | [], acc => M.ok acc
  | a :: r, acc => (noerr (c a)).bind fun t => if t = true then (noerr (f a)).bind fun y => M.need (acc.length < sizeLine) (lcL c f r (acc ++ [y])) else lcL c f r acc
abbrev W0 : WX := fun _ _ _ _ => False
abbrev blkX (X : Cx) (scope : Scope) (s : Shared) (H : Hp) (C : Addr) (cl : List (Str × Addr)) (fp : List Addr) : Cx := X.blk s H scope (compEnvC scope cl C X.env) fp
theorem Cok.blk {X : Cx} {W : WX} {k : Nat} (C : Cok X W k) (scope : Scope) (s : Shared) (H : Hp) (c : Addr) (cl : List (Str × Addr)) (fp : List Addr) : Cok (blkX X scope s H c cl fp) W0 k :=
  ⟨C.calm, takes0N, PassesOwn.never, C.hr, C.nd⟩
abbrev FTs (X : Cx) (W : WX) (G : Gm) (es : List Expr) (m : M Bool) : Prop := PTs X es (tT X.K W G m)
theorem PTs.weak {X : Cx} {e : List Expr} {t t' : TT} (h : PTs X e t) (w : ∀ σ H Q, t' σ H Q → t σ H Q) : PTs X e t' := ⟨fun pins s σ H Q I q => h.run pins s σ H Q I (w _ _ _ q)⟩
theorem fts_nil {X : Cx} {W : WX} {G : Gm} : FTs X W G [] (M.ok true) := PTs.weak pts_nil fun σ H Q ⟨B, tl, F, T⟩ => T.ok true rfl F H (Gr.refl T.fh)
theorem wipe_get {σ : St} : ∀ {vs : List Nat} {i : Nat}, i ∉ vs → (wipe σ vs)[i]? = σ[i]?
  | [], i, _ => rfl
  | v :: vs, i, h => by
    show ((wipe σ vs).set v none)[i]? = _
    rw [List.getElem?_set_ne (fun q => h (by rw [q]; simp))]
    exact wipe_get fun q => h (List.mem_cons_of_mem _ q)
theorem wipe_at {σ : St} : ∀ {vs : List Nat} {i : Nat}, i ∈ vs → i < σ.length → (wipe σ vs)[i]? = some none
  | v :: vs, i, h, hl => by
    show ((wipe σ vs).set v none)[i]? = _
    by_cases hv : v = i
    · subst hv
      rw [List.getElem?_set_self (by rw [wipe_length]; exact hl)]
    · rw [List.getElem?_set_ne hv]
      exact wipe_at (by rcases List.mem_cons.mp h with q | q; exact absurd q.symm hv; exact q) hl
theorem wipe_eq {σ τ : St} {vs : List Nat} (hl : τ.length = σ.length) (h : ∀ i : Nat, i ∉ vs → τ[i]? = (wipe σ vs)[i]?) : wipe τ vs = wipe σ vs := by
  apply List.ext_getElem?
  intro i
  by_cases hi : i ∈ vs
  · by_cases hl' : i < σ.length
    · rw [wipe_at hi hl', wipe_at hi (by rw [hl]; exact hl')]
    · rw [List.getElem?_eq_none (by rw [wipe_length]; omega), List.getElem?_eq_none (by rw [wipe_length]; omega)]
  · rw [wipe_get hi]
    exact h i hi
theorem Stt.wipe {B : Bs} {tl : List Nat} {G Gw : Gm} {F H : Hp} {σ : St} {vs : List Nat} (s : Stt B tl G F H σ) (d : Imp G Gw) (hw : ∀ i ∈ vs, ∀ t, Gw[i]? ≠ some (some t)) : Stt ⟨B.Hd, B.X0, B.F0, B.H0, L2.wipe σ vs⟩ vs Gw F H (L2.wipe σ vs) := by
  have s' := d _ _ _ _ _ s
  obtain ⟨ms, z⟩ := s'.sl
  refine ⟨s'.g, s'.bh, fun _ _ => rfl, rfl, by rw [wipe_length]; exact s'.len, ms, ⟨fun i t e => ?_, z.non, z.mem, z.own, z.sep⟩⟩
  obtain ⟨v, h1, h2⟩ := z.has i t e
  exact ⟨v, fun hl => by rw [wipe_get fun q => hw i q t e]; exact h1 (by rw [wipe_length] at hl; exact hl), h2⟩
section
variable {X : Cx} {W : WX} {G Gw : Gm} {kk : Nat} {α β : Type} {A : Rf α} {E : Rf β}
def tEu (K : PySem.W.Frag) (G2 : α → Gm) (f : α → M β) (E : Rf β) : TE := fun σ H Q => ∃ a, tE K W0 (G2 a) (f a) E.up σ H Q
def tTu (K : PySem.W.Frag) (G2 : α → Gm) (c : α → M Bool) : TT := fun σ H Q => ∃ a, tT K W0 (G2 a) (c a) σ H Q
theorem lc_turn {D : Addr} {F1 H1 : Hp} {σ : St} {vs : List Nat} {B : Bs} {G2 : α → Gm} {c : α → M Bool} {f : α → M β} {te : TE} {tt : TT} {K : PySem.W.Frag} (st : Stt B vs Gw F1 H1 (wipe σ vs)) (hs0 : B.s0 = wipe σ vs) (hD : H1 D = none)
    {i : Nat} {as : List α} {a : α} {v : V} {F H : Hp} {acc : List β} {accv : List V} {Nx : Hp → Prop} (ha : as[i]? = some a) (g : Gr F1 H1 F H) (hF : F D = none) (hv : A.r a F v) (hDl : H D = some (.lst accv)) (pw : Pw (fun b x => E.r b F x) acc accv)
    (ne : lcL c f (as.drop i) acc ≠ none)
    (hte : ∀ σ H Q, (∃ a, tE K W0 (G2 a) (f a) E.up σ H Q) → te σ H Q) (htt : ∀ σ H Q, (∃ a, tT K W0 (G2 a) (c a) σ H Q) → tt σ H Q)
    (hN : ∀ F' H' acc' accv', Gr F1 H1 F' H' → F' D = none → H' D = some (.lst accv') → Pw (fun b x => E.r b F' x) acc' accv' → lcL c f (as.drop i) acc = lcL c f (as.drop (i + 1)) acc' → Nx H') :
    tGt vs (fun _ : α => Gw) A (fun z => z) G2 v (wipe σ vs) H fun σ2 H2 => wipe σ2 vs = wipe σ vs ∧ tt σ2 H2 fun b H3 => if b = true then te σ2 H3 fun y H4 => ∃ acc, H4 D = some (.lst acc) ∧ acc.length < sizeLine ∧ Nx (upd H4 D (.lst (acc ++ [y]))) else Nx H3 := by
  have e : as.drop i = a :: as.drop (i + 1) := by
    obtain ⟨h1, h2⟩ := List.getElem?_eq_some_iff.mp ha
    rw [List.drop_eq_getElem_cons h1, h2]
  rw [e] at ne
  have ne1 : (noerr (c a)).bind (fun t => if t = true then (noerr (f a)).bind fun y => M.need (acc.length < sizeLine) (lcL c f (as.drop (i + 1)) (acc ++ [y])) else lcL c f (as.drop (i + 1)) acc) ≠ none := ne
  obtain ⟨t, et⟩ := noerr_ne (m := c a) (fun q => ne1 (by rw [q]; rfl))
  rw [et] at ne1
  have unf : lcL c f (as.drop i) acc = if t = true then (noerr (f a)).bind fun y => M.need (acc.length < sizeLine) (lcL c f (as.drop (i + 1)) (acc ++ [y])) else lcL c f (as.drop (i + 1)) acc := by
    rw [e]
    show (noerr (c a)).bind _ = _
    rw [et]
    rfl
  refine ⟨a, B, F, st.grow g, hv, fun σ' st' => ⟨?_, htt _ _ _ ⟨a, B, vs, F, st', (by rw [et]; exact fun z => (nomatch z)), fun t' et' F' H' g' => ?_, fun er q => by rw [et] at q; cases q⟩⟩⟩
  · refine wipe_eq ?_ fun j hj => ?_
    · rw [st'.ls, hs0, wipe_length]
    · rw [st'.fr j hj, hs0]
  · rw [et] at et'
    cases M.ok_inj et'
    cases t with
    | false =>
      exact hN F' H' acc accv (g.trans g') (g'.no D hF (.of hDl)) (g'.h _ _ hDl) (pw.imp fun _ _ h => E.st h g'.f) unf
    | true =>
      have ne2 : (noerr (f a)).bind (fun y => M.need (acc.length < sizeLine) (lcL c f (as.drop (i + 1)) (acc ++ [y]))) ≠ none := ne1
      obtain ⟨y, ey⟩ := noerr_ne (m := f a) (fun q => ne2 (by rw [q]; rfl))
      rw [ey] at ne2
      obtain ⟨hlt, e3⟩ := M.need_ne (show M.need (acc.length < sizeLine) (lcL c f (as.drop (i + 1)) (acc ++ [y])) ≠ none from ne2)
      show te σ' H' _
      refine hte _ _ _ ⟨a, B, vs, F', st'.grow g', (by rw [ey]; exact fun z => (nomatch z)), fun y' ey' F4 H4 g4 w rw' => ?_, fun er q => by rw [ey] at q; cases q⟩
      rw [ey] at ey'
      cases M.ok_inj ey'
      have hD4 : H4 D = some (.lst accv) := g4.h _ _ (g'.h _ _ hDl)
      have hF4 : F4 D = none := g4.no D (g'.no D hF (.of hDl)) (.of (g'.h _ _ hDl))
      refine ⟨accv, hD4, by rw [← pw.len]; exact hlt, hN F4 _ (acc ++ [y]) (accv ++ [w]) ?_ hF4 upd_same ((pw.imp fun _ _ h => E.st h (g'.f.trans g4.f)).snoc rw') ?_⟩
      · have g5 := (g.trans g').trans g4
        exact ⟨g5.f, g5.h.mut hD, g5.fh.mut hF4, g5.no⟩
      · rw [unf]
        show (noerr (f a)).bind _ = _
        rw [ey]
        exact M.need_pos hlt
theorem tLcL_run {elt tg iter : Expr} {ifs : List Expr} {scope : Scope} {own : List (Str × Nat)} {m : M (List α)} {c : α → M Bool} {f : α → M β} {G2 : α → Gm} (C : Cok X W kk) (hi : FE X W G iter m (bLst X.K A)) (d : Imp G Gw) (hw : ∀ i ∈ own.map (·.2), ∀ t, Gw[i]? ≠ some (some t))
    (ok : BlkOk X.N X.env.scope scope own) (hg : ∀ s H C cl fp, FG (blkX X scope s H C cl fp) (own.map (·.2)) (fun _ : α => Gw) tg A (fun z => z) G2) (ht : ∀ a s H C cl fp, FTs (blkX X scope s H C cl fp) W0 (G2 a) ifs (c a)) (he : ∀ a s H C cl fp, FE (blkX X scope s H C cl fp) W0 (G2 a) elt (f a) E.up)
    (hs : ∀ x, foldedSetIterable iter X.env x = pure x) {σ : St} {H : Hp} {Q : VK} (h : tE X.K W G (m.bind fun as => lcL c f as []) (ro (tL X.K E)) σ H Q) : tLc (iList X.K (tE X.K W G m (bLst X.K A))) (tGt (own.map (·.2)) (fun _ : α => Gw) A (fun z => z) G2) (tTu X.K G2 c) (tEu X.K G2 f E) (own.map (·.2)) σ H Q := by
  obtain ⟨B, tl, F, T⟩ := h
  refine ⟨B, tl, F, T.seq fun as F1 H1 _ g1 T1 v ⟨q, vs, ev, hq, pw⟩ => ?_⟩
  subst ev
  refine ⟨q, rfl, ⟨vs, hq⟩, fun D hD => ?_⟩
  have st := T1.st.wipe d hw
  refine lc_list (K := X.K) (a := q) (xs := vs) (g := tGt (own.map (·.2)) (fun _ : α => Gw) A (fun z => z) G2) (tt := tTu X.K G2 c) (te := tEu X.K G2 f E) (D := D) (Qd := fun H => Q (.ref D) H) (fun i H => ∃ F acc accv, Gr F1 H1 F H ∧ F D = none ∧ H D = some (.lst accv) ∧ Pw (fun b x => E.r b F x) acc accv ∧ lcL c f as [] = lcL c f (as.drop i) acc) ?_ ?_ ?_ ?_
  · exact ⟨F1, [], [], Gr.newM g1.fh hD, g1.fh.free hD, upd_same, .nil, rfl⟩
  · rintro i H _ ⟨F, acc, accv, g, _⟩
    exact sqL_ex g.h hq
  · rintro i x H hx ⟨F, acc, accv, g, hF, hDl, pa, el⟩
    obtain ⟨a, ha, hv⟩ := pw.getV hx
    refine lc_turn st rfl hD ha g hF (A.st hv g.f) hDl pa (by rw [← el]; exact T1.ne) (te := tEu X.K G2 f E) (tt := tTu X.K G2 c) (fun _ _ _ h => h) (fun _ _ _ h => h) fun F' H' acc' accv' g' h1 h2 h3 h4 => ⟨F', acc', accv', g', h1, h2, h3, el.trans h4⟩
  · rintro H ⟨F, acc, accv, g, hF, hDl, pa, el⟩
    rw [← pw.len, List.drop_length] at el
    refine T1.ok acc el F H g (.ref D) ⟨[D], ⟨D, accv, rfl, hDl, pa, rfl⟩, fun y hy => ?_⟩
    cases List.mem_singleton.mp hy
    exact ⟨g1.h.free hD, hF, .of hDl⟩
theorem fe_lcL {elt tg iter : Expr} {ifs : List Expr} {scope : Scope} {own : List (Str × Nat)} {pos : Pos} {m : M (List α)} {c : α → M Bool} {f : α → M β} {G2 : α → Gm} (C : Cok X W kk) (hi : FE X W G iter m (bLst X.K A)) (d : Imp G Gw) (hw : ∀ i ∈ own.map (·.2), ∀ t, Gw[i]? ≠ some (some t))
    (ok : BlkOk X.N X.env.scope scope own) (hg : ∀ s H C cl fp, FG (blkX X scope s H C cl fp) (own.map (·.2)) (fun _ : α => Gw) tg A (fun z => z) G2) (ht : ∀ a s H C cl fp, FTs (blkX X scope s H C cl fp) W0 (G2 a) ifs (c a)) (he : ∀ a s H C cl fp, FE (blkX X scope s H C cl fp) W0 (G2 a) elt (f a) E.up)
    (hs : ∀ x, foldedSetIterable iter X.env x = pure x := by intro _; rfl) : FE X W G (.ListComp elt [⟨tg, iter, ifs, 0⟩] scope pos) (m.bind fun as => lcL c f as []) (ro (tL X.K E)) :=
  PE.weak (pe_lc (tt := tTu X.K G2 c) (te := tEu X.K G2 f E) C.calm C.nd (pi_list hi) ok (fun s H C cl fp => hg s H C cl fp) (fun s H C cl fp => ⟨fun pins s1 σ H1 Q I ⟨a, q⟩ => (ht a s H C cl fp).run pins s1 σ H1 Q I q⟩) (fun s H C cl fp => ⟨fun pins s1 σ H1 Q I ⟨a, q⟩ => (he a s H C cl fp).run pins s1 σ H1 Q I q⟩) hs) fun σ H Q h => tLcL_run C hi d hw ok hg ht he hs h
theorem fv_lcL {elt tg iter : Expr} {ifs : List Expr} {scope : Scope} {own : List (Str × Nat)} {pos : Pos} {as : List α} {c : α → M Bool} {f : α → M β} {G2 : α → Gm} (C : Cok X W kk) (hi : FE X W G iter (M.ok as) (bLst X.K A)) (d : Imp G Gw) (hw : ∀ i ∈ own.map (·.2), ∀ t, Gw[i]? ≠ some (some t))
    (ok : BlkOk X.N X.env.scope scope own) (hg : ∀ s H C cl fp, FG (blkX X scope s H C cl fp) (own.map (·.2)) (fun _ : α => Gw) tg A (fun z => z) G2) (ht : ∀ a s H C cl fp, FTs (blkX X scope s H C cl fp) W0 (G2 a) ifs (c a)) (he : ∀ a s H C cl fp, FE (blkX X scope s H C cl fp) W0 (G2 a) elt (f a) E.up)
    (hs : ∀ x, foldedSetIterable iter X.env x = pure x := by intro _; rfl) : FE X W G (.ListComp elt [⟨tg, iter, ifs, 0⟩] scope pos) (lcL c f as []) (ro (tL X.K E)) := fe_lcL C hi d hw ok hg ht he hs
theorem tLcR_run {own : List (Str × Nat)} {m : M Int} {c : Int → M Bool} {f : Int → M β} {G2 : Int → Gm} (C : Cok X W kk) (d : Imp G Gw) (hw : ∀ i ∈ own.map (·.2), ∀ t, Gw[i]? ≠ some (some t))
    {σ : St} {H : Hp} {Q : VK} (h : tE X.K W G (m.bind fun n => M.need (-(2 ^ 62) ≤ n ∧ n < 2 ^ 62) (lcL c f (rngL n) [])) (ro (tL X.K E)) σ H Q) : tLc (iRng1 (tCons (tE X.K W G m fInt.up) tNil)) (tGt (own.map (·.2)) (fun _ : Int => Gw) fInt (fun z => z) G2) (tTu X.K G2 c) (tEu X.K G2 f E) (own.map (·.2)) σ H Q := by
  obtain ⟨B, tl, F, T⟩ := h
  refine ⟨B, tl, F, T.seq fun n F1 H1 _ g1 T1 v ev => ?_⟩
  have ev : v = V.int n := ev
  subst ev
  obtain ⟨hc, e2⟩ := M.need_ne T1.ne
  rw [e2] at T1
  refine ⟨n, rfl, hc.1, hc.2, fun D hD => ?_⟩
  have st := T1.st.wipe d hw
  refine lc_range (lo := 0) (n := n.toNat) (g := tGt (own.map (·.2)) (fun _ : Int => Gw) fInt (fun z => z) G2) (tt := tTu X.K G2 c) (te := tEu X.K G2 f E) (D := D) (Qd := fun H => Q (.ref D) H) (fun i H => ∃ F acc accv, Gr F1 H1 F H ∧ F D = none ∧ H D = some (.lst accv) ∧ Pw (fun b x => E.r b F x) acc accv ∧ lcL c f (rngL n) [] = lcL c f ((rngL n).drop i) acc) ?_ ?_ ?_
  · exact ⟨F1, [], [], Gr.newM g1.fh hD, g1.fh.free hD, upd_same, .nil, rfl⟩
  · rintro i H hx ⟨F, acc, accv, g, hF, hDl, pa, el⟩
    refine lc_turn st rfl hD (rngL_get hx) g hF (by rw [Int.zero_add]; rfl) hDl pa (by rw [← el]; exact T1.ne) (te := tEu X.K G2 f E) (tt := tTu X.K G2 c) (fun _ _ _ h => h) (fun _ _ _ h => h) fun F' H' acc' accv' g' h1 h2 h3 h4 => ⟨F', acc', accv', g', h1, h2, h3, el.trans h4⟩
  · rintro H ⟨F, acc, accv, g, hF, hDl, pa, el⟩
    rw [← rngL_len n, List.drop_length] at el
    refine T1.ok acc el F H g (.ref D) ⟨[D], ⟨D, accv, rfl, hDl, pa, rfl⟩, fun y hy => ?_⟩
    cases List.mem_singleton.mp hy
    exact ⟨g1.h.free hD, hF, .of hDl⟩
end
section
variable {X : Cx} {W : WX} {G : Gm}
structure TyA {α : Type} (K : PySem.W.Frag) (A : Rl α) (a : α) (t : String) : Prop where
  run : ∀ H0 F H v, Ex F H → A.r a H0 F H v → TyX K H v (.type t)
end
open PySem (PyData) in
structure Dt (K : PySem.W.Frag) {α : Type} (A : Rf α) where
  d : α → PyData
  n : Nat
  at_ : ∀ {a F H v}, A.r a F v → Ex F H → Dp K H v (d a)
  ok : ∀ {a F v}, A.r a F v → (d a).canLay0 = true ∧ (d a).depth ≤ n
  eq : ∀ a b, PyData.eqv (d a) (d b) = true ↔ a = b
section
variable {K : PySem.W.Frag}
def dTxt : Dt K fTxt := ⟨fun l => .str (S l), 0, fun {a F H v} h _ => by
  obtain ⟨h, _⟩ := h
  subst h
  exact .str _, fun {a F v} h => ⟨by
  show PyData.strOk (S a) = true
  unfold PyData.strOk
  rw [Array.all_eq_true']
  intro c hc
  exact decide_eq_true (h.2.all c (by simpa [S] using hc)), Nat.le_refl 0⟩, fun a b => by
  show (S a == S b) = true ↔ _
  rw [beq_iff_eq]
  exact ⟨S_inj, fun h => by rw [h]⟩⟩
structure DtT (K : PySem.W.Frag) {α : Type} (T : Tv α) where
  d : α → List PyData
  n : Nat
  at_ : ∀ {a F H vs}, T.r a F vs → Ex F H → DpAll K H vs (d a)
  ok : ∀ {a F vs}, T.r a F vs → PyData.canLayAll0 (d a) = true ∧ PyData.depthAll (d a) ≤ n
  eq : ∀ a b, PyData.eqvAll (d a) (d b) = true ↔ a = b
end
end LK
namespace LK
open PySem L2
section
variable {X : Cx} {W : WX} {G : Gm} {k : Nat}
def Cal (P : Program) (w : World) (K : PySem.W.Frag) (mg : Str → Option Value) (base : Heap) (x : Str) (ps : List Str) (j : Nat) (sp : Sp) : Prop :=
  ∃ f fd, mg x = some (.ref f) ∧ PySem.W.keepIn K (.ref f) = true ∧ Binds K fd ps [] ∧ FnOk P w K mg base (L2N.CX P w) j f fd ps sp
theorem fe_callC {α ρ : Type} {j : Nat} {ps : List Str} {x : Str} {p pos : Pos} {e : Expr} {es : List Expr} {par : α → List Sl} {mir : α → M ρ} {res : ρ → Sl} {R : Rl ρ} {m : M α} {mm : M ρ} {A : Ra α} (C : Cok X W k)
    (h : Cal X.prog X.w X.K X.mg X.base x ps j (spP X.K par mir res)) (hj : j ≤ k) (hp : ArgOk A par) (hr : ResOf res R) (ha : FA X W G (e :: es) m A) (hme : m.bind mir = mm := by rfl)
    (hg : Gl X x := by rfl) (hdb : (x == ("__debug__" : Str)) = false := by decide) (he : starEach (e :: es) X.env = (false, eval e X.env) :: starEach es X.env := by rfl) (hpl : (backTo pos (starEach es X.env)).any (·.1) = false := by rfl) :
    FE X W G (.Call (.Name x p) (e :: es) [] pos) mm R := by
  obtain ⟨f, fd, hm, hk, hb, Fk⟩ := h
  rw [← hme]
  exact fe_call C Fk hj hm hk hb hp hr ha hg hdb he hpl
theorem fv_callC {α ρ : Type} {j : Nat} {ps : List Str} {x : Str} {p pos : Pos} {e : Expr} {es : List Expr} {par : α → List Sl} {mir : α → M ρ} {res : ρ → Sl} {R : Rl ρ} {a : α} {mm : M ρ} {A : Ra α} (C : Cok X W k)
    (h : Cal X.prog X.w X.K X.mg X.base x ps j (spP X.K par mir res)) (hj : j ≤ k) (hp : ArgOk A par) (hr : ResOf res R) (ha : FA X W G (e :: es) (M.ok a) A) (hme : mir a = mm := by rfl)
    (hg : Gl X x := by rfl) (hdb : (x == ("__debug__" : Str)) = false := by decide) (he : starEach (e :: es) X.env = (false, eval e X.env) :: starEach es X.env := by rfl) (hpl : (backTo pos (starEach es X.env)).any (·.1) = false := by rfl) :
    FE X W G (.Call (.Name x p) (e :: es) [] pos) mm R := fe_callC C h hj hp hr ha hme hg hdb he hpl
theorem op_runR {K : PySem.W.Frag} {α β γ : Type} {r : R2} {ta tb : TE} {ma : M α} {y : β} {g : α → M γ} {A : Rl α} {B : Rl β} {R : Rl γ} (hl : ∀ a, OpP r A B a y (g a) R) {σ : St} {H : Hp} {Q : VK}
    (ha : ∀ σ H Q, tE K W G ma A σ H Q → ta σ H Q) (hb : ∀ σ H Q, tE K W G (M.ok y) B σ H Q → tb σ H Q) (h : tE K W G (ma.bind g) R σ H Q) : tOp r ta tb σ H Q := by
  obtain ⟨Bs, tl, F, T⟩ := h
  refine ha _ _ _ ⟨Bs, tl, F, T.seq fun x F1 H1 _ g1 T1 v rv => hb _ _ _ ⟨Bs, tl, F1, ?_⟩⟩
  have T1 : Told K W G ((M.ok y).bind fun _ => g x) _ σ H1 Bs tl F1 := T1
  refine T1.seq fun y' F2 H2 ey g2 T2 w rw => ?_
  cases M.ok_inj ey
  obtain ⟨c, e, q⟩ := T2.out (hl x).ne
  exact (hl x).run F2 H2 v w H Q T2.fh (A.st rv g2) (B.pre rw g1.h.kn) c e fun z F' H' g3 rz => T2.ok c e F' H' g3 z (R.pre rz (g1.h.trans g2.h).kn)
theorem fe_binr {α β γ : Type} {op : Operator} {r : R2} {a b : Expr} {pos : Pos} {ma : M α} {y : β} {g : α → M γ} {A : Rl α} {B : Rl β} {R : Rl γ} (ho : OpR X (binaryOp op) r) (hl : ∀ a, OpP r A B a y (g a) R) (ha : FE X W G a ma A) (hb : FE X W G b (M.ok y) B) :
    FE X W G (.BinOp a op b pos) (ma.bind g) R := PE.weak (pe_op ho ha hb) fun _ _ _ h => op_runR hl (fun _ _ _ z => z) (fun _ _ _ z => z) h
theorem fe_ixr {α β γ : Type} {r : R2} {a b : Expr} {pos : Pos} {ma : M α} {y : β} {g : α → M γ} {A : Rl α} {B : Rl β} {R : Rl γ} (ho : IxR X r) (hl : ∀ a, OpP r A B a y (g a) R) (ha : FE X W G a ma A) (hb : FE X W G b (M.ok y) B) (hs : PlainIx b := by exact fun _ _ => rfl) :
    FE X W G (.Subscript a b pos) (ma.bind g) R := PE.weak (pe_ix ho ha hb hs) fun _ _ _ h => op_runR hl (fun _ _ _ z => z) (fun _ _ _ z => z) h
theorem ol_mulN {a b : Int} : OpP (rI CMul fun i j => .int (i * j)) fInt.up fInt.up a b (M.need ((-(2 ^ 64) < a ∧ a < 2 ^ 64) ∨ (-(2 ^ 64) < b ∧ b < 2 ^ 64)) (M.ok (a * b))) fInt.up := oppN fun hc F H v w Q x ha hb k => ⟨a, b, ha, hb, hc, k _ rfl⟩
theorem ol_modN {a b : Int} : OpP (rI (fun _ j => 0 < j) fun i j => .int (i % j)) fInt.up fInt.up a b (M.need (0 < b) (M.ok (a % b))) fInt.up := oppN fun hc F H v w Q x ha hb k => ⟨a, b, ha, hb, hc, k _ rfl⟩
theorem ol_notinStr {a b : List Nat} : OpP (fun x y H Q => ∃ i j, x = .str i ∧ y = .str j ∧ Q (.bl (!(!(Builtin.Str.occurrences j i 0 j.length 1).isEmpty))) H) fTxt.up fTxt.up a b (M.ok (!occIn a b)) fBool.up := opp fun F H v w Q x ha hb k => by
  obtain ⟨rfl, _⟩ := ha
  obtain ⟨rfl, _⟩ := hb
  exact ⟨S a, S b, rfl, rfl, k _ rfl⟩
def intS (a : List Nat) : M Int := match PySem.intText? (S a) with
  | some n => M.ok n
  | none => none
theorem intS_err {a : List Nat} (e : Er) : intS a ≠ M.err e := by
  unfold intS
  split <;> exact fun h => nomatch h
theorem intS_ok {a : List Nat} {n : Int} (h : intS a = M.ok n) : PySem.intText? (S a) = some n := by
  unfold intS at h
  split at h
  · rename_i k e
    rw [e, M.ok_inj h]
  · cases h
theorem cl_intS {a : List Nat} : CallP (fun xs H Q => ∃ a n, xs = [.str a] ∧ PySem.intText? a = some n ∧ a.length ≤ 640 ∧ Q (.int n) H) (a1 fTxt.up) (a, ()) (M.need (a.length ≤ 640) (intS a)) fInt.up := by
  refine ⟨fun e h => ?_, fun F H vs H0 Q x ⟨v, r, e, h1, h2⟩ c ec k => ?_⟩
  · unfold M.need at h
    split at h
    · exact intS_err e h
    · cases h
  · obtain ⟨hc, e2⟩ := M.need_ne (m := intS a) (c := a.length ≤ 640) (by rw [ec]; exact fun z => nomatch z)
    rw [e2] at ec
    cases h2
    obtain ⟨h1, _⟩ := h1
    subst h1
    subst e
    exact ⟨S a, c, rfl, intS_ok ec, by rw [S_len]; exact hc, k _ F H (Gr.refl x) rfl⟩
theorem tv_chain {α β γ : Type} {op op' : CmpOp} {r r' : R2} {a b d : Expr} {pos : Pos} {x : α} {y : β} {z : γ} {p q : Bool} {A : Rl α} {B : Rl β} {D : Rl γ} (ho : OpR X (compareOp op) r) (ho' : OpR X (compareOp op') r') (hl : OpP r A B x y (M.ok p) fBool.up) (hl' : OpP r' B D y z (M.ok q) fBool.up)
    (ha : FE X W G a (M.ok x) A) (hb : FE X W G b (M.ok y) B) (hd : FE X W G d (M.ok z) D) (hm : lastMarks [op, op'] [b, d] = false := by with_unfolding_all rfl) : FT X W G (.Compare a [op, op'] [b, d] pos) (M.ok (p && q)) := by
  refine PT.weak (pt_chain ho ho' ha hb hd hm) fun σ H Q h => ?_
  obtain ⟨Bs, tl, F, T⟩ := te_tt h
  show tChain r r' _ _ _ σ H _
  have T : Told X.K W G ((M.ok x).bind fun _ => (M.ok y).bind fun _ => M.ok (p && q)) _ σ H Bs tl F := T
  refine ⟨Bs, tl, F, T.seq fun x' F1 H1 ex g1 T1 v rv => ⟨Bs, tl, F1, T1.seq fun y' F2 H2 ey g2 T2 w rw => ?_⟩⟩
  cases M.ok_inj ex
  cases M.ok_inj ey
  refine hl.run F2 H2 v w H _ T2.fh (A.st rv g2) (B.pre rw g1.h.kn) p rfl fun u F3 H3 g3 ru => ⟨p, ru, ?_⟩
  cases p with
  | false => exact T2.ok _ rfl F3 H3 g3 _ rfl
  | true =>
    have T3 : Told X.K W G ((M.ok z).bind fun _ => M.ok (true && q)) _ σ H3 Bs tl F3 := ⟨T2.st.grow g3, T2.ne, fun a e F' H' g => T2.ok a e F' H' (g3.trans g), fun e q' F' H' g => T2.er e q' F' H' (g3.trans g)⟩
    refine ⟨Bs, tl, F3, T3.seq fun z' F4 H4 ez g4 T4 u rz => ?_⟩
    cases M.ok_inj ez
    exact hl'.run F4 H4 w u H1 _ T4.fh (B.st rw (g3.trans g4)) (D.pre rz (g2.h.trans g3.h).kn) q rfl fun t F5 H5 g5 rt => T4.ok _ rfl F5 H5 g5 t rt
def NoN {α : Type} (A : Rf α) : Prop := ∀ a F v, A.r a F v → v ≠ .non
theorem nn_int : NoN fInt := fun a F v h e => by cases h; cases e
theorem nn_tup {K : PySem.W.Frag} {α : Type} {T : Tv α} : NoN (fTup K T) := fun a F v ⟨p, vs, h, _⟩ e => by subst h; cases e
theorem fe_map {α β : Type} {e : Expr} {m : M α} {R : Rl α} {R' : Rl β} (f : α → β) (h : FE X W G e m R) (w : ∀ a H0 F H v, R.r a H0 F H v → R'.r (f a) H0 F H v) : FE X W G e (m.bind fun a => M.ok (f a)) R' :=
  PE.weak h fun σ H Q ⟨B, tl, F, T⟩ => ⟨B, tl, F, T.seq fun a F1 H1 _ g T1 v r => T1.ok (f a) rfl F1 H1 (Gr.refl g.fh) v (w _ _ _ _ _ r)⟩
theorem fe_optS {α : Type} {e : Expr} {m : M α} {A : Rf α} (n : NoN A) (h : FE X W G e m A.up) : FE X W G e (m.bind fun a => M.ok (some a)) (fOpt A).up := fe_map some h fun a H0 F H v r => ⟨r, n a F v r⟩
theorem fv_optS {α : Type} {e : Expr} {a : α} {A : Rf α} (n : NoN A) (h : FE X W G e (M.ok a) A.up) : FE X W G e (M.ok (some a)) (fOpt A).up := fe_optS n h
theorem fe_optN {α : Type} {e : Expr} {u : Unit} {A : Rf α} (h : FE X W G e (M.ok u) fUnit.up) : FE X W G e (M.ok (none : Option α)) (fOpt A).up := fe_map (fun _ => none) h fun a H0 F H v r => r
end
def noSl (G : Gm) (l : List Nat) : Bool := l.all fun i => match G[i]? with
  | some (some _) => false
  | _ => true
theorem hw_of {G : Gm} {l : List Nat} (h : noSl G l = true) : ∀ i ∈ l, ∀ t, G[i]? ≠ some (some t) := fun i hi t e => by
  have := List.all_eq_true.mp h i hi
  rw [e] at this
  cases this
section
variable {ε : Type} {Eh : EH ε} {X : Cx} {W : WX} {G : Gm} {tl : List Nat} {ρ b s : Type} {R : ρ → V → Gm} {Gb : b → Gm} {N : s → Gm} {k : Nat}
theorem fs_unp {α : Type} {e tg : Expr} {pos : Pos} {rest : List Stmt} {p : Er → ε} {m : M α} {A : Rf α} {G1 : α → Gm} {f : α → Mg ε (Fl ρ b s)} (he : FE X W G e m A.up) (hg : FG X tl (fun _ : α => G) tg A (fun z => z) G1) (hr : ∀ a, FS X W Eh tl (G1 a) rest (f a) R Gb N)
    (hs : swapsWithSole [tg] e pos.line X.env = pure false := by rfl) (hw : swappedStores [tg] e X.env = pure none := by rfl) (h1 : (assignEach [tg] X.env).map (·.2) = [assign tg X.env] := by rfl) (hp : Pay Eh G p := by exact pay0 rfl) : FS X W Eh tl G (.Assign [tg] e pos :: rest) (m.bindP p f) R Gb N :=
  PSs.weak (pss_cons (ps_asg he hg hs hw h1) (pss_ex hr)) fun D σ H ⟨B, F, D1⟩ => ⟨B, tl, F, D1.tellE hp fun a F1 H1 ea g v r =>
    ⟨a, B, F1, D1.st.grow g, r, fun σ' st' => ⟨a, B, F1, D1.rest ea st'⟩⟩⟩
theorem fmt_s {e : Expr} {pos : Pos} {m : M (List Nat)} (h : FE X W G e m fTxt.up) : FE X W G (.FormattedValue e (-1) none pos) (m.bind fun a => M.ok a) fTxt.up :=
  PE.weak (pe_fmt h) fun σ H Q ⟨B, tl, F, T⟩ => ⟨B, tl, F, T.seq fun a F1 H1 _ g T1 v r => .inl ⟨S a, r.1, by rw [S_len]; exact r.2.len, T1.ok a rfl F1 H1 (Gr.refl g.fh) _ ⟨rfl, r.2⟩⟩⟩
theorem fmt_sv {e : Expr} {pos : Pos} {a : List Nat} (h : FE X W G e (M.ok a) fTxt.up) : FE X W G (.FormattedValue e (-1) none pos) (M.ok a) fTxt.up := fmt_s h
theorem fmt_i {e : Expr} {pos : Pos} {m : M Int} (h : FE X W G e m fInt.up) : FE X W G (.FormattedValue e (-1) none pos) (m.bind fun i => M.need (i.natAbs.log2 < 1920 ∧ tOk (strI i)) (M.ok (strI i))) fTxt.up :=
  PE.weak (pe_fmt h) fun σ H Q ⟨B, tl, F, T⟩ => ⟨B, tl, F, T.seq fun i F1 H1 _ g T1 v r => by
    obtain ⟨hc, e2⟩ := M.need_ne T1.ne
    rw [e2] at T1
    exact .inr ⟨i, r, hc.1, T1.ok _ rfl F1 H1 (Gr.refl g.fh) _ ⟨by rw [strI, S_of], hc.2⟩⟩⟩
theorem fmt_iv {e : Expr} {pos : Pos} {i : Int} (h : FE X W G e (M.ok i) fInt.up) : FE X W G (.FormattedValue e (-1) none pos) (M.need (i.natAbs.log2 < 1920 ∧ tOk (strI i)) (M.ok (strI i))) fTxt.up := fmt_i h
def joinM : List (M (List Nat)) → List Nat → M (List Nat)
  | [], acc => M.ok acc
  | m :: ms, acc => m.bind fun x => M.need ((acc ++ x).length ≤ sizeLine) (joinM ms (acc ++ x))
inductive FJ (X : Cx) (W : WX) (G : Gm) : List Expr → List (M (List Nat)) → Prop where
  | nil : FJ X W G [] []
  | cons {e : Expr} {es : List Expr} {m : M (List Nat)} {ms : List (M (List Nat))} (h : FE X W G e m fTxt.up) (t : FJ X W G es ms) : FJ X W G (e :: es) (m :: ms)
theorem S_app (a b : List Nat) : S a ++ S b = S (a ++ b) := by
  show (⟨a.toArray ++ b.toArray⟩ : Str) = ⟨(a ++ b).toArray⟩
  simp
theorem fj_run {es : List Expr} {ms : List (M (List Nat))} (h : FJ X W G es ms) : ∃ ts, PJ X es ts ∧ ∀ (acc : List Nat) (σ : St) (H : Hp) (B : Bs) (tl : List Nat) (F : Hp) (P : List Nat → Hp → Hp → Prop) (Q : Str → Hp → Prop), tOk acc → Told X.K W G (joinM ms acc) P σ H B tl F → (∀ a F' H', tOk a → P a F' H' → Q (S a) H') → tJs ts (S acc) σ H Q := by
  induction h with
  | nil => exact ⟨[], .nil, fun acc σ H B tl F P Q ha T k => k acc F H ha (T.ok acc rfl F H (Gr.refl T.fh))⟩
  | @cons e es m ms h t ih =>
    obtain ⟨ts, hp, hr⟩ := ih
    refine ⟨_, .cons h hp, fun acc σ H B tl F P Q ha T k => ?_⟩
    have T : Told X.K W G (m.bind fun x => M.need ((acc ++ x).length ≤ sizeLine) (joinM ms (acc ++ x))) P σ H B tl F := T
    refine ⟨B, tl, F, T.seq fun x F1 H1 _ g T1 v r => ?_⟩
    obtain ⟨hc, e2⟩ := M.need_ne T1.ne
    rw [e2] at T1
    refine ⟨S x, r.1, by rw [S_app, S_len]; exact hc, ?_⟩
    rw [S_app]
    exact hr (acc ++ x) σ H1 B tl F1 P Q (tOk.mk hc fun c hm => by
      rcases List.mem_append.mp hm with q | q
      · exact ha.all c q
      · exact r.2.all c q) T1 k
theorem fe_joined {v1 v2 : Expr} {rest : List Expr} {pos : Pos} {ms : List (M (List Nat))} (h : FJ X W G (v1 :: v2 :: rest) ms) : FE X W G (.JoinedStr (v1 :: v2 :: rest) pos) (joinM ms []) fTxt.up := by
  obtain ⟨ts, hp, hr⟩ := fj_run h
  exact PE.weak (pe_joined hp) fun σ H Q ⟨B, tl, F, T⟩ => hr [] σ H B tl F _ _ (by decide +kernel) T fun a F' H' ha p => p _ ⟨rfl, ha⟩
theorem fs_setLcL {α β : Type} (i : Nat) {y : Str} {py spos : Pos} {Gw : Gm} {A : Rf α} {E : Rf β} {elt tg iter : Expr} {ifs : List Expr} {scope : Scope} {own : List (Str × Nat)} {pos : Pos} {p : Er → ε} {m : M (List α)} {c : α → M Bool} {f : α → M β} {G2 : α → Gm} {rest : List Stmt} {ff : List β → Mg ε (Fl ρ b s)} (C : Cok X W k)
    (hi : FE X W G iter m (bLst X.K A)) (d : Imp G Gw) (hw : ∀ i ∈ own.map (·.2), ∀ t, Gw[i]? ≠ some (some t))
    (ok : BlkOk X.N X.env.scope scope own) (hg : ∀ s H C cl fp, FG (blkX X scope s H C cl fp) (own.map (·.2)) (fun _ : α => Gw) tg A (fun z => z) G2) (ht : ∀ a s H C cl fp, FTs (blkX X scope s H C cl fp) W0 (G2 a) ifs (c a)) (he : ∀ a s H C cl fp, FE (blkX X scope s H C cl fp) W0 (G2 a) elt (f a) E.up)
    (hr : ∀ a, FS X W Eh tl (G.set i (some (ob (tL X.K E) a))) rest (ff a) R Gb N)
    (hy : X.N[i]? = some y := by rfl) (hyl : X.env.scope.names.lookup y = some .local := by rfl) (hk : X.env.scope.kind = .function := by rfl) (hln : (py.line == pos.line) = true := by rfl) (ha : (scope.names.any fun (n, k) => n == y && (k == .local || k == .cell)) = false := by decide +kernel)
    (hm : i ∈ tl := by decide) (hl : i < G.length := by exact Nat.le_of_ble_eq_true rfl) (hs : ∀ x, foldedSetIterable iter X.env x = pure x := by intro _; rfl) (hp : Pay Eh G p := by exact pay0 rfl) :
    FS X W Eh tl G (.Assign [.Name y py] (.ListComp elt [⟨tg, iter, ifs, 0⟩] scope pos) spos :: rest) ((m.bind fun as => lcL c f as []).bindP p ff) R Gb N :=
  PSs.weak (pss_cons (ps_setLc (tt := tTu X.K G2 c) (te := tEu X.K G2 f E) C.calm C.nd hy hyl (sw_true hk hyl hln ha) (pi_list hi) ok (fun s H C cl fp => hg s H C cl fp) (fun s H C cl fp => ⟨fun pins s1 σ H1 Q I ⟨a, q⟩ => (ht a s H C cl fp).run pins s1 σ H1 Q I q⟩) (fun s H C cl fp => ⟨fun pins s1 σ H1 Q I ⟨a, q⟩ => (he a s H C cl fp).run pins s1 σ H1 Q I q⟩) hs) (pss_ex hr)) fun D σ H ⟨B, F, D1⟩ =>
    tLcL_run (Q := fun x H1 => gName i x σ H1 (fun σ' H' => ∃ a, tFS X.K W Eh tl (G.set i (some (ob (tL X.K E) a))) (ff a) R Gb N D σ' H')) C hi d hw ok hg ht he hs ⟨B, tl, F, D1.tellE hp fun a F1 H1 ea g v r => by
      obtain ⟨ms, h1, h2⟩ := r
      exact ⟨a, B, F1, D1.rest ea (D1.st.set (T := ob (tL X.K E) a) g hm hl h1 h2)⟩⟩
theorem fs_setLcR {β : Type} (i : Nat) {y : Str} {py spos : Pos} {Gw : Gm} {E : Rf β} {elt tg e : Expr} {p' cpos : Pos} {ifs : List Expr} {scope : Scope} {own : List (Str × Nat)} {pos : Pos} {p : Er → ε} {m : M Int} {c : Int → M Bool} {f : Int → M β} {G2 : Int → Gm} {rest : List Stmt} {ff : List β → Mg ε (Fl ρ b s)} (C : Cok X W k) (hm0 : X.mg "range" = none)
    (hi : FE X W G e m fInt.up) (d : Imp G Gw) (hw : ∀ i ∈ own.map (·.2), ∀ t, Gw[i]? ≠ some (some t))
    (ok : BlkOk X.N X.env.scope scope own) (hg : ∀ s H C cl fp, FG (blkX X scope s H C cl fp) (own.map (·.2)) (fun _ : Int => Gw) tg fInt (fun z => z) G2) (ht : ∀ a s H C cl fp, FTs (blkX X scope s H C cl fp) W0 (G2 a) ifs (c a)) (he : ∀ a s H C cl fp, FE (blkX X scope s H C cl fp) W0 (G2 a) elt (f a) E.up)
    (hr : ∀ a, FS X W Eh tl (G.set i (some (ob (tL X.K E) a))) rest (ff a) R Gb N)
    (hy : X.N[i]? = some y := by rfl) (hyl : X.env.scope.names.lookup y = some .local := by rfl) (hk : X.env.scope.kind = .function := by rfl) (hln : (py.line == pos.line) = true := by rfl) (ha : (scope.names.any fun (n, k) => n == y && (k == .local || k == .cell)) = false := by decide +kernel)
    (hgl : Gl X "range" := by rfl) (hst : starEach [e] X.env = [(false, eval e X.env)] := by rfl) (hm : i ∈ tl := by decide) (hl : i < G.length := by exact Nat.le_of_ble_eq_true rfl) (hs : ∀ x, foldedSetIterable (.Call (.Name "range" p') [e] [] cpos) X.env x = pure x := by intro _; rfl) (hp : Pay Eh G p := by exact pay0 rfl) :
    FS X W Eh tl G (.Assign [.Name y py] (.ListComp elt [⟨tg, (.Call (.Name "range" p') [e] [] cpos), ifs, 0⟩] scope pos) spos :: rest) ((m.bind fun n => M.need (-(2 ^ 62) ≤ n ∧ n < 2 ^ 62) (lcL c f (rngL n) [])).bindP p ff) R Gb N :=
  PSs.weak (pss_cons (ps_setLc (tt := tTu X.K G2 c) (te := tEu X.K G2 f E) C.calm C.nd hy hyl (sw_true hk hyl hln ha) (pi_range1 hgl hm0 (pa_cons hi pa_nil hst) hst) ok (fun s H C cl fp => hg s H C cl fp) (fun s H C cl fp => ⟨fun pins s1 σ H1 Q I ⟨a, q⟩ => (ht a s H C cl fp).run pins s1 σ H1 Q I q⟩) (fun s H C cl fp => ⟨fun pins s1 σ H1 Q I ⟨a, q⟩ => (he a s H C cl fp).run pins s1 σ H1 Q I q⟩) hs) (pss_ex hr)) fun D σ H ⟨B, F, D1⟩ =>
    tLcR_run (Q := fun x H1 => gName i x σ H1 (fun σ' H' => ∃ a, tFS X.K W Eh tl (G.set i (some (ob (tL X.K E) a))) (ff a) R Gb N D σ' H')) C d hw ⟨B, tl, F, D1.tellE hp fun a F1 H1 ea g v r => by
      obtain ⟨ms, h1, h2⟩ := r
      exact ⟨a, B, F1, D1.rest ea (D1.st.set (T := ob (tL X.K E) a) g hm hl h1 h2)⟩⟩
end
def spLaw (K : PySem.W.Frag) : Sp := fun vs H Q _ => ∃ (a : Addr) (ns : List Int), vs = [.ref a] ∧ SqL K H a (ns.map V.int) ∧ ns.length ≤ 63 ∧ ∀ H', Q (.bl true) H'
theorem pw_ints {F : Hp} : ∀ ns : List Int, Pw (fun a x => fInt.r a F x) ns (ns.map V.int)
  | [] => .nil
  | n :: r => .cons rfl (pw_ints r)
theorem law_ok {P : Program} {w : World} {K : PySem.W.Frag} {mg : Str → Option Value} {base : Heap} {lv : Nat} {f : Addr} {fd : FuncData} {ps : List Str} {mir : List Int → M Bool}
    (Fk : FnOk P w K mg base (L2N.CX P w) lv f fd ps (spP K (fun (a : List Int × Unit) => [bw (tL K fInt) a.1]) (fun a => mir a.1) (sv fBool))) (ht : ∀ ns : List Int, ns.length ≤ 63 → mir ns = M.ok true) : FnOk P w K mg base CX0 lv f fd ps (spLaw K) := by
  have conv : ∀ vs H Q E, spLaw K vs H Q E → spP K (fun (a : List Int × Unit) => [bw (tL K fInt) a.1]) (fun a => mir a.1) (sv fBool) vs H Q E0 := fun vs H Q E ⟨a, ns, ev, hS, hl, k⟩ => by
    subst ev
    have x : Ex (fun _ => none) H := fun _ _ h => nomatch h
    refine ⟨(ns, ()), fun _ => none, fun _ => .non, [], fun _ => [], x, ?_, ?_, ?_, ?_⟩
    · rw [hid_nil]
      exact pm_cons ⟨⟨a, _, rfl, hS, pw_ints ns⟩, rfl⟩ rfl ⟨rfl, fun i s e => by simp at e, fun _ _ => rfl, fun _ _ h => (nomatch h), fun i s e => by simp at e, fun i s e => by simp at e⟩
    · show mir ns ≠ none
      rw [ht ns hl]
      exact fun z => nomatch z
    · intro r e v F' H' ms' g c
      have e : mir ns = M.ok r := e
      rw [ht ns hl] at e
      cases M.ok_inj e
      have := (c.has 0 _ _ rfl H').1
      cases (show v = V.bl true from this)
      exact k H'
    · intro er e
      have e : mir ns = M.err er := e
      rw [ht ns hl] at e
      cases e
  refine ⟨fun vs H Q E h => Fk.len _ _ _ _ (conv vs H Q E h), fun A outer s H args us vs Q E hr e0 hb r h => codeAny_mono (Fk.run A outer s H args us vs Q E0 hr e0 hb r (conv vs H Q E h)) fun res s' hc => ?_⟩
  cases res with
  | ok fl =>
    cases fl with
    | ret u => exact hc
    | next => exact hc
    | brk => exact hc
    | cont => exact hc
  | error e =>
    obtain ⟨_, _, _, _, _, _, _, _, _, _, _, _, z⟩ := (show L2N.CX P w outer H s E0 e s' from hc)
    exact z.elim
end LK
namespace LK
open PySem L2
def tryF {ε1 ε ρ b s : Type} (m : Mg ε1 (Fl ρ b s)) (h : ε1 → Mg ε (Fl ρ b s)) : Mg ε (Fl ρ b s) := match m with
  | none => none
  | some (.ok a) => M.ok a
  | some (.error e) => h e
def exB {ε β : Type} (tab : List (Er × Bool)) (e : Er) (y n : Mg ε β) : Mg ε β := match tab.lookup e with
  | some true => y
  | some false => n
  | none => none
structure HdW {ε1 ε ρ b s : Type} (X : Cx) (W : WX) (E1 : EH ε1) (Eh : EH ε) (tl : List Nat) (R : ρ → V → Gm) (Gb : b → Gm) (N : s → Gm) (hds : List ExceptHandler) (h : ε1 → Mg ε (Fl ρ b s)) (wh : Ends → WX) : Prop where
  run : ∀ (body : List Stmt) (pos : Pos) (tb : WX → TS), (∀ (W : WX) (pn : List (Addr × Obj)) (xe : Value → Shared → Prop), L2N.Takes (X.tr pn xe) W → PassesOwn (model X.prog X.w) X.A X.env xe → PSs (X.tr pn xe) body (tb W)) →
    PS X (.Try body hds [] [] pos) (fun D σ H => tb (wh D) D σ H)
  er : ∀ e D σ H B F, ToldS X.K W Eh tl (E1.G e) (h e) R Gb N D σ H B F → wh D (ec X.K (E1.cls e)) none σ H
section
variable {ε1 ε : Type} {E1 : EH ε1} {Eh : EH ε} {X : Cx} {W : WX} {G : Gm} {tl : List Nat} {ρ b s : Type} {R : ρ → V → Gm} {Gb : b → Gm} {N : s → Gm} {k : Nat}
theorem Cok.tr (C : Cok X W k) {W' : WX} {pn : List (Addr × Obj)} {xe : Value → Shared → Prop} (t : L2N.Takes (X.tr pn xe) W') (p : PassesOwn (model X.prog X.w) X.A X.env xe) : Cok (X.tr pn xe) W' k := ⟨C.calm, t, p, C.hr, C.nd⟩
theorem ps_try {hds : List ExceptHandler} {h : ε1 → Mg ε (Fl ρ b s)} {body : List Stmt} {pos : Pos} {m : Mg ε1 (Fl ρ b s)} (C : Cok X W k) (hh : ∃ wh, HdW X W E1 Eh tl R Gb N hds h wh)
    (hb : ∀ (W' : WX) (pn : List (Addr × Obj)) (xe : Value → Shared → Prop), Cok (X.tr pn xe) W' k → FS (X.tr pn xe) W' E1 tl G body m R Gb N) :
    PS X (.Try body hds [] [] pos) (tFS X.K W Eh tl G (tryF m h) R Gb N) := by
  obtain ⟨wh, hh⟩ := hh
  refine PS.weak (hh.run body pos (fun W' D σ H => tFS X.K W' E1 tl G m R Gb N D σ H) fun W' pn xe t p => hb W' pn xe (C.tr t p)) fun D σ H ⟨B, F, T⟩ => ?_
  refine ⟨B, F, T.st, ?_, ?_, ?_, ?_, ?_, ?_⟩
  · rintro rfl
    exact T.ne rfl
  · rintro r rfl
    exact T.ret r rfl
  · rintro r rfl
    exact T.nx r rfl
  · rintro r rfl
    exact T.bk r rfl
  · rintro r rfl
    exact T.ct r rfl
  · rintro e rfl σ' F' H' st
    have T : ToldS X.K W Eh tl G (h e) R Gb N D σ H B F := T
    exact hh.er e D σ' H' B F' ⟨st, T.ne, T.ret, T.nx, T.bk, T.ct, T.er⟩
theorem exB_ne {β : Type} {tab : List (Er × Bool)} {e : Er} {y n : Mg ε β} (h : exB tab e y n ≠ none) : ∃ b, tab.lookup e = some b ∧ exB tab e y n = if b = true then y else n := by
  unfold exB at h ⊢
  split
  · exact ⟨true, by assumption, rfl⟩
  · exact ⟨false, by assumption, rfl⟩
  · rename_i q
    rw [q] at h
    exact absurd rfl h
def noerrG {ε α : Type} (m : Mg ε α) : Mg ε α := match m with
  | some (.error _) => none
  | m => m
theorem noerrG_ne {α : Type} {m : Mg ε α} (h : noerrG m ≠ none) : ∃ a, m = M.ok a := by
  cases m with
  | none => exact absurd rfl h
  | some r =>
    cases r with
    | error e => exact absurd rfl h
    | ok a => exact ⟨a, rfl⟩
theorem pss_pure {X : Cx} {sts : List Stmt} {p : Prop} {t : TS} (h : p → PSs X sts t) : PSs X sts (fun D σ H => p ∧ t D σ H) := ⟨fun pins s σ H D I ⟨q, z⟩ => (h q).run pins s σ H D I z⟩
theorem nm_cls {x : Str} {c : Value} (hm : X.mg x = some c) (hg : Gl X x := by rfl) (hd : (x == ("__debug__" : Str)) = false := by decide) : Names X x c := ⟨hg, hd, .inl hm⟩
def fExc (a : Addr) : Rf Unit := ⟨fun _ _ v => v = .ref a, fun h _ => h⟩
theorem Stt.unset {B : Bs} {F H : Hp} {σ : St} {i : Nat} (st : Stt B tl G F H σ) (hi : i ∈ tl) (hn : ∀ t, G[i]? ≠ some (some t)) : Stt B tl G F H (σ.set i none) := by
  obtain ⟨ms, z⟩ := st.sl
  refine ⟨st.g, st.bh, fun j hj => ?_, by rw [List.length_set]; exact st.ls, by rw [List.length_set]; exact st.len, ms, ⟨fun j t e => ?_, z.non, z.mem, z.own, z.sep⟩⟩
  · rw [List.getElem?_set_ne (fun q => hj (by rw [← q]; exact hi))]
    exact st.fr j hj
  · obtain ⟨v, h1, h2⟩ := z.has j t e
    refine ⟨v, fun hl => ?_, h2⟩
    rw [List.getElem?_set_ne (fun q => hn t (by rw [q]; exact e))]
    exact h1 (by rw [List.length_set] at hl; exact hl)
def exE {ε β : Type} (tab : List (Er × Bool)) (e : Er) (y n : Mg ε β) : Mg ε β := exB tab e (noerrG y) n
theorem hw_as {x n : Str} {c : Value} {i : Nat} {tab : List (Er × Bool)} {b₀ : Stmt} {suite : List Stmt} {np pos' : Pos} {m : ε1 → Mg ε (Fl ρ b s)} {p : ε1 → ε} (C : Cok X W k) (hs : X.stack = X.env :: X.outer) (hf : X.env.frame = some X.env.locals) (hi : X.N[i]? = some n) (hln : X.env.kindOf n = some .local)
    (hc : Names X x c) (ht : ∀ e b, tab.lookup e = some b → PySem.W.exmOne X.K (ec X.K e) c = some b) (hm : i ∈ tl) (hl : ∀ e, i < (E1.G e).length) (hN : ∀ x t, (N x)[i]? ≠ some (some t)) (hB : ∀ x t, (Gb x)[i]? ≠ some (some t))
    (hpc : ∀ e, Eh.cls (p e) = E1.cls e) (hpi : ∀ e, Imp (E1.G e) (Eh.G (p e)))
    (hsu : ∀ (e : ε1) (a : Addr) (oe : Obj) (pn : List (Addr × Obj)), tab.lookup (E1.cls e) = some true → L2N.Zn (ec X.K (E1.cls e)) none oe → (∃ vs, oe.data = .fields vs) → FS (X.suite a ((a, oe) :: pn)) W0 Eh tl ((E1.G e).set i (some (sv (fExc a) ()))) (b₀ :: suite) (m e) R Gb N) :
    ∃ wh, HdW X W E1 Eh tl R Gb N [.ExceptHandler (some (.Name x np)) (some n) (b₀ :: suite) pos'] (fun e => exE tab (E1.cls e) (m e) (M.err (p e))) wh := by
  let ts : Addr → Value → Option Addr → TS := fun a cls d D σ H => ∃ e : ε1, (tab.lookup (E1.cls e) = some true ∧ cls = ec X.K (E1.cls e) ∧ d = none) ∧ tFS X.K W0 Eh tl ((E1.G e).set i (some (sv (fExc a) ()))) (m e) R Gb N D σ H
  refine ⟨fun D => wAs X.K c i ts W D, ⟨fun body pos tb hb => L2N.ps_try_as (ts := ts) hs hf C.nd hi hln hc C.tk hb fun a oe cls d pn hz hv => ?_, fun e D σ H B F T => ?_⟩⟩
  · refine pss_ex fun e => pss_pure fun ⟨h0, h1, h2⟩ => ?_
    subst h1 h2
    exact hsu e a oe pn h0 hz hv
  · have T : ToldS X.K W Eh tl (E1.G e) (exB tab (E1.cls e) (noerrG (m e)) (M.err (p e))) R Gb N D σ H B F := T
    obtain ⟨b1, hb1, eb⟩ := exB_ne T.ne
    refine ⟨b1, ht (E1.cls e) b1 hb1, fun hy a ha => ?_, fun hn => ?_⟩
    · rw [eb, if_pos hy] at T
      subst hy
      obtain ⟨o, eo⟩ := noerrG_ne T.ne
      rw [eo] at T
      have T : ToldS X.K W Eh tl (E1.G e) (M.ok o) R Gb N D σ H B F := T
      refine ⟨e, ⟨hb1, rfl, rfl⟩, B, F, T.st.set (Gr.refl T.st.fh) hm (hl e) (T := sv (fExc a) ()) (mv := []) ⟨rfl, rfl⟩ (fun x hx => nomatch hx), ?_, ?_, ?_, ?_, ?_, ?_⟩
      · rw [eo]; exact fun z => nomatch z
      · rw [eo]; exact T.ret
      · rw [eo]; exact fun y ey σ' F' H' st => T.nx y ey _ F' H' (st.unset hm (hN y))
      · rw [eo]; exact fun y ey σ' F' H' st => T.bk y ey _ F' H' (st.unset hm (hB y))
      · rw [eo]; exact fun y ey σ' F' H' st => T.ct y ey _ F' H' (st.unset hm (hB y))
      · rw [eo]; exact fun e z => (nomatch z)
    · rw [eb, if_neg (by rw [hn]; exact Bool.false_ne_true)] at T
      have := T.er (p e) rfl σ F H (hpi e _ _ _ _ _ T.st)
      rw [hpc e] at this
      exact this
end
def exI (tab : List (Er × Bool)) (e : Er) : M Bool := match tab.lookup e with
  | some b => M.ok b
  | none => none
theorem exI_ne {tab : List (Er × Bool)} {e e' : Er} : exI tab e ≠ M.err e' := by
  unfold exI
  split
  · exact fun z => nomatch z
  · exact fun z => nomatch z
theorem exI_ok {tab : List (Er × Bool)} {e : Er} {b : Bool} (h : exI tab e = M.ok b) : tab.lookup e = some b := by
  unfold exI at h
  split at h
  · rename_i q
    rw [q, ok_injF h]
  · cases h
where ok_injF {x y : Bool} (h : (M.ok x : M Bool) = M.ok y) : x = y := by injection h with h; injection h
def fCls (K : PySem.W.Frag) (y : Str) : Rf Unit := ⟨fun _ _ v => v = .ref (He.ga K y), fun h _ => h⟩
section
variable {X : Cx} {W : WX} {G : Gm} {k : Nat}
theorem fe_cls {y : Str} {pos : Pos} (hm : X.mg y = some (.ref (He.ga X.K y))) (hg : Gl X y := by rfl) (hd : (y == ("__debug__" : Str)) = false := by decide) : FE X W G (.Name y pos) (M.ok ()) (fCls X.K y).up :=
  fe_glob (v := .ref (He.ga X.K y)) hg hm rfl (fun _ => rfl) hd
def KT (K : PySem.W.Frag) (cv : Value) (tab : List (Er × Bool)) : Prop := ∀ e b, tab.lookup e = some b → PySem.W.kitOne K (ec K e) cv = some b
def KTs (K : PySem.W.Frag) (cvs : List Value) (tab : List (Er × Bool)) : Prop := ∀ e b, tab.lookup e = some b → PySem.W.kitAny K (ec K e) cvs = some b
theorem lk_cons {P : Er → Bool → Prop} {e0 : Er} {b0 : Bool} {tab : List (Er × Bool)} (h0 : P e0 b0) (r : ∀ e b, tab.lookup e = some b → P e b) : ∀ e b, ((e0, b0) :: tab).lookup e = some b → P e b := by
  intro e b h
  rw [List.lookup_cons] at h
  split at h
  · rename_i q
    rw [beq_iff_eq] at q
    cases h
    rw [q]
    exact h0
  · exact r e b h
theorem lk_nil {P : Er → Bool → Prop} : ∀ e b, ([] : List (Er × Bool)).lookup e = some b → P e b := fun _ _ h => nomatch h
theorem cl_isE1 {K : PySem.W.Frag} {e : Er} {a : Addr} {y : Str} {tab : List (Er × Bool)} (h : KT K (.ref (He.ga K y)) tab) : CallP (rIsE K (He.ga K e.name) a) (a2 (fExc a).up (fCls K y).up) ((), (), ()) (exI tab e) fBool.up :=
  ⟨fun e q => exI_ne q, fun F H vs H0 Q x ⟨v, r, e1, h1, ⟨w, r2, e2, h2, h3⟩⟩ c hc k => by
    cases h3
    have h1 : v = .ref a := h1
    have h2 : w = .ref (He.ga K y) := h2
    subst e1 e2 h1 h2
    exact ⟨.ref (He.ga K y), .ref (He.ga K y), c, rfl, fun u hu => hu, h e c (exI_ok hc), k _ F H (Gr.refl x) rfl⟩⟩
def rIsEL (K : PySem.W.Frag) (D a : Addr) : List V → Hp → VK → Prop := fun xs H Q => ∃ (p : Addr) (ys : List Addr) (b : Bool), xs = [.ref a, .ref p] ∧ SqT K H p (ys.map fun y => .ref y) ∧ PySem.W.kitAny K (.ref D) (ys.map fun y => .ref y) = some b ∧ Q (.bl b) H
theorem vals_refs : ∀ {ys : List Addr} {its : List Value}, Vals (ys.map fun y => V.ref y) its → its = ys.map fun y => Value.ref y
  | [], _, .nil => rfl
  | _ :: _, _, .cons h r => by
    cases h
    rw [vals_refs r]
    rfl
theorem call_isEL {a D : Addr} {oe : Obj} {pn : List (Addr × Obj)} (C : ExcC X.K D) (hz : Zc (.ref D) none oe) (hf : ∃ vs, oe.data = .fields vs) : CallR (X.suite a ((a, oe) :: pn)) (.builtin "isinstance") (rIsEL X.K D a) := by
  intro pins s σ H xs us Q I r h
  obtain ⟨p, ys, b, rfl, hq, e, q⟩ := h
  obtain ⟨u1, u2, rfl, rx, rt⟩ := vals2 r
  cases rx
  cases rt
  obtain ⟨its, rv, ⟨o, g1, g2, n, g3⟩, hz'⟩ := I.tuple hq
  obtain rfl := vals_refs rv
  obtain ⟨hget, _⟩ := I.pin (a, oe) (List.mem_append.mpr (.inl List.mem_cons_self))
  obtain ⟨vs, hv⟩ := hf
  have J : PySem.W.InstAt s.heap a oe D none := by
    obtain ⟨oc, od, oda, osl⟩ := oe
    obtain ⟨h1, h2⟩ := hz
    dsimp only at h1 h2 hv
    subst h1 h2 hv
    exact ⟨hget, rfl, rfl, trivial⟩
  obtain ⟨oc, od, oda, osl⟩ := o
  dsimp only at g2 g3
  subst g2 g3
  exact PySem.W.kia_tup (PySem.W.handS_kitx_exc C.hg C.hk C.hs C.hd C.ha C.hn C.ht C.hm) I.kIn J g1 e (fun z => nomatch z) fun tk => ⟨.bl b, H, I.kept (t' := tk) fun _ _ z => z, rfl, q⟩
theorem cl_isEL {K : PySem.W.Frag} {e : Er} {a : Addr} {β : Type} {T : Tv β} {u : β} {ys : List Str} {tab : List (Er × Bool)} (h : KTs K (ys.map fun y => .ref (He.ga K y)) tab) (hT : ∀ F vs, T.r u F vs → vs = ys.map fun y => .ref (He.ga K y)) :
    CallP (rIsEL K (He.ga K e.name) a) (a2 (fExc a).up (fTup K T).up) ((), u, ()) (exI tab e) fBool.up :=
  ⟨fun e q => exI_ne q, fun F H vs H0 Q x ⟨v, r, e1, h1, ⟨w, r2, e2, ⟨p, ws, e3, h4, h5⟩, h3⟩⟩ c hc k => by
    cases h3
    have h1 : v = .ref a := h1
    subst e1 e2 h1 e3
    have h6 := hT F ws h5
    subst h6
    exact ⟨p, ys.map fun y => He.ga K y, c, rfl, by rw [List.map_map]; exact sqT_ex x h4, by rw [List.map_map]; exact h e c (exI_ok hc), k _ F H (Gr.refl x) rfl⟩⟩
theorem hT2 {K : PySem.W.Frag} {y z : Str} : ∀ (F : Hp) (vs : List V), (tvc (fCls K y) (tv1 (fCls K z))).r ((), ()) F vs → vs = [y, z].map fun y => .ref (He.ga K y) := fun F vs ⟨v, r, e, h1, ⟨w, e2, h2⟩⟩ => by
  have h1 : v = .ref (He.ga K y) := h1
  have h2 : w = .ref (He.ga K z) := h2
  subst e e2 h1 h2
  rfl
end
theorem xKit_ok {x y : Str} {b : Bool} {K : PySem.W.Frag} (h : xKit x y b K = true) : PySem.W.kitOne K (.ref (He.ga K x)) (.ref (He.ga K y)) = some b := of_decide_eq_true h
theorem xKitL_ok {x : Str} {ys : List Str} {b : Bool} {K : PySem.W.Frag} (h : xKitL x ys b K = true) : PySem.W.kitAny K (.ref (He.ga K x)) (ys.map fun y => .ref (He.ga K y)) = some b := of_decide_eq_true h
theorem xExc_ok {x : Str} {K : PySem.W.Frag} (h : xExc x K = true) : ExcC K (He.ga K x) := by
  unfold xExc at h
  simp only [Bool.and_eq_true, decide_eq_true_eq] at h
  obtain ⟨h1, h2, h3, h4, h5, h6, h7, h8⟩ := h
  exact ⟨h1, h2, h3, h4, h5, h6, h7, h8⟩
structure Sy (fa : List He.Fa) (fn : List He.DefD) (fx : List Lk1) (K : PySem.W.Frag) : Prop where
  d : He.SaysD fa fn K
  x : fx.all (fun f => f K) = true
section
variable {fa : List He.Fa} {fn : List He.DefD} {fx : List Lk1} {K : PySem.W.Frag}
theorem Sy.fact (c : Sy fa fn fx K) (i : Nat) {f : He.Fa} (h : fa[i]? = some f := by rfl) : f.ok K = true := c.d.fact i h
theorem Sy.def_ (c : Sy fa fn fx K) (i : Nat) {d : He.DefD} (h : fn[i]? = some d := by rfl) : ∃ fd, FunD K d.name d.qual d.params d.body d.scope (d.dvs K) (d.kws K) (He.fAd K d.at_) fd := c.d.def_ i h
theorem Sy.ex (c : Sy fa fn fx K) (i : Nat) {f : Lk1} (h : fx[i]? = some f := by rfl) : f K = true := List.all_eq_true.mp c.x f (List.mem_of_getElem? h)
end
end LK
namespace LK
open PySem L2
section
variable {X : Cx}
theorem op_mulSt : OpR X (binaryOp .Mult) (fun x y H Q => ∃ i n, x = .str i ∧ y = .int n ∧ MulOk i n ∧ Q (.str (Txt.mul i n)) H) := by
  intro pins s σ H x y v u Q I rx ry h
  obtain ⟨i, n, rfl, rfl, hz, q⟩ := h
  obtain ⟨t, rfl⟩ := rx
  obtain ⟨t', rfl⟩ := ry
  exact SB.mul hz fun t' tk => ⟨.str _, H, I.tok _, ⟨_, rfl⟩, q⟩
end
def repT (a : List Nat) (n : Int) : List Nat := (List.replicate n.toNat a).flatten
theorem foldl_app (l : List (Array Nat)) (acc : Array Nat) : (l.foldl (fun a b => a ++ b) acc).toList = acc.toList ++ (l.map Array.toList).flatten := by
  induction l generalizing acc with
  | nil => simp
  | cons x r ih => rw [List.foldl_cons, ih]; simp
theorem mul_S (a : List Nat) (n : Int) : Txt.mul (S a) n = S (repT a n) := by
  unfold Txt.mul repT
  by_cases h1 : n < 1
  · rw [if_pos h1, show n.toNat = 0 from by omega]
    rfl
  · rw [if_neg h1]
    by_cases h2 : (n == 1 || (S a).length == 0) = true
    · rw [if_pos h2]
      rw [Bool.or_eq_true, beq_iff_eq, beq_iff_eq] at h2
      rcases h2 with rfl | h2
      · simp
      · rw [S_len] at h2
        have : a = [] := List.eq_nil_of_length_eq_zero h2
        subst this
        have e : (List.replicate n.toNat ([] : List Nat)).flatten = [] := by simp
        rw [e]
    · rw [if_neg h2]
      have := foldl_app (List.replicate n.toNat (S a).cps) #[]
      unfold S
      congr 1
      apply Array.toList_inj.mp
      refine this.trans ?_
      simp [S]
theorem repT_len (a : List Nat) (n : Int) : (repT a n).length = n.toNat * a.length := by
  unfold repT
  simp
theorem repT_mem {a : List Nat} {n : Int} {c : Nat} (h : c ∈ repT a n) : c ∈ a := by
  unfold repT at h
  obtain ⟨x, hx, hc⟩ := List.mem_flatten.mp h
  rw [List.mem_replicate] at hx
  exact hx.2 ▸ hc
theorem mulOk_S {a : List Nat} {n : Int} (h0 : -1000000 ≤ n) (h1 : n ≤ 1000000) (h2 : a.length * n.toNat ≤ 1000000) : MulOk (S a) n := by
  refine ⟨?_, fun h3 h4 => ?_, fun h3 h4 => ?_⟩
  · rw [Bool.or_eq_false_iff, decide_eq_false_iff_not, decide_eq_false_iff_not]
    omega
  · rw [S_len]
    have h5 : (a.length : Int) ≤ (2 ^ 63 - 1) / n := by
      refine (Int.le_ediv_iff_mul_le (by omega)).mpr ?_
      have : ((a.length * n.toNat : Nat) : Int) ≤ 1000000 := by omega
      rw [Int.natCast_mul, Int.toNat_of_nonneg (by omega)] at this
      omega
    omega
  · rw [S_len]
    unfold Builtin.Str.tooLong
    rw [decide_eq_false_iff_not]
    show ¬ _ > 2 ^ 24
    omega
theorem ol_mulSt {a : List Nat} {n : Int} : OpP (fun x y H Q => ∃ i n, x = .str i ∧ y = .int n ∧ MulOk i n ∧ Q (.str (Txt.mul i n)) H) fTxt.up fInt.up a n (M.need (-1000000 ≤ n ∧ n ≤ 1000000 ∧ a.length * n.toNat ≤ 1000000) (M.ok (repT a n))) fTxt.up :=
  oppN fun ⟨h0, h1, h2⟩ F H v w Q x ⟨ha, ht⟩ hb k => ⟨S a, n, ha, hb, mulOk_S h0 h1 h2, k _ ⟨by rw [mul_S], tOk.mk (by rw [repT_len, Nat.mul_comm]; show _ ≤ 2 ^ 24; omega) fun c hc => ht.all c (repT_mem hc)⟩⟩
theorem ol_isNU {a u : Unit} : OpP (fun x y H Q => y = .non ∧ Q (.bl (decide (x = .non))) H) fUnit.up fUnit.up a u (M.ok true) fBool.up := opp fun F H v w Q x ha hb k => by
  have ha : v = .non := ha
  have hb : w = .non := hb
  subst ha hb
  exact ⟨rfl, k _ (by rw [decide_eq_true rfl]; rfl)⟩
end LK
namespace LK
open PySem L2
section
variable {X : Cx} {W : WX} {G Gw : Gm} {kk : Nat} {β : Type} {E : Rf β}
end
end LK
namespace LK
open PySem L2
section
variable {X : Cx} {W : WX} {G : Gm}
end
end LK
namespace LK
open PySem L2
structure KY (κ : Type) where
  A : Rf κ
  ok : κ → Prop
  k : κ → Key
  inj : ∀ {a b}, k a = k b → a = b
  of : ∀ {x F v}, A.r x F v → v = kV (k x) ∧ ok x
  to : ∀ {x}, ok x → ∀ F, A.r x F (kV (k x))
def kT : KY (List Nat) := ⟨fTxt, tOk, fun l => .inr (S l), fun h => S_inj (Sum.inr.inj h), fun h => h, fun h F => ⟨rfl, h⟩⟩
inductive Pd {κ α : Type} (T : KY κ) (R : α → V → Prop) : List (κ × α) → List (Key × V) → Prop where
  | nil : Pd T R [] []
  | cons {k a v r ws} : T.ok k → R a v → Pd T R r ws → Pd T R ((k, a) :: r) ((T.k k, v) :: ws)
section
variable {κ α : Type} {T : KY κ}
theorem Pd.imp {R R' : α → V → Prop} (f : ∀ a v, R a v → R' a v) : ∀ {as vs}, Pd T R as vs → Pd T R' as vs
  | _, _, .nil => .nil
  | _, _, .cons t h r => .cons t (f _ _ h) (r.imp f)
theorem Pd.len {R : α → V → Prop} : ∀ {as vs}, Pd T R as vs → as.length = vs.length
  | _, _, .nil => rfl
  | _, _, .cons _ _ r => congrArg (· + 1) r.len
theorem Pd.keys {R : α → V → Prop} : ∀ {d ws}, Pd T R d ws → ws.map (·.1) = d.map fun p => T.k p.1
  | _, _, .nil => rfl
  | _, _, .cons t h p => by rw [List.map_cons, List.map_cons, p.keys]
theorem Pd.tks {R : α → V → Prop} : ∀ {d ws}, Pd T R d ws → ∀ p ∈ d, T.ok p.1
  | _, _, .nil, _, h => nomatch h
  | _, _, .cons t h p, x, hx => (List.mem_cons.mp hx).elim (fun e => by rw [e]; exact t) (p.tks x)
theorem Pd.at {R : α → V → Prop} : ∀ {d : List (κ × α)} {ws : List (Key × V)}, Pd T R d ws → ∀ {i : Nat} {k : Key} {v : V}, ws[i]? = some (k, v) → ∃ kk a, d[i]? = some (kk, a) ∧ k = T.k kk ∧ T.ok kk ∧ R a v
  | _, _, .nil, i, k, v, h => by simp at h
  | _, _, @Pd.cons _ _ _ _ k' a v' r ws t h p, 0, k, v, e => by
    simp only [List.getElem?_cons_zero, Option.some.injEq, Prod.mk.injEq] at e
    exact ⟨k', a, rfl, e.1.symm, t, by rw [← e.2]; exact h⟩
  | _, _, @Pd.cons _ _ _ _ k' a v' r ws t h p, i + 1, k, v, e => by
    rw [List.getElem?_cons_succ] at e
    obtain ⟨kk, a', h1, h2, h3, h4⟩ := p.at e
    exact ⟨kk, a', by rw [List.getElem?_cons_succ]; exact h1, h2, h3, h4⟩
variable [DecidableEq κ]
def dget (d : List (κ × α)) (k : κ) : Option α := (d.find? fun p => decide (p.1 = k)).map (·.2)
def dput (d : List (κ × α)) (k : κ) (a : α) : List (κ × α) := if (d.any fun p => decide (p.1 = k)) = true then d.map (fun p => if p.1 = k then (p.1, a) else p) else d ++ [(k, a)]
theorem KY.iff {k k' : κ} : (T.k k = T.k k') ↔ k = k' := ⟨T.inj, fun h => by rw [h]⟩
theorem KY.dec (k k' : κ) : decide (T.k k = T.k k') = decide (k = k') := decide_eq_decide.mpr T.iff
theorem Pd.get {R : α → V → Prop} {k : κ} : ∀ {d ws}, Pd T R d ws → (dget d k = none ∧ valV ws (T.k k) = none) ∨ ∃ a v, dget d k = some a ∧ valV ws (T.k k) = some v ∧ R a v
  | _, _, .nil => .inl ⟨rfl, rfl⟩
  | _, _, @Pd.cons _ _ _ _ k' a v r ws t h p => by
    by_cases e : k' = k
    · subst e
      exact .inr ⟨a, v, by simp [dget], by simp [valV], h⟩
    · have e1 : dget ((k', a) :: r) k = dget r k := by simp [dget, List.find?_cons, e]
      have e2 : valV ((T.k k', v) :: ws) (T.k k) = valV ws (T.k k) := valV_neg (fun z => e (T.iff.mp z))
      rw [e1, e2]
      exact p.get
theorem Pd.any {R : α → V → Prop} {k : κ} : ∀ {d ws}, Pd T R d ws → (ws.any fun kv => decide (kv.1 = T.k k)) = d.any fun p => decide (p.1 = k)
  | _, _, .nil => rfl
  | _, _, .cons t h p => by rw [List.any_cons, List.any_cons, p.any, KY.dec]
theorem Pd.map {R : α → V → Prop} {k : κ} {a : α} {v : V} (ha : R a v) : ∀ {d ws}, Pd T R d ws → Pd T R (d.map fun p => if p.1 = k then (p.1, a) else p) (ws.map fun kv => if kv.1 = T.k k then (kv.1, v) else kv)
  | _, _, .nil => .nil
  | _, _, @Pd.cons _ _ _ _ k' _ _ r ws t h p => by
    rw [List.map_cons, List.map_cons]
    by_cases e : k' = k
    · rw [if_pos e, if_pos (T.iff.mpr e)]
      exact .cons t ha (p.map ha)
    · rw [if_neg e, if_neg (fun z => e (T.iff.mp z))]
      exact .cons t h (p.map ha)
theorem Pd.snoc {R : α → V → Prop} {k : κ} {a : α} {v : V} (t : T.ok k) (ha : R a v) : ∀ {d ws}, Pd T R d ws → Pd T R (d ++ [(k, a)]) (ws ++ [(T.k k, v)])
  | _, _, .nil => .cons t ha .nil
  | _, _, .cons t' h p => .cons t' h (p.snoc t ha)
theorem Pd.put {R : α → V → Prop} {k : κ} {a : α} {v : V} {d ws} (t : T.ok k) (ha : R a v) (p : Pd T R d ws) : Pd T R (dput d k a) (putK ws (T.k k) v) := by
  unfold dput putK
  rw [p.any]
  split
  · exact p.map ha
  · exact p.snoc t ha
end
def tD {κ α : Type} (T : KY κ) (A : Rf α) : Th (List (κ × α)) := ⟨fun d F X v => ∃ p ws, v = .ref p ∧ Rd X p (.dK ws) ∧ Pd T (fun a x => A.r a F x) d ws,
  fun d F H v ms => ∃ p ws, v = .ref p ∧ H p = some (.dK ws) ∧ Pd T (fun a x => A.r a F x) d ws ∧ ms = [p],
  fun ⟨p, vs, e, h, q⟩ x y => ⟨p, vs, e, Rd.xs y h fun _ _ z => (nomatch z), q.imp fun _ _ z => A.sx z x⟩,
  fun ⟨p, vs, e, h, q, m⟩ x k => ⟨p, vs, e, k p (by rw [m]; simp) _ h, q.imp fun _ _ z => A.sx z x, m⟩,
  fun ⟨p, vs, e, h, q, m⟩ k _ => ⟨p, vs, e, .inl (k p (by rw [m]; simp) _ h), q⟩⟩
abbrev bDc {κ α : Type} (T : KY κ) (A : Rf α) : Rl (List (κ × α)) := nw (tD T A)
def oget {ε α : Type} : Option α → Mg ε α
  | some a => M.ok a
  | none => none
section
variable {ε : Type} {Eh : EH ε} {X : Cx} {W : WX} {G : Gm} {kk : Nat} {κ α : Type} [DecidableEq κ] {T : KY κ} {A : Rf α}
theorem Cok.un (C : Cok X W kk) : X.A.units + 1 < cLine := by
  have := C.hr.units
  omega
theorem fe_dget {o i : Expr} {pos : Pos} {md : M (List (κ × α))} {mk : M κ} (C : Cok X W kk) (ho : FE X W G o md (bDc T A)) (hi : FE X W G i mk T.A.up) (hs : NoSl i := by intro _ _; rfl) : FE X W G (.Subscript o i pos) (md.bind fun d => mk.bind fun k => oget (dget d k)) A.up :=
  PE.weak (pe_dget C.un ho hi hs) fun σ H Q ⟨B, tl, F, D⟩ => ⟨B, tl, F, D.seq fun d F1 H1 e1 g1 T1 v rv => ⟨B, tl, F1, T1.seq fun k F2 H2 e2 g2 T2 w rw' => by
    obtain ⟨p, ws, rfl, h, q⟩ := (bDc T A).st rv g2
    obtain ⟨rfl, ht⟩ := T.of rw'
    rcases q.get (k := k) with ⟨h1, h2⟩ | ⟨a, x, h1, h2, h3⟩
    · exact absurd (by rw [h1]; rfl) T2.ne
    · rw [h1] at T2
      exact ⟨p, x, rfl, .inl ⟨ws, T.k k, h, rfl, h2.symm⟩, T2.ok a rfl F2 H2 (Gr.refl g2.fh) x h3⟩⟩⟩
theorem fe_dnew {pos : Pos} : FE X W G (.Dict [] [] pos) (M.ok ([] : List (κ × α))) (ro (tD T A)) :=
  fe_now pe_dnewK fun B tl σ F H Q st k => fun p hp => k (.ref p) F _ (Gr.newM st.fh hp) ⟨[p], ⟨p, [], rfl, upd_same, .nil, rfl⟩, fun y hy => by
    cases List.mem_singleton.mp hy
    exact ⟨hp, st.fh.free hp, NT.up⟩⟩
section
variable {tl : List Nat} {ρ b s : Type} {R : ρ → V → Gm} {Gb : b → Gm} {N : s → Gm}
theorem fs_dput {j : Nat} {q : V} {o i value : Expr} {pos pos' : Pos} {rest : List Stmt} {d : List (κ × α)} {p : Er → ε} {mv : M α} {mk : M κ} {g : κ → α → Mg ε (Fl ρ b s)} (C : Cok X W kk)
    (hG : G[j]? = some (some (pn q (ob (tD T A) d)))) (ho : FE X W G o (M.ok ()) (rV q)) (hv : FE X W G value mv A.up) (hi : FE X W G i mk T.A.up) (hr : ∀ k a, FS X W Eh tl (G.set j (some (pn q (ob (tD T A) (dput d k a))))) rest (g k a) R Gb N)
    (hs : swapsWith value (some (.Subscript o i pos')) pos.line X.env = pure false := by rfl) (hp : Pay Eh G p := by exact pay0 rfl) :
    FS X W Eh tl G (.Assign [.Subscript o i pos'] value pos :: rest) (mv.bindP p fun a => mk.bindP p fun k => M.need (d.length < sizeLine) (g k a)) R Gb N :=
  PSs.weak (pss_cons (ps_dput C.un ho hi hv hs) (pss_ex fun z : κ × α => hr z.1 z.2)) fun D σ H ⟨B, F, T0⟩ => by
    refine ⟨B, tl, F, T0.tellE hp fun a F1 H1 ea g1 v rv => ?_⟩
    have T1 := T0.rest ea (T0.st.grow g1)
    have T1' : ToldS X.K W Eh tl G ((M.ok () : M Unit).bindP p fun _ => mk.bindP p fun k => M.need (d.length < sizeLine) (g k a)) R Gb N D σ H1 B F1 := T1
    refine ⟨B, tl, F1, T1'.tellE hp fun _ F3 H3 e3 g3 vo ro' => ?_⟩
    have T1 := T1'.rest e3 (T1.st.grow g3)
    refine ⟨B, tl, F3, T1.tellE hp fun k F2 H2 ek g2 w rw' => ?_⟩
    obtain ⟨ew, ht⟩ := T.of rw'
    subst ew
    have T2 := T1.rest ek (T1.st.grow g2)
    obtain ⟨hlt, e2⟩ := M.need_ne T2.ne
    obtain ⟨ms, z2⟩ := T2.st.sl
    obtain ⟨u, h1, rfl, qa, ws, rfl, hh, pw, em⟩ := z2.has j _ hG
    cases (show vo = V.ref qa from ro')
    obtain ⟨hF, hH⟩ := z2.mem j qa (by rw [em]; simp)
    refine ⟨qa, _, rfl, .inl ⟨ws, T.k k, hh, rfl, by rw [← pw.len]; exact hlt, rfl⟩, (k, a), B, F2, ?_⟩
    rw [e2] at T2
    refine ⟨T2.st.mut z2 hG rfl h1 (by rw [em]; exact GrX.at T2.st.fh hF) ⟨rfl, qa, _, rfl, upd_same, pw.put ht (A.st rv (g3.trans g2).f), rfl⟩ (fun y hy => ?_), T2.ne, T2.ret, T2.nx, T2.bk, T2.ct, T2.er⟩
    cases List.mem_singleton.mp hy
    exact ⟨.inl (by rw [em]; simp), hF, NT.up⟩
end
end
end LK
namespace LK
open PySem L2
def leT (a b : List Nat) : Bool := !decide (b < a)
def sortT (l : List (List Nat)) : List (List Nat) := l.mergeSort leT
theorem leT_iff {a b : List Nat} : leT a b = true ↔ a ≤ b := by
  unfold leT
  rw [Bool.not_eq_true', decide_eq_false_iff_not]
  exact List.not_lt
theorem leT_trans (a b c : List Nat) (h1 : leT a b = true) (h2 : leT b c = true) : leT a c = true := leT_iff.mpr (List.le_trans (leT_iff.mp h1) (leT_iff.mp h2))
theorem leT_total (a b : List Nat) : (leT a b || leT b a) = true := by
  rw [Bool.or_eq_true, leT_iff, leT_iff]
  exact List.le_total a b
theorem leT_anti {a b : List Nat} (h1 : leT a b = true) (h2 : leT b a = true) : a = b := List.le_antisymm (leT_iff.mp h1) (leT_iff.mp h2)
theorem sortT_perm (l : List (List Nat)) : (sortT l).Perm l := List.mergeSort_perm l leT
theorem sortT_pw (l : List (List Nat)) : (sortT l).Pairwise fun a b => leT a b = true := List.pairwise_mergeSort leT_trans leT_total l
theorem rising_pw : ∀ (p : Str) (l : List Str), PyProof.Rows.risingS p l = true → ((p :: l).map uS).Pairwise fun a b => leT a b = true
  | p, [], _ => by simp
  | p, x :: r, h => by
    have h : (!Spec.ltCps x.cps.toList p.cps.toList && PyProof.Rows.risingS x r) = true := h
    rw [Bool.and_eq_true] at h
    have ih := rising_pw x r h.2
    have h1 : leT (uS p) (uS x) = true := by
      have := h.1
      rw [PyProof.Rows.ltCps_eq] at this
      exact this
    rw [List.map_cons]
    refine List.pairwise_cons.mpr ⟨fun b hb => ?_, ih⟩
    rw [List.map_cons] at hb ih
    rcases List.mem_cons.mp hb with rfl | hb
    · exact h1
    · exact leT_trans _ _ _ h1 ((List.pairwise_cons.mp ih).1 b hb)
theorem sorted_pw {l : List Str} (h : PyProof.Rows.sortedS l = true) : (l.map uS).Pairwise fun a b => leT a b = true := by
  cases l with
  | nil => exact .nil
  | cons p r => exact rising_pw p r h
theorem sort_one {ys : List Str} {ks : List (List Nat)} (hp : ys.Perm (ks.map S)) (hs : PyProof.Rows.sortedS ys = true) : ys = (sortT ks).map S := by
  have e : ys.map uS = sortT ks := by
    refine List.Perm.eq_of_pairwise (fun a b _ _ h1 h2 => leT_anti h1 h2) (sorted_pw hs) (sortT_pw ks) ?_
    refine ((hp.map uS).trans ?_).trans (sortT_perm ks).symm
    rw [List.map_map]
    have : (ks.map (uS ∘ S)) = ks := by
      have : (uS ∘ S) = id := by funext k; simp [S]
      rw [this, List.map_id]
    rw [this]
  rw [← e, List.map_map]
  have : (S ∘ uS) = id := by funext y; exact S_of y
  rw [this, List.map_id]
theorem vals_txt : ∀ (l : List (List Nat)), (∀ k ∈ l, tOk k) → ∀ F : Hp, Pw (fun a x => fTxt.r a F x) l ((l.map S).map V.str)
  | [], _, _ => .nil
  | k :: r, h, F => .cons ⟨rfl, h k List.mem_cons_self⟩ (vals_txt r (fun x hx => h x (List.mem_cons_of_mem _ hx)) F)
theorem call_lenDR {X : Cx} : CallR X (.builtin "len") (fun xs H Q => ∃ a kvs, xs = [V.ref a] ∧ Rd H a (.dK kvs) ∧ Q (.int kvs.length) H) := by
  intro pins s σ H xs us Q I r h
  obtain ⟨a, kvs, rfl, ha, q⟩ := h
  obtain ⟨u, rfl, ru⟩ := vals1 r
  cases ru
  exact d_len I ha fun t s' I' => ⟨.int kvs.length, H, I', ⟨t, rfl⟩, q⟩
theorem cl_lenD {κ α : Type} {T : KY κ} {A : Rf α} {d : List (κ × α)} : CallP (fun xs H Q => ∃ a kvs, xs = [V.ref a] ∧ Rd H a (.dK kvs) ∧ Q (.int kvs.length) H) (a1 (bDc T A)) (d, ()) (M.ok (d.length : Int)) fInt.up := cp1 fun F H v H0 Q x ⟨p, ws, e, h, q⟩ k => by
  subst e
  exact ⟨p, ws, rfl, h, k _ (by rw [q.len]; rfl)⟩
end LK
namespace LK
open PySem L2
inductive Tr (α : Type) where
  | nil
  | node (k : List Nat) (a : α) (l r : Tr α)
  deriving DecidableEq
namespace Tr
def isNil {α : Type} : Tr α → Bool
  | .nil => true
  | .node .. => false
def dep {α : Type} : Tr α → Nat
  | .nil => 0
  | .node _ _ l r => max l.dep r.dep + 1
end Tr
def trR (K : PySem.W.Frag) {α : Type} (A : Rf α) : Tr α → Hp → V → Prop
  | .nil, _, v => v = .non
  | .node k a l r, F, v => ∃ p vk va vl vr, v = .ref p ∧ SqT K F p [vk, va, vl, vr] ∧ fTxt.r k F vk ∧ A.r a F va ∧ trR K A l F vl ∧ trR K A r F vr
theorem trR_sx {K : PySem.W.Frag} {α : Type} {A : Rf α} : ∀ {t : Tr α} {F v F'}, trR K A t F v → XS F F' → trR K A t F' v
  | .nil, _, _, _, h, _ => h
  | .node k a l r, _, _, _, ⟨p, vk, va, vl, vr, e, h, h1, h2, h3, h4⟩, x => ⟨p, vk, va, vl, vr, e, sqT_xs x h, fTxt.sx h1 x, A.sx h2 x, trR_sx h3 x, trR_sx h4 x⟩
def fTree (K : PySem.W.Frag) {α : Type} (A : Rf α) : Rf (Tr α) := ⟨trR K A, trR_sx⟩
section
variable {K : PySem.W.Frag} {α : Type} {A : Rf α}
theorem ol_isTr {t : Tr α} {u : Unit} : OpP (fun x y H Q => y = .non ∧ Q (.bl (decide (x = .non))) H) (fTree K A).up fUnit.up t u (M.ok t.isNil) fBool.up := opp fun F H v w Q x ha hb k => by
  refine ⟨hb, ?_⟩
  cases t with
  | nil => cases (show v = .non from ha); exact k _ rfl
  | node k' a l r =>
    obtain ⟨p, vk, va, vl, vr, e, _⟩ := (show trR K A (.node k' a l r) F v from ha)
    subst e
    exact k _ rfl
theorem ol_ntTr {t : Tr α} {u : Unit} : OpP (fun x y H Q => y = .non ∧ Q (.bl (!decide (x = .non))) H) (fTree K A).up fUnit.up t u (M.ok (!t.isNil)) fBool.up := opp fun F H v w Q x ha hb k => by
  refine ⟨hb, ?_⟩
  cases t with
  | nil => cases (show v = .non from ha); exact k _ rfl
  | node k' a l r =>
    obtain ⟨p, vk, va, vl, vr, e, _⟩ := (show trR K A (.node k' a l r) F v from ha)
    subst e
    exact k _ rfl
def trK : Tr α → M (List Nat)
  | .nil => none
  | .node k _ _ _ => M.ok k
def trA : Tr α → M α
  | .nil => none
  | .node _ a _ _ => M.ok a
def trL : Tr α → M (Tr α)
  | .nil => none
  | .node _ _ l _ => M.ok l
def trRt : Tr α → M (Tr α)
  | .nil => none
  | .node _ _ _ r => M.ok r
theorem ix_tr {β : Type} {B : Rf β} {t : Tr α} {i : Nat} {m : M β} (h0 : ∀ e, m ≠ M.err e) (hn : t = .nil → m = none) (h : ∀ k a l r F vk va vl vr, t = .node k a l r → fTxt.r k F vk → A.r a F va → trR K A l F vl → trR K A r F vr → ∀ c, m = M.ok c → ∃ z, [vk, va, vl, vr][i]? = some z ∧ B.r c F z) :
    OpP (rIxT K) (fTree K A).up fInt.up t (i : Int) m B.up :=
  ⟨h0, fun F H v w H0 Q x ha hb c e k => by
    cases hb
    cases t with
    | nil => rw [hn rfl] at e; cases e
    | node k' a l r =>
      obtain ⟨p, vk, va, vl, vr, ev, hs, h1, h2, h3, h4⟩ := (show trR K A (.node k' a l r) F v from ha)
      obtain ⟨z, hz, hB⟩ := h k' a l r F vk va vl vr rfl h1 h2 h3 h4 c e
      exact ⟨p, _, i, z, ev, rfl, sqT_ex x hs, atI_nat hz, k z F H (Gr.refl x) hB⟩⟩
theorem ol_trK {t : Tr α} : OpP (rIxT K) (fTree K A).up fInt.up t (0 : Int) (trK t) fTxt.up := ix_tr (i := 0) (by cases t <;> exact fun e z => nomatch z) (fun e => by subst e; rfl) fun k a l r F vk va vl vr e h1 h2 h3 h4 c ec => by
  subst e
  cases M.ok_inj (show M.ok k = M.ok c from ec)
  exact ⟨vk, rfl, h1⟩
theorem ol_trA {t : Tr α} : OpP (rIxT K) (fTree K A).up fInt.up t (1 : Int) (trA t) A.up := ix_tr (i := 1) (by cases t <;> exact fun e z => nomatch z) (fun e => by subst e; rfl) fun k a l r F vk va vl vr e h1 h2 h3 h4 c ec => by
  subst e
  cases M.ok_inj (show M.ok a = M.ok c from ec)
  exact ⟨va, rfl, h2⟩
theorem ol_trL {t : Tr α} : OpP (rIxT K) (fTree K A).up fInt.up t (2 : Int) (trL t) (fTree K A).up := ix_tr (i := 2) (by cases t <;> exact fun e z => nomatch z) (fun e => by subst e; rfl) fun k a l r F vk va vl vr e h1 h2 h3 h4 c ec => by
  subst e
  cases M.ok_inj (show M.ok l = M.ok c from ec)
  exact ⟨vl, rfl, h3⟩
theorem ol_trR {t : Tr α} : OpP (rIxT K) (fTree K A).up fInt.up t (3 : Int) (trRt t) (fTree K A).up := ix_tr (i := 3) (by cases t <;> exact fun e z => nomatch z) (fun e => by subst e; rfl) fun k a l r F vk va vl vr e h1 h2 h3 h4 c ec => by
  subst e
  cases M.ok_inj (show M.ok r = M.ok c from ec)
  exact ⟨vr, rfl, h4⟩
def trN (a : List Nat × α × Tr α × Tr α) : Tr α := .node a.1 a.2.1 a.2.2.1 a.2.2.2
section
variable {X : Cx} {W : WX} {G : Gm}
theorem fe_trN {e : Expr} {m : M (List Nat × α × Tr α × Tr α)} (h : FE X W G e m (fTup X.K (tvc fTxt (tvc A (tvc (fTree X.K A) (tv1 (fTree X.K A)))))).up) : FE X W G e (m.bind fun a => M.ok (trN a)) (fTree X.K A).up :=
  PE.weak h fun σ H Q ⟨B, tl, F, T⟩ => ⟨B, tl, F, T.seq fun a F1 H1 e1 g1 T1 v ⟨p, vs, ev, hs, x1, r1, q1, h1, x2, r2, q2, h2, x3, r3, q3, h3, x4, q4, h4⟩ => by
    subst q1 q2 q3 q4
    exact T1.ok _ rfl F1 H1 (Gr.refl g1.fh) v ⟨p, x1, x2, x3, x4, ev, hs, h1, h2, h3, h4⟩⟩
theorem fv_trN {e : Expr} {a : List Nat × α × Tr α × Tr α} (h : FE X W G e (M.ok a) (fTup X.K (tvc fTxt (tvc A (tvc (fTree X.K A) (tv1 (fTree X.K A)))))).up) : FE X W G e (M.ok (trN a)) (fTree X.K A).up := fe_trN h
theorem fv_trE {e : Expr} {u : Unit} (h : FE X W G e (M.ok u) fUnit.up) : FE X W G e (M.ok Tr.nil) (fTree X.K A).up := fe_map (R' := (fTree X.K A).up) (fun _ => Tr.nil) h fun a H0 F H v r => r
end
def trD (D : Dt K A) : Tr α → PyData
  | .nil => .none
  | .node k a l r => .tuple [.str (S k), D.d a, trD D l, trD D r]
theorem trD_at (D : Dt K A) : ∀ {t : Tr α} {F H v}, trR K A t F v → Ex F H → Dp K H v (trD D t)
  | .nil, _, _, _, h, _ => by cases (show _ = V.non from h); exact .non
  | .node k a l r, F, H, v, ⟨p, vk, va, vl, vr, e, h, h1, h2, h3, h4⟩, x => by
    subst e
    exact .tup (sqT_ex x h) (.cons (dTxt.at_ h1 x) (.cons (D.at_ h2 x) (.cons (trD_at D h3 x) (.cons (trD_at D h4 x) .nil))))
theorem trD_ok (D : Dt K A) : ∀ {t : Tr α} {F v}, trR K A t F v → (trD D t).canLay0 = true ∧ (trD D t).depth ≤ t.dep + D.n
  | .nil, _, _, _ => ⟨rfl, Nat.zero_le _⟩
  | .node k a l r, F, v, ⟨p, vk, va, vl, vr, e, h, h1, h2, h3, h4⟩ => by
    obtain ⟨a1, b1⟩ := (dTxt (K := K)).ok h1
    obtain ⟨a2, b2⟩ := D.ok h2
    obtain ⟨a3, b3⟩ := trD_ok D h3
    obtain ⟨a4, b4⟩ := trD_ok D h4
    refine ⟨Bool.and_eq_true_iff.mpr ⟨a1, Bool.and_eq_true_iff.mpr ⟨a2, Bool.and_eq_true_iff.mpr ⟨a3, Bool.and_eq_true_iff.mpr ⟨a4, rfl⟩⟩⟩⟩, ?_⟩
    show max (PyData.depth (.str (S k))) (max (D.d a).depth (max (trD D l).depth (max (trD D r).depth 0))) + 1 ≤ max l.dep r.dep + 1 + D.n
    have : PyData.depth (.str (S k)) = 0 := rfl
    omega
theorem trD_eq (D : Dt K A) : ∀ a b : Tr α, PyData.eqv (trD D a) (trD D b) = true ↔ a = b
  | .nil, .nil => ⟨fun _ => rfl, fun _ => rfl⟩
  | .nil, .node .. => ⟨fun h => (nomatch h), fun h => (nomatch h)⟩
  | .node .., .nil => ⟨fun h => (nomatch h), fun h => (nomatch h)⟩
  | .node k a l r, .node k' a' l' r' => by
    show (PyData.eqv (.str (S k)) (.str (S k')) && (PyData.eqv (D.d a) (D.d a') && (PyData.eqv (trD D l) (trD D l') && (PyData.eqv (trD D r) (trD D r') && true)))) = true ↔ _
    rw [Bool.and_eq_true_iff, Bool.and_eq_true_iff, Bool.and_eq_true_iff, Bool.and_true, show PyData.eqv (.str (S k)) (.str (S k')) = true ↔ k = k' from (dTxt (K := K)).eq k k', D.eq, trD_eq D l l', trD_eq D r r']
    constructor
    · rintro ⟨rfl, rfl, rfl, rfl⟩; rfl
    · intro h; injection h with h1 h2 h3 h4; exact ⟨h1, h2, h3, h4⟩
theorem tr_dec [DecidableEq α] (D : Dt K A) (a b : Tr α) : PyData.eqv (trD D a) (trD D b) = decide (a = b) := by
  by_cases h : a = b
  · rw [decide_eq_true h]
    exact (trD_eq D a b).mpr h
  · rw [decide_eq_false h]
    cases q : PyData.eqv (trD D a) (trD D b) with
    | false => rfl
    | true => exact absurd ((trD_eq D a b).mp q) h
end
def trT {α : Type} : Tr α → M (List Nat × α × Tr α × Tr α)
  | .nil => none
  | .node k a l r => M.ok (k, a, l, r)
theorem fe_trT {X : Cx} {W : WX} {G : Gm} {α : Type} {A : Rf α} {e : Expr} {m : M (Tr α)} (h : FE X W G e m (fTree X.K A).up) : FE X W G e (m.bind trT) (fTup X.K (tvc fTxt (tvc A (tvc (fTree X.K A) (tv1 (fTree X.K A)))))).up :=
  PE.weak h fun σ H Q ⟨B, tl, F, T⟩ => ⟨B, tl, F, T.seq fun t F1 H1 e1 g1 T1 v r => by
    cases t with
    | nil => exact absurd rfl T1.ne
    | node k a l r' =>
      obtain ⟨p, vk, va, vl, vr, ev, hs, h1, h2, h3, h4⟩ := (show trR X.K A (.node k a l r') F1 v from r)
      exact T1.ok (k, a, l, r') rfl F1 H1 (Gr.refl g1.fh) v ⟨p, _, ev, hs, vk, _, rfl, h1, va, _, rfl, h2, vl, _, rfl, h3, vr, rfl, h4⟩⟩
end LK
namespace LK
open PySem L2
def fTupL (K : PySem.W.Frag) {α : Type} (A : Rf α) : Rf (List α) := ⟨fun as F v => ∃ p vs, v = .ref p ∧ SqT K F p vs ∧ Pw (fun a x => A.r a F x) as vs, fun ⟨p, vs, e, h, q⟩ x => ⟨p, vs, e, sqT_xs x h, q.imp fun _ _ z => A.sx z x⟩⟩
section
variable {X : Cx} {W : WX} {G : Gm} {α : Type} {A : Rf α}
theorem fe_tl2 {e : Expr} {m : M (α × α)} (h : FE X W G e m (fTup X.K (tvc A (tv1 A))).up) : FE X W G e (m.bind fun a => M.ok [a.1, a.2]) (fTupL X.K A).up := fe_map (R' := (fTupL X.K A).up) (fun a : α × α => [a.1, a.2]) h fun a H0 F H v ⟨p, vs, ev, hs, x1, r1, q1, h1, x2, q2, h2⟩ => by
  subst q1 q2
  exact ⟨p, _, ev, hs, .cons h1 (.cons h2 .nil)⟩
end
section
variable {ε : Type} {Eh : EH ε} {X : Cx} {W : WX} {tl tl' : List Nat} {ρ b s : Type} {R : ρ → V → Gm} {Gs : s → Gm} {α : Type} {A : Rf α}
theorem ps_forTL {e : Expr} {pos : Pos} {tg : Expr} {body : List Stmt} {G : Gm} {kk : Nat} {p : Er → ε} {m : M (List α)} {f : s → α → Mg ε (Fl ρ s s)} {G2 : s × α → Gm} {x0 : s} {Gb : b → Gm} (C : Cok X W kk) (he : FE X W G e m (fTupL X.K A).up) (hG : Imp G (Gs x0)) (hg : FG X tl' (fun z : s × α => Gs z.1) tg A (fun z => z.2) G2)
    (hb : ∀ x a, FS X W Eh tl' (G2 (x, a)) body (f x a) R Gs Gs) (ht : ∀ i ∈ tl', i ∈ tl := by decide) (hs : ∀ x, foldedSetIterable e X.env x = pure x := by intro _; rfl) (hp : Pay Eh G p := by exact pay0 rfl) : PS X (.For tg e body [] pos) (tFS X.K W Eh tl G (m.bindP p fun as => forL f as x0) R Gb Gs) :=
  PS.weak (ps_for C.hp C.calm (pi_tup he) hg (pss_ex fun z : s × α => hb z.1 z.2) hs) fun D σ0 H ⟨B, F, T⟩ => by
    refine ⟨B, tl, F, T.tellE hp fun as F1 H1 ea g v ⟨q, vs, ev, hq, pw⟩ => ?_⟩
    have T1 := T.rest ea (T.st.grow g)
    subst ev
    refine ⟨q, rfl, ⟨vs, sqT_ex g.fh hq⟩, ?_⟩
    obtain ⟨Xl, hX, st1⟩ := (hG _ _ _ _ _ T1.st).rebase (tl' := tl')
    have lc1 := T1.lc hX ht
    have base : ∀ F' H', GrX Xl F1 H1 F' H' → SqT X.K H' q vs ∧ Pw (fun a v => A.r a F' v) as vs := fun F' H' g' => ⟨sqT_ex g'.fh (sqT_ex g'.f hq), pw.imp fun _ _ h => A.st h g'.f⟩
    have hlen : as.length = vs.length := pw.len
    refine for_tup (K := X.K) (a := q) (xs := vs) (tb := fun D σ H => ∃ z : s × α, tFS X.K W Eh tl' (G2 z) (f z.1 z.2) R Gs Gs D σ H) (fun i σ H => ∃ F x, Stt ⟨B.Hd, Xl, F1, H1, σ0⟩ tl' (Gs x) F H σ ∧ Lc X.K W Eh tl' (forL (b := b) f (as.drop i) x) R Gs D ⟨B.Hd, Xl, F1, H1, σ0⟩) ?_ ?_ ?_ ?_
    · exact ⟨F1, x0, st1, lc1⟩
    · rintro i σ H _ ⟨F, x, st, _⟩
      exact (base F H st.g).1
    · rintro i v σ H hi ⟨F, x, st, lc⟩
      obtain ⟨a, ha, hv⟩ := (base F H st.g).2.getV hi
      exact for_turn ha (fun y σ' F' H' st' lc' => ⟨F', y, st', lc'⟩) st lc hv
    · rintro σ H ⟨F, x, st, lc⟩
      rw [← hlen, List.drop_length] at lc
      exact lc.nx x rfl σ F H st
end
end LK
namespace LK
open PySem L2
def setK : Gm → List Nat → List (V × Sl) → Gm
  | G, k :: ks, c :: cs => setK (G.set k (some (pn c.1 c.2))) ks cs
  | G, _, _ => G
def pos : List Nat → Nat → Option Nat
  | [], _ => none
  | k :: ks, i => if i = k then some 0 else (pos ks i).map (· + 1)
theorem pos_cons {k i : Nat} {ks : List Nat} : pos (k :: ks) i = if i = k then some 0 else (pos ks i).map (· + 1) := rfl
theorem pos_some : ∀ {ks : List Nat} {i j : Nat}, pos ks i = some j → ks[j]? = some i
  | [], i, j, h => by cases h
  | k :: ks, i, j, h => by
    rw [pos_cons] at h
    split at h
    · cases h
      rename_i e
      simp [e]
    · cases q : pos ks i with
      | none => rw [q] at h; cases h
      | some j' =>
        rw [q] at h
        cases h
        simpa using pos_some q
theorem pos_none : ∀ {ks : List Nat} {i : Nat}, pos ks i = none → i ∉ ks
  | [], i, h => by simp
  | k :: ks, i, h => by
    rw [pos_cons] at h
    split at h
    · cases h
    · rename_i e
      cases q : pos ks i with
      | none =>
        intro m
        rcases List.mem_cons.mp m with z | z
        · exact e z
        · exact pos_none q z
      | some j' => rw [q] at h; cases h
theorem pos_inj {ks : List Nat} {i i' j : Nat} (h : pos ks i = some j) (h' : pos ks i' = some j) : i = i' := by
  have a := pos_some h
  have b := pos_some h'
  rw [a] at b
  exact Option.some.inj b
theorem setK_len : ∀ {ks : List Nat} {G : Gm} {cs : List (V × Sl)}, (setK G ks cs).length = G.length
  | [], G, cs => by cases cs <;> rfl
  | k :: ks, G, [] => rfl
  | k :: ks, G, c :: cs => by
    show (setK _ ks cs).length = _
    rw [setK_len, List.length_set]
theorem setK_get : ∀ {ks : List Nat} {G : Gm} {cs : List (V × Sl)} {i : Nat}, ks.length = cs.length → ks.Nodup → (∀ k ∈ ks, k < G.length) → (setK G ks cs)[i]? = match pos ks i with
    | some j => (cs[j]?).map fun c => some (pn c.1 c.2)
    | none => G[i]?
  | [], G, cs, i, _, _, _ => by cases cs <;> rfl
  | k :: ks, G, [], i, h, _, _ => by simp at h
  | k :: ks, G, c :: cs, i, h, nd, hk => by
    show (setK _ ks cs)[i]? = _
    rw [setK_get (by simpa using h) (List.nodup_cons.mp nd).2 (fun q hq => by rw [List.length_set]; exact hk q (List.mem_cons_of_mem _ hq))]
    rw [pos_cons]
    by_cases e : i = k
    · subst e
      have hn : pos ks i = none := by
        cases q : pos ks i with
        | none => rfl
        | some j => exact absurd (List.mem_of_getElem? (pos_some q)) (List.nodup_cons.mp nd).1
      rw [hn, if_pos rfl]
      show (G.set i (some (pn c.1 c.2)))[i]? = some (some (pn c.1 c.2))
      rw [List.getElem?_set_self (hk i List.mem_cons_self)]
    · rw [if_neg e]
      cases q : pos ks i with
      | none =>
        show (G.set k (some (pn c.1 c.2)))[i]? = G[i]?
        rw [List.getElem?_set_ne (Ne.symm e)]
      | some j => simp
inductive KOk (G : Gm) (n : Nat) : List Nat → List (V × Sl) → Prop where
  | nil : KOk G n [] []
  | pin {k : Nat} {ks : List Nat} {u : V} {T s : Sl} {cs : List (V × Sl)} (h : G[k]? = some (some (pn u T))) (t : KOk G n ks cs) : KOk G n (k :: ks) ((u, s) :: cs)
  | new {k : Nat} {ks : List Nat} {u : V} {s : Sl} {cs : List (V × Sl)} (h : n ≤ k) (h2 : k < G.length) (t : KOk G n ks cs) : KOk G n (k :: ks) ((u, s) :: cs)
theorem KOk.len {G : Gm} {n : Nat} : ∀ {ks : List Nat} {cs : List (V × Sl)}, KOk G n ks cs → ks.length = cs.length
  | _, _, .nil => rfl
  | _, _, .pin _ t => congrArg (· + 1) t.len
  | _, _, .new _ _ t => congrArg (· + 1) t.len
theorem KOk.lt {G : Gm} {n : Nat} : ∀ {ks : List Nat} {cs : List (V × Sl)}, KOk G n ks cs → ∀ k ∈ ks, k < G.length
  | _, _, .nil, k, h => by simp at h
  | _, _, .pin h t, k, m => by
    rcases List.mem_cons.mp m with z | z
    · subst z
      exact (List.getElem?_eq_some_iff.mp h).1
    · exact t.lt k z
  | _, _, .new _ h t, k, m => by
    rcases List.mem_cons.mp m with z | z
    · subst z
      exact h
    · exact t.lt k z
theorem KOk.val {G : Gm} {n : Nat} : ∀ {ks : List Nat} {cs : List (V × Sl)}, KOk G n ks cs → ∀ {j k : Nat} {u : V} {s : Sl}, ks[j]? = some k → cs[j]? = some (u, s) → (∃ T, G[k]? = some (some (pn u T))) ∨ n ≤ k
  | _, _, .nil, j, k, u, s, h, _ => by simp at h
  | _, _, .pin h t, 0, k, u, s, h1, h2 => by
    simp at h1 h2
    obtain ⟨rfl, rfl⟩ := h2
    subst h1
    exact .inl ⟨_, h⟩
  | _, _, .new h _ t, 0, k, u, s, h1, h2 => by
    simp at h1 h2
    subst h1
    exact .inr h
  | _, _, .pin h t, j + 1, k, u, s, h1, h2 => t.val (j := j) (by simpa using h1) (by simpa using h2)
  | _, _, .new h _ t, j + 1, k, u, s, h1, h2 => t.val (j := j) (by simpa using h1) (by simpa using h2)
section
variable {B : Bs} {tl : List Nat} {G : Gm} {F H F' H' : Hp} {σ : St}
theorem Stt.mutK {ms ms' : Nat → List Addr} {kx kt : List Nat} {cs : List (V × Sl)} (st : Stt B tl G F H σ) (z : SlOk B G F H σ ms) (hx : ∀ k ∈ kx, ∃ t, G[k]? = some (some t) ∧ t.own = true) (hxt : ∀ k ∈ kx, k ∈ kt) (ok : KOk G σ.length kt cs) (nd : kt.Nodup)
    (g : GrX (kx.flatMap ms) F H F' H') (c : CellsOk (hid (kx.flatMap ms) H) F' H' cs ms') : Stt B tl (setK G kt cs) F' H' σ := by
  have hX : ∀ x ∈ kx.flatMap ms, B.H0 x = none ∨ x ∈ B.X0 := fun x hm => by
    obtain ⟨k, hk, h⟩ := List.mem_flatMap.mp hm
    obtain ⟨t, e, o⟩ := hx k hk
    exact z.own k t e o x h
  have get : ∀ i, (setK G kt cs)[i]? = match pos kt i with
    | some j => (cs[j]?).map fun c => some (pn c.1 c.2)
    | none => G[i]? := fun i => setK_get ok.len nd ok.lt
  let nm : Nat → List Addr := fun i => match pos kt i with
    | some j => ms' j
    | none => ms i
  have old : ∀ i, pos kt i = none → i ∉ kx := fun i h m => pos_none h (hxt i m)
  have sepX : ∀ i, pos kt i = none → ∀ x ∈ ms i, x ∉ kx.flatMap ms := fun i hi x hm hn => by
    obtain ⟨k, hk, h⟩ := List.mem_flatMap.mp hn
    obtain ⟨t, e, o⟩ := hx k hk
    exact z.sep k t e o x h i (fun q => old i hi (by rw [q]; exact hk)) hm
  refine ⟨st.g.into g hX, st.bh, st.fr, st.ls, by rw [setK_len]; exact st.len, nm, ⟨fun i s e => ?_, fun i e => ?_, fun i x hm => ?_, fun i s e o x hm => ?_, fun i s e o x hm i' hi hm' => ?_⟩⟩
  · rw [get i] at e
    show ∃ v, _ ∧ s.r B.Hd F' H' v (match pos kt i with
      | some j => ms' j
      | none => ms i)
    cases q : pos kt i with
    | none =>
      rw [q] at e
      obtain ⟨v, h1, h2⟩ := z.has i s e
      exact ⟨v, h1, s.st h2 (XS.refl _) g.f.xs fun x hm o ho => g.h x o (sepX i q x hm) ho⟩
    | some j =>
      rw [q] at e
      have e : (cs[j]?).map (fun c => some (pn c.1 c.2)) = some (some s) := e
      cases qc : cs[j]? with
      | none =>
        rw [qc] at e
        cases e
      | some cc =>
        rw [qc] at e
        cases e
        obtain ⟨u, s'⟩ := cc
        refine ⟨u, fun hl => ?_, rfl, ?_⟩
        · rcases ok.val (pos_some q) qc with ⟨T, hT⟩ | hn
          · obtain ⟨v, h1, rfl, _⟩ := z.has i _ hT
            exact h1 hl
          · omega
        · exact c.has j u s' qc B.Hd
  · show (match pos kt i with
      | some j => ms' j
      | none => ms i) = []
    cases q : pos kt i with
    | none => exact z.non i fun s hs => e s (by rw [get i, q]; exact hs)
    | some j =>
      cases qc : cs[j]? with
      | none => exact c.non j (List.getElem?_eq_none_iff.mp qc)
      | some cc => exact absurd (by rw [get i, q]; show (cs[j]?).map _ = _; rw [qc]; rfl) (e (pn cc.1 cc.2))
  · have hm : x ∈ (match pos kt i with
      | some j => ms' j
      | none => ms i) := hm
    cases q : pos kt i with
    | none =>
      rw [q] at hm
      obtain ⟨h1, h2⟩ := z.mem i x hm
      exact ⟨g.no x h1 h2, g.nt x h2⟩
    | some j =>
      rw [q] at hm
      exact (c.mem j x hm).2
  · have hm : x ∈ (match pos kt i with
      | some j => ms' j
      | none => ms i) := hm
    cases q : pos kt i with
    | none =>
      rw [q] at hm
      rw [get i, q] at e
      exact z.own i s e o x hm
    | some j =>
      rw [q] at hm
      rcases hid_none (c.mem j x hm).1 with h | h
      · exact hX x h
      · exact .inl (Kn.free st.g.st h)
  · have hm : x ∈ (match pos kt i with
      | some j => ms' j
      | none => ms i) := hm
    have hm' : x ∈ (match pos kt i' with
      | some j => ms' j
      | none => ms i') := hm'
    cases q : pos kt i with
    | none =>
      rw [q] at hm
      rw [get i, q] at e
      cases q' : pos kt i' with
      | none =>
        rw [q'] at hm'
        exact z.sep i s e o x hm i' hi hm'
      | some j' =>
        rw [q'] at hm'
        rcases hid_none (c.mem j' x hm').1 with h | h
        · exact sepX i q x hm h
        · exact (z.mem i x hm).2.ne h
    | some j =>
      rw [q] at hm
      cases q' : pos kt i' with
      | none =>
        rw [q'] at hm'
        rcases hid_none (c.mem j x hm).1 with h | h
        · exact sepX i' q' x hm' h
        · exact (z.mem i' x hm').2.ne h
      | some j' =>
        rw [q'] at hm'
        exact c.sep j x hm j' (fun z => hi (by subst z; exact pos_inj q' q)) hm'
end
structure Ag1 (G : Gm) (ks : List Nat) {α : Type} (R : Rl α) (s : α → Sl) (k? : Option Nat) : Prop where
  run : ∀ a B tl H0 F H σ ms v, Stt B tl G F H σ → SlOk B G F H σ ms → (∀ k x, x ∈ ms k → H0 x ≠ none) → R.r a H0 F H v → ∀ Y, (∀ x o, H x = some o → (∀ k ∈ ks, x ∉ ms k) → Y x = some o) → (s a).r Y F H v (match k? with
    | some k => ms k
    | none => [])
  own : ∀ a, match k? with
    | some k => k ∈ ks
    | none => (s a).own = false
structure Ags (G : Gm) (ks : List Nat) {α : Type} (A : Ra α) (par : α → List Sl) (κ : List (Option Nat)) : Prop where
  len : ∀ a H0 F H vs, A.r a H0 F H vs → (par a).length = vs.length ∧ κ.length = vs.length
  run : ∀ a B tl H0 F H σ ms vs, Stt B tl G F H σ → SlOk B G F H σ ms → (∀ k x, x ∈ ms k → H0 x ≠ none) → A.r a H0 F H vs → ∀ Y, (∀ x o, H x = some o → (∀ k ∈ ks, x ∉ ms k) → Y x = some o) →
    ∀ (i : Nat) (s : Sl), (par a)[i]? = some s → ∃ v, vs[i]? = some v ∧ s.r Y F H v (match κ[i]? with
      | some (some k) => ms k
      | _ => [])
  own : ∀ a (i : Nat) (s : Sl), (par a)[i]? = some s → match κ[i]? with
    | some (some k) => k ∈ ks
    | _ => s.own = false
theorem ag_nil {G : Gm} {ks : List Nat} : Ags G ks ra0 (fun _ => []) [] := ⟨fun a H0 F H vs h => by cases h; exact ⟨rfl, rfl⟩, fun a B tl H0 F H σ ms vs _ _ _ _ Y _ i s e => by simp at e, fun a i s e => by simp at e⟩
theorem ag_cons {G : Gm} {ks : List Nat} {α β : Type} {R : Rl α} {s : α → Sl} {k? : Option Nat} {T : Ra β} {par : β → List Sl} {κ : List (Option Nat)} (h : Ag1 G ks R s k?) (t : Ags G ks T par κ) : Ags G ks (rac R T) (fun a => s a.1 :: par a.2) (k? :: κ) :=
  ⟨fun a H0 F H vs ⟨v, r, e, h1, h2⟩ => by
    subst e
    obtain ⟨l1, l2⟩ := t.len _ _ _ _ _ h2
    exact ⟨congrArg (· + 1) l1, congrArg (· + 1) l2⟩, fun a B tl H0 F H σ ms vs st z kn ⟨v, r, e, h1, h2⟩ Y hY i s' e' => by
    subst e
    cases i with
    | zero =>
      simp at e'
      subst e'
      refine ⟨v, rfl, ?_⟩
      have := h.run a.1 B tl H0 F H σ ms v st z kn h1 Y hY
      cases k? with
      | none => exact this
      | some k => exact this
    | succ i => exact t.run a.2 B tl H0 F H σ ms r st z kn h2 Y hY i s' (by simpa using e'), fun a i s' e' => by
    cases i with
    | zero =>
      simp at e'
      subst e'
      have := h.own a.1
      cases k? with
      | none => exact this
      | some k => exact this
    | succ i => exact t.own a.2 i s' (by simpa using e')⟩
section
variable {G : Gm} {ks : List Nat} {α : Type}
theorem ag_v {A : Rf α} : Ag1 G ks A.up (sv A) none := ⟨fun a B tl H0 F H σ ms v st z kn h Y hY => ⟨h, rfl⟩, fun _ => rfl⟩
theorem ag_p {q : V} {T : Sl} (k : Nat) (hG : G[k]? = some (some (pn q T))) (hy : ∀ Y Y' F H v ms, T.r Y F H v ms → T.r Y' F H v ms := by intro _ _ _ _ _ _ h; exact h) (hk : k ∈ ks := by decide) : Ag1 G ks (rV q) (fun _ => pn q T) (some k) := ⟨fun a B tl H0 F H σ ms v st z kn h Y hY => by
  obtain ⟨u, _, e, hr⟩ := z.has k _ hG
  have h : v = q := h
  subst e h
  exact ⟨rfl, hy _ _ _ _ _ _ hr⟩, fun _ => hk⟩
end
theorem own_all {G : Gm} : ∀ {ks : List Nat}, (ks.all fun k => match G[k]? with
    | some (some t) => t.own
    | _ => false) = true → ∀ k ∈ ks, ∃ t, G[k]? = some (some t) ∧ t.own = true := fun {ks} h k hk => by
  have := List.all_eq_true.mp h k hk
  split at this
  · rename_i t e
    exact ⟨t, e, this⟩
  · cases this
section
variable {ε : Type} {Eh : EH ε} {X : Cx} {W : WX} {G : Gm} {tl : List Nat} {k : Nat}
theorem tX_call {K : PySem.W.Frag} {α ε1 ρ β : Type} {par : α → (Nat → V) → List Sl} {mir : α → Mg ε1 ρ} {res : ρ → Sl} {outs : ρ → (Nat → V) → List (V × Sl)} {cls : ε1 → Er} {outsE : ε1 → (Nat → V) → List (V × Sl)} {A : Ra β} {g : β → α} {w : Nat → V} {ks : List Nat} {κ : List (Option Nat)} 
    {B : Bs} {H0 H1 F1 : Hp} {σ : St} {a : β} {vs : List V} {ms : Nat → List Addr}
    (st : Stt B tl G F1 H1 σ) (z : SlOk B G F1 H1 σ ms) (rv : A.r a H0 F1 H1 vs) (kn : ∀ k x, x ∈ ms k → H0 x ≠ none)
    (hag : Ags G ks A (fun b => par (g b) w) κ) (ho : ∀ k ∈ ks, ∃ t, G[k]? = some (some t) ∧ t.own = true) (hκ : (κ.filterMap id).Nodup)
    (ne : mir (g a) ≠ none) (Qv : VK) 
    (hok : ∀ r, mir (g a) = M.ok r → ∀ v F' H' ms', GrX (ks.flatMap ms) F1 H1 F' H' → CellsOk (hid (ks.flatMap ms) H1) F' H' ((v, res r) :: outs r w) ms' → Qv v H')
    (her : ∀ e, mir (g a) = M.err e → ∀ F' H' ms', GrX (ks.flatMap ms) F1 H1 F' H' → CellsOk (hid (ks.flatMap ms) H1) F' H' (outsE e w) ms' → WE W σ (ec K (cls e)) none H') :
    spG K par mir res outs cls outsE vs H1 Qv (WE W σ) := by
  obtain ⟨l1, l2⟩ := hag.len _ _ _ _ _ rv
  have hY : ∀ x o, H1 x = some o → (∀ k ∈ ks, x ∉ ms k) → hid (ks.flatMap ms) H1 x = some o := fun x o hx h => by
    rw [hid_not fun hm => by
      obtain ⟨k, hk, hm⟩ := List.mem_flatMap.mp hm
      exact h k hk hm]
    exact hx
  have hrun := hag.run a B tl H0 F1 H1 σ ms vs st z kn rv (hid (ks.flatMap ms) H1) hY
  let mi : Nat → List Addr := fun i => match κ[i]? with
    | some (some k) => ms k
    | _ => []
  have mm : ∀ i x, x ∈ mi i → ∃ k, κ[i]? = some (some k) ∧ x ∈ ms k := fun i x hx => by
    have hx : x ∈ (match κ[i]? with
      | some (some k) => ms k
      | _ => []) := hx
    split at hx
    · exact ⟨_, by assumption, hx⟩
    · simp at hx
  refine ⟨g a, F1, w, ks.flatMap ms, mi, st.fh, ⟨l1, fun i s e => hrun i s e, fun i hi => ?_, fun i x hx => ?_, fun i s e o x hx => ?_, fun i s e o x hx j hj hm => ?_⟩, ne, hok, her⟩
  · show (match κ[i]? with
      | some (some k) => ms k
      | _ => []) = []
    rw [List.getElem?_eq_none (by omega)]
  · obtain ⟨k, _, h⟩ := mm i x hx
    exact z.mem k x h
  · obtain ⟨k, hk, h⟩ := mm i x hx
    have := hag.own a i s e
    rw [hk] at this
    exact List.mem_flatMap.mpr ⟨k, this, h⟩
  · obtain ⟨k1, hk, h⟩ := mm i x hx
    obtain ⟨k2, hk', h'⟩ := mm j x hm
    have o1 := hag.own a i s e
    rw [hk] at o1
    obtain ⟨t, e1, o2⟩ := ho k1 o1
    refine z.sep k1 t e1 o2 x h k2 (fun q => hj ?_) h'
    subst q
    have key : ∀ (l : List (Option Nat)) (i j k : Nat), (l.filterMap id).Nodup → l[i]? = some (some k) → l[j]? = some (some k) → i = j := by
      intro l
      induction l with
      | nil => intro i j k _ h; simp at h
      | cons o l ih =>
        intro i j k nd h1 h2
        have memf : ∀ (j : Nat), l[j]? = some (some k) → k ∈ l.filterMap id := fun j h => List.mem_filterMap.mpr ⟨some k, List.mem_of_getElem? h, rfl⟩
        cases i with
        | zero =>
          cases j with
          | zero => rfl
          | succ j =>
            simp at h1
            subst h1
            rw [List.filterMap_cons] at nd
            exact absurd (memf j (by simpa using h2)) (List.nodup_cons.mp nd).1
        | succ i =>
          cases j with
          | zero =>
            simp at h2
            subst h2
            rw [List.filterMap_cons] at nd
            exact absurd (memf i (by simpa using h1)) (List.nodup_cons.mp nd).1
          | succ j =>
            have nd' : (l.filterMap id).Nodup := by
              rw [List.filterMap_cons] at nd
              cases o with
              | none => exact nd
              | some _ => exact (List.nodup_cons.mp nd).2
            rw [ih i j k nd' (by simpa using h1) (by simpa using h2)]
    exact key κ j i k2 hκ hk' hk
theorem ToldX.tellE {K : PySem.W.Frag} {α β : Type} {p : Er → ε} {ma : M α} {f : α → Mg ε β} {N : β → V → Gm} {PX : β → V → Hp → Hp → Prop} {σ : St} {H : Hp} {B : Bs} {F : Hp} {P : α → Hp → Hp → Prop} (T : ToldX K W Eh tl G (ma.bindP p f) N PX σ H B F) (hp : Pay Eh G p)
    (k : ∀ a F1 H1, ma = M.ok a → Gr F H F1 H1 → ToldX K W Eh tl G (f a) N PX σ H1 B F1 → P a F1 H1) : Told K W G ma P σ H B tl F := by
  refine ⟨T.st, ?_, ?_, ?_⟩
  · intro e
    exact T.ne (by rw [e]; rfl)
  · rintro a rfl F1 H1 g
    exact k a F1 H1 rfl g ⟨T.st.grow g, T.ne, fun b e v F' H' x st => T.ok b e v F' H' (g.f.trans x) st, T.er⟩
  · rintro e rfl F1 H1 g1
    have := T.er (p e) rfl F1 H1 (hp.i e _ _ _ _ _ (T.st.grow g1))
    rw [hp.c e] at this
    exact this
theorem CellsOk.tail {Y F H : Hp} {c : V × Sl} {cs : List (V × Sl)} {ms : Nat → List Addr} (h : CellsOk Y F H (c :: cs) ms) : CellsOk Y F H cs (fun i => ms (i + 1)) :=
  ⟨fun i v s e => h.has (i + 1) v s (by simpa using e), fun i hi => h.non (i + 1) (by simpa using hi), fun i x hx => h.mem (i + 1) x hx, fun i x hx j hj => h.sep (i + 1) x hx (j + 1) (fun q => hj (by omega))⟩
section
variable {α ε1 ρ β : Type} {par : α → (Nat → V) → List Sl} {mir : α → Mg ε1 ρ} {res : ρ → Sl} {outs : ρ → (Nat → V) → List (V × Sl)} {cls : ε1 → Er} {outsE : ε1 → (Nat → V) → List (V × Sl)} {m : M β} {g : β → α} {w : Nat → V} {ks kt kte : List Nat} {κ : List (Option Nat)} {p : Er → ε} {q : ε1 → ε}
structure Beh (Eh : EH ε) (G : Gm) (n : Nat) (ks kt kte : List Nat) (κ : List (Option Nat)) (w : Nat → V) (outs : ρ → (Nat → V) → List (V × Sl)) (cls : ε1 → Er) (outsE : ε1 → (Nat → V) → List (V × Sl)) (q : ε1 → ε) : Prop where
  ho : ∀ k ∈ ks, ∃ t, G[k]? = some (some t) ∧ t.own = true
  hκ : (κ.filterMap id).Nodup
  mt : ∀ k ∈ ks, k ∈ kt
  ok : ∀ r, KOk G n kt (outs r w)
  nd : kt.Nodup
  me : ∀ k ∈ ks, k ∈ kte
  oke : ∀ e, KOk G n kte (outsE e w)
  nde : kte.Nodup
  hc : ∀ e, Eh.cls (q e) = cls e
  hi : ∀ e, Imp (setK G kte (outsE e w)) (Eh.G (q e))
theorem fx_run {Ar : Ra β} {A : ρ → Hp → V → Prop} {B : Bs} {F1 H0 H1 : Hp} {σ : St} {a : β} {vs : List V} {Q : VK} {ms : Nat → List Addr} (hl : σ.length = X.N.length)
    (hag : Ags G ks Ar (fun b => par (g b) w) κ) (hb : Beh Eh G X.N.length ks kt kte κ w outs cls outsE q) (hres : ∀ r Y F H v ms, (res r).r Y F H v ms → A r F v) (z : SlOk B G F1 H1 σ ms) (kn : ∀ k x, x ∈ ms k → H0 x ≠ none)
    (T : ToldX X.K W Eh tl G ((mir (g a)).bindP q fun r => M.ok r) (fun r _ => setK G kt (outs r w)) (fun r v F' H' => A r F' v → Q v H') σ H1 B F1) (rv : Ar.r a H0 F1 H1 vs) : spG X.K par mir res outs cls outsE vs H1 Q (WE W σ) := by
  refine tX_call T.st z rv kn hag hb.ho hb.hκ (fun e => T.ne (by rw [e]; rfl)) Q (fun r e v F' H' ms' gx c => ?_) (fun e er F' H' ms' gx c => ?_)
  · refine T.ok r (by rw [e]; rfl) v F' H' gx.f ?_ (hres r H' _ _ _ _ (c.has 0 _ _ rfl H'))
    exact T.st.mutK z hb.ho hb.mt (by rw [hl]; exact hb.ok r) hb.nd gx c.tail
  · have st2 := T.st.mutK z hb.ho hb.me (by rw [hl]; exact hb.oke e) hb.nde gx c
    have := T.er (q e) (by rw [er]; rfl) F' H' (hb.hi e _ _ _ _ _ st2)
    rw [hb.hc e] at this
    exact this
theorem fx_call {j : Nat} {ps : List Str} {x : Str} {pp pos : Pos} {e : Expr} {es : List Expr} {A : ρ → Hp → V → Prop} {Ar : Ra β} (C : Cok X W k)
    (h : Cal X.prog X.w X.K X.mg X.base x ps j (spG X.K par mir res outs cls outsE)) (hj : j ≤ k) (ha : FA X W G (e :: es) m Ar) (hag : Ags G ks Ar (fun b => par (g b) w) κ) (hb : Beh Eh G X.N.length ks kt kte κ w outs cls outsE q) (hres : ∀ r Y F H v ms, (res r).r Y F H v ms → A r F v) (hp : Pay Eh G p)
    (hg : Gl X x := by rfl) (hdb : (x == ("__debug__" : Str)) = false := by decide) (he : starEach (e :: es) X.env = (false, eval e X.env) :: starEach es X.env := by rfl) (hpl : (backTo pos (starEach es X.env)).any (·.1) = false := by rfl) :
    FX X W Eh tl G (.Call (.Name x pp) (e :: es) [] pos) (m.bindP p fun a => (mir (g a)).bindP q fun r => M.ok r) A (fun r _ => setK G kt (outs r w)) := by
  obtain ⟨f, fd, hm, hk, hbi, Fk⟩ := h
  refine ⟨fun pins s σ H Q I ⟨B, F, T⟩ => (pe_callS (E := WE W) Fk (C.hr.mono hj) hg hm hk hbi (fun σ => L2N.passAt C.tk σ) ha hdb he hpl).run pins s σ H Q I ?_⟩
  obtain ⟨ms, z⟩ := T.st.sl
  exact ⟨B, tl, F, T.tellE hp fun a F1 H1 ea g1 T1 vs rv => fx_run I.len hag hb hres (z.grow g1) (fun k x hx => (z.mem k x hx).2.ne) T1 rv⟩
end
end
end LK
namespace LK
open PySem L2
def lkH (q : Addr) (od : Obj) (u : HO) (F : Hp) : Hp := fun a => if a = q then (match F q with
  | some _ => some (.frz od u)
  | none => none) else F a
def ulH (q : Addr) (u : HO) (F : Hp) : Hp := fun a => if a = q then (match F q with
  | some _ => some u
  | none => none) else F a
section
variable {q : Addr} {od : Obj} {u : HO} {F H : Hp}
theorem lk_ne {a : Addr} (h : a ≠ q) : lkH q od u F a = F a := if_neg h
theorem lk_at : lkH q od u F q = match F q with
  | some _ => some (.frz od u)
  | none => none := if_pos rfl
theorem ul_ne {a : Addr} (h : a ≠ q) : ulH q u F a = F a := if_neg h
theorem ul_at : ulH q u F q = match F q with
  | some _ => some u
  | none => none := if_pos rfl
theorem lk_none {a : Addr} (h : F a = none) : lkH q od u F a = none := by
  by_cases e : a = q
  · subst e; rw [lk_at, h]
  · rw [lk_ne e, h]
theorem lk_nt {a : Addr} (h : NT F a) : NT (lkH q od u F) a := by
  by_cases e : a = q
  · subst e
    obtain ⟨o, h1, h2⟩ := h
    exact ⟨.frz od u, by rw [lk_at, h1], fun _ z => nomatch z⟩
  · obtain ⟨o, h1, h2⟩ := h
    exact ⟨o, by rw [lk_ne e]; exact h1, h2⟩
theorem lk_ex (x : Ex F H) : Ex (lkH q od u F) (lkH q od u H) := fun a o h => by
  by_cases e : a = q
  · subst e
    rw [lk_at] at h ⊢
    cases w : F a with
    | none => rw [w] at h; cases h
    | some o' => rw [w] at h; rw [x a o' w]; exact h
  · rw [lk_ne e] at h ⊢
    exact x a o h
theorem lk_upd (h : H q ≠ none) : lkH q od u H = upd H q (.frz od u) := by
  funext a
  by_cases e : a = q
  · subst e
    rw [lk_at, upd_same]
    cases w : H a with
    | none => exact absurd w h
    | some o => rfl
  · rw [lk_ne e, upd_ne e]
theorem lk_xs (hu : Dly u) (h : ∀ o, F q = some o → o = u) : XS F (lkH q od u F) := fun a o ha => by
  by_cases e : a = q
  · subst e
    cases h o ha
    exact .inr ⟨_, hu, .inl rfl, .inr ⟨od, by rw [lk_at, ha]⟩⟩
  · exact .inl (by rw [lk_ne e]; exact ha)
theorem ul_xs (hu : Dly u) (h : ∀ o, F q = some o → o = .frz od u) : XS F (ulH q u F) := fun a o ha => by
  by_cases e : a = q
  · subst e
    cases h o ha
    exact .inr ⟨_, hu, .inr ⟨od, rfl⟩, .inl (by rw [ul_at, ha])⟩
  · exact .inl (by rw [ul_ne e]; exact ha)
theorem lk_back (hu : Dly u) (h : ∀ o, F q = some o → o = u) : XS (lkH q od u F) F := fun a o ha => by
  by_cases e : a = q
  · subst e
    rw [lk_at] at ha
    cases w : F a with
    | none => rw [w] at ha; cases ha
    | some o' =>
      rw [w] at ha
      cases ha
      cases h o' w
      exact .inr ⟨_, hu, .inr ⟨od, rfl⟩, .inl rfl⟩
  · exact .inl (by rw [lk_ne e] at ha; exact ha)
end
section
variable {B : Bs} {tl tl' : List Nat} {G G' : Gm} {F H F' H' : Hp} {σ σ' : St} {q : Addr} {od : Obj} {u : HO}
theorem Stt.lock {ms : Nat → List Addr} (st : Stt B tl G F H σ) (z : SlOk B G F H σ ms) (hu : Dly u) (hq : H q = some u) (hn : ∀ i, q ∉ ms i) : Stt ⟨lkH q od u B.Hd, ownAt G ms, lkH q od u F, lkH q od u H, σ⟩ tl' G (lkH q od u F) (lkH q od u H) σ := by
  have hF : ∀ o, F q = some o → o = u := fun o h => by
    have := st.fh q o h
    rw [hq] at this
    exact (Option.some.inj this).symm
  have hY : ∀ o, B.Hd q = some o → o = u := fun o h => by
    have := st.yh q o h
    rw [hq] at this
    exact (Option.some.inj this).symm
  refine ⟨(Gr.refl (lk_ex st.fh)).x _, fun a o ha => ⟨lk_ex st.yh a o ha, fun hx => ?_⟩, fun _ _ => rfl, rfl, st.len, ms, ⟨fun i s e => ?_, z.non, fun i x hx => ?_, fun j t e ho x hx => .inr (ownAt_mem e ho hx), z.sep⟩⟩
  · obtain ⟨i, sl, e, o', h⟩ := mem_ownAt hx
    have := st.frs z e o' a h
    have ha : lkH q od u B.Hd a = some o := ha
    rw [lk_none this] at ha
    cases ha
  · obtain ⟨v, h1, h2⟩ := z.has i s e
    exact ⟨v, h1, s.st h2 (lk_xs hu hY) (lk_xs hu hF) fun x hx o ho => by
      rw [lk_ne (fun w => hn i (by rw [← w]; exact hx))]; exact ho⟩
  · obtain ⟨h1, h2⟩ := z.mem i x hx
    exact ⟨lk_none h1, lk_nt h2⟩
theorem Stt.unlock {ms : Nat → List Addr} (st : Stt B tl G F H σ) (z : SlOk B G F H σ ms) (hu : Dly u) (hq : H q = some u) (hn : ∀ i, q ∉ ms i) (ht : ∀ i ∈ tl', i ∈ tl) (st' : Stt ⟨lkH q od u B.Hd, ownAt G ms, lkH q od u F, lkH q od u H, σ⟩ tl' G' F' H' σ') :
    H' q = some (.frz od u) ∧ Stt B tl G' (ulH q u F') (upd H' q u) σ' := by
  have hX : ∀ x ∈ ownAt G ms, B.H0 x = none ∨ x ∈ B.X0 := fun x hx => by
    obtain ⟨i, sl, e, o, h⟩ := mem_ownAt hx
    exact z.own i sl e o x h
  have hqX : q ∉ ownAt G ms := fun hx => by
    obtain ⟨i, sl, e, o, h⟩ := mem_ownAt hx
    exact hn i h
  have hF : ∀ o, F q = some o → o = u := fun o h => by
    have := st.fh q o h
    rw [hq] at this
    exact (Option.some.inj this).symm
  have hY : ∀ o, B.Hd q = some o → o = u := fun o h => by
    have := st.yh q o h
    rw [hq] at this
    exact (Option.some.inj this).symm
  have g' : GrX (ownAt G ms) (lkH q od u F) (lkH q od u H) F' H' := st'.g
  have hq' : H' q = some (.frz od u) := g'.h q _ hqX (by rw [lk_at, hq])
  have hF' : ∀ o, F' q = some o → o = .frz od u := fun o h => by
    have := g'.fh q o h
    rw [hq'] at this
    exact (Option.some.inj this).symm
  have g2 : GrX (ownAt G ms) F H (ulH q u F') (upd H' q u) := by
    refine ⟨fun a o ha => ?_, fun a o hx ha => ?_, fun a o ha => ?_, fun a h1 h2 => ?_, fun a ha => ?_, fun a ha => ?_⟩
    · by_cases e : a = q
      · subst e
        cases hF o ha
        rw [ul_at, g'.f a (.frz od u) (by rw [lk_at, ha])]
      · rw [ul_ne e]
        exact g'.f a o (by rw [lk_ne e]; exact ha)
    · by_cases e : a = q
      · subst e
        rw [hq] at ha
        cases ha
        exact upd_same
      · rw [upd_ne e]
        exact g'.h a o hx (by rw [lk_ne e]; exact ha)
    · by_cases e : a = q
      · subst e
        rw [ul_at] at ha
        rw [upd_same]
        cases w : F' a with
        | none => rw [w] at ha; cases ha
        | some o' => rw [w] at ha; exact ha
      · rw [ul_ne e] at ha
        rw [upd_ne e]
        exact g'.fh a o ha
    · by_cases e : a = q
      · subst e
        rw [ul_at, g'.no a (lk_none h1) (lk_nt h2)]
      · rw [ul_ne e]
        exact g'.no a (by rw [lk_ne e]; exact h1) (lk_nt h2)
    · by_cases e : a = q
      · subst e
        rw [upd_same]
        exact fun w => nomatch w
      · rw [upd_ne e]
        exact g'.st a (by rw [lk_ne e]; exact ha)
    · by_cases e : a = q
      · subst e
        obtain ⟨o, h1, h2⟩ := ha
        rw [hq] at h1
        cases h1
        exact NT.up h2
      · obtain ⟨o, h1, h2⟩ := g'.nt a (lk_nt ha)
        exact ⟨o, by rw [upd_ne e]; exact h1, h2⟩
  obtain ⟨ms', z'⟩ := st'.sl
  have hn' : ∀ i, q ∉ ms' i := fun i hm => by
    cases w : G'[i]? with
    | none => rw [z'.non i (fun s e => by rw [w] at e; cases e)] at hm; cases hm
    | some o =>
      cases o with
      | none => rw [z'.non i (fun s e => by rw [w] at e; cases e)] at hm; cases hm
      | some s =>
        cases o : s.own with
        | false =>
          obtain ⟨v, _, h⟩ := z'.has i s w
          rw [s.no o h] at hm
          cases hm
        | true =>
          rcases z'.own i s w o q hm with h | h
          · have h : lkH q od u H q = none := h
            rw [lk_at, hq] at h
            cases h
          · exact hqX h
  refine ⟨hq', st.g.into g2 hX, st.bh, fun i hi => (st'.fr i fun w => hi (ht i w)).trans (st.fr i hi), st'.ls.trans st.ls, st'.len, ms', ⟨fun i s e => ?_, z'.non, fun i x hx => ?_, fun i s e o x hx => ?_, z'.sep⟩⟩
  · obtain ⟨v, h1, h2⟩ := z'.has i s e
    exact ⟨v, h1, s.st h2 (lk_back hu hY) (ul_xs hu hF') fun x hx o ho => by
      rw [upd_ne (fun w => hn' i (by rw [← w]; exact hx))]; exact ho⟩
  · obtain ⟨h1, h2⟩ := z'.mem i x hx
    have e : x ≠ q := fun w => hn' i (by rw [← w]; exact hx)
    rw [ul_ne e]
    obtain ⟨o, q1, q2⟩ := h2
    exact ⟨h1, o, by rw [upd_ne e]; exact q1, q2⟩
  · rcases z'.own i s e o x hx with h | h
    · have h : lkH q od u H x = none := h
      refine .inl (Kn.free st.g.st ?_)
      by_cases w : x = q
      · exact absurd (by rw [← w]; exact hx) (hn' i)
      · rw [lk_ne w] at h; exact h
    · exact hX x h
end
def lkW (W : WX) (q : Addr) (od : Obj) (u : HO) : WX := fun cls d σ H => H q = some (.frz od u) ∧ W cls d σ (upd H q u)
section
variable {X : Cx} {W : WX} {kk : Nat}
theorem takes_lock {q : Addr} {od : Obj} {u : HO} (t : L2N.Takes X W) (hn : ∀ o' u', X.H_0 q ≠ some (.frz o' u')) : L2N.Takes X (lkW W q od u) := fun v s' ⟨a, B, sI, pins, σ, H, cls, d, e, I, nb, up, sky, na, os, ag, w⟩ =>
  t v s' ⟨a, B, sI, pins, σ, _, cls, d, e, I.unlock w.1 hn, nb, up, sky, by rw [upd_ne (fun z => by rw [z, w.1] at na; cases na)]; exact na, os, ag, w.2⟩
theorem Cok.lock {q : Addr} {od : Obj} {u : HO} (C : Cok X W kk) (hn : ∀ o' u', X.H_0 q ≠ some (.frz o' u')) : Cok X (lkW W q od u) kk := ⟨C.calm, takes_lock C.tk hn, C.hp, C.hr, C.nd⟩
def tLockX (X : Cx) (t : TS) : TS := fun D σ H => ∃ d u, H d = some u ∧ Mut (some u) ∧ ∀ od, (∀ o' u', X.H_0 d ≠ some (.frz o' u')) → t ⟨fun σ' H' => H' d = some (.frz od u) ∧ D.nx σ' (upd H' d u), fun v H' => H' d = some (.frz od u) ∧ D.rt v (upd H' d u), fun σ' H' => H' d = some (.frz od u) ∧ D.bk σ' (upd H' d u), fun σ' H' => H' d = some (.frz od u) ∧ D.ct σ' (upd H' d u)⟩ σ (upd H d (.frz od u))
theorem ps_lockX {st : Stmt} {t : TS} (h : PS X st t) : PS X st (tLockX X t) := by
  refine ⟨fun pins s σ H D I hw => ?_⟩
  obtain ⟨d, u, hd, mu, hw⟩ := hw
  obtain ⟨od, I1⟩ := I.lock hd mu
  refine thn (h.run pins s σ _ _ I1 (hw od (I.nofrz hd mu))) fun f s1 q => ?_
  cases f with
  | next => obtain ⟨σ', H', I2, e, q⟩ := q; exact ⟨σ', _, I2.unlock e (I.nofrz hd mu), q⟩
  | brk => obtain ⟨σ', H', I2, e, q⟩ := q; exact ⟨σ', _, I2.unlock e (I.nofrz hd mu), q⟩
  | cont => obtain ⟨σ', H', I2, e, q⟩ := q; exact ⟨σ', _, I2.unlock e (I.nofrz hd mu), q⟩
  | ret v => obtain ⟨x, σ', H', I2, r, e, q⟩ := q; exact ⟨x, σ', _, I2.unlock e (I.nofrz hd mu), r, q⟩
theorem ps_or {st : Stmt} {t1 t2 : TS} (h1 : PS X st t1) (h2 : PS X st t2) : PS X st (fun D σ H => t1 D σ H ∨ t2 D σ H) := ⟨fun pins s σ H D I q => by
  rcases q with q | q
  · exact h1.run pins s σ H D I q
  · exact h2.run pins s σ H D I q⟩
end
structure DIt {κ β α : Type} (T : KY κ) (Bv : Rf β) (A : Rf α) (l : List (κ × β) → List α) (J : Addr → Obj → List (Key × V) → It) : Prop where
  len : ∀ d, (l d).length = d.length
  go : ∀ q od ws i H, H q = some (.frz od (.dK ws)) → i < ws.length → (J q od ws).go i H
  stop : ∀ q od ws i H, H q = some (.frz od (.dK ws)) → ws.length ≤ i → (J q od ws).stop i H
  yld : ∀ q od ws i F H x H' d, Ex F H → Pd T (fun a x => Bv.r a F x) d ws → (J q od ws).yld i H x H' → ∃ a F', (l d)[i]? = some a ∧ Gr F H F' H' ∧ A.r a F' x
section
variable {κ β : Type} {T : KY κ} {Bv : Rf β}
theorem di_keys : DIt T Bv T.A (fun d => d.map (·.1)) Itk := ⟨fun d => List.length_map _, fun q od ws i H h hi => ⟨h, hi⟩, fun q od ws i H h hi => ⟨h, hi⟩, fun q od ws i F H x H' d xf pd ⟨e1, k, v, hk, e2⟩ => by
  subst e1 e2
  obtain ⟨kk, a, h1, h2, h3, h4⟩ := pd.at hk
  subst h2
  exact ⟨kk, F, by rw [List.getElem?_map, h1]; rfl, Gr.refl xf, T.to h3 F⟩⟩
end
def DPi (X : Cx) (G : Gm) (tg ei : Expr) (v : V) (J : Addr → Obj → List (Key × V) → It) : Prop := ∃ ti, PI X tg ei ti ∧ ∀ B tl F σ H R q od ws, Stt B tl G F H σ → v = .ref q → H q = some (.frz od (.dK ws)) → (∀ F' H', Gr F H F' H' → R (J q od ws) H') → ti σ H R
def WT : WX := fun _ _ _ _ => True
section
variable {X : Cx} {G : Gm} {v : V} {tg e : Expr}
theorem tE_known {K : PySem.W.Frag} {B : Bs} {tl : List Nat} {F H : Hp} {σ : St} {Q : VK} (st : Stt B tl G F H σ) (h : ∀ F' H', Gr F H F' H' → Q v H') : tE K WT G (M.ok ()) (rV v) σ H Q :=
  ⟨B, tl, F, st, (fun z => nomatch z), fun a _ F' H' g v' e => by
    cases (show v' = v from e)
    exact h F' H' g, fun e z => nomatch z⟩
theorem dp_keys (he : FE X WT G e (M.ok ()) (rV v)) : DPi X G tg e v Itk := ⟨_, pi_keys he, fun B tl F σ H R q od ws st ev hq k => tE_known st fun F' H' g => ⟨q, od, ev, .inl ⟨ws, g.h _ _ hq, k F' H' g⟩⟩⟩
end
structure DSl {κ β : Type} (T : KY κ) (Bv : Rf β) (sl : Sl) (d : List (κ × β)) : Prop where
  run : ∀ Y F H v ms, sl.r Y F H v ms → ∃ q ws, v = .ref q ∧ (Rd Y q (.dK ws) ∨ Rd F q (.dK ws)) ∧ Pd T (fun a x => Bv.r a F x) d ws
theorem ds_b {κ β : Type} {T : KY κ} {Bv : Rf β} {d : List (κ × β)} : DSl T Bv (bw (tD T Bv) d) d := ⟨fun Y F H v ms ⟨⟨q, ws, e, h, p⟩, _⟩ => ⟨q, ws, e, .inl h, p⟩⟩
section
variable {ε : Type} {Eh : EH ε} {X : Cx} {W : WX} {tl tl' : List Nat} {ρ b s : Type} {R : ρ → V → Gm} {Gs : s → Gm} {κ β α : Type} {T : KY κ} {Bv : Rf β} {A : Rf α} {f : s → α → Mg ε (Fl ρ s s)} {l : List (κ × β) → List α} {J : Addr → Obj → List (Key × V) → It} {d : List (κ × β)} {sl : Sl} {v : V}
theorem DSl.sep {B : Bs} {G : Gm} {F H : Hp} {σ : St} {ms : Nat → List Addr} {tl : List Nat} {j : Nat} (hd : DSl T Bv sl d) (st : Stt B tl G F H σ) (z : SlOk B G F H σ ms) (hG : G[j]? = some (some (pn v sl))) :
    ∃ q ws, v = .ref q ∧ Rd H q (.dK ws) ∧ Pd T (fun a x => Bv.r a F x) d ws ∧ ∀ i, q ∉ ms i := by
  obtain ⟨w, h1, rfl, h2⟩ := z.has j _ hG
  obtain ⟨q, ws, e, h, p⟩ := hd.run _ _ _ _ _ h2
  refine ⟨q, ws, e, ?_, p, fun i hm => ?_⟩
  · rcases h with h | h
    · exact Rd.ex st.yh h
    · exact Rd.ex st.fh h
  · rcases h with h | h
    · cases w : G[i]? with
      | none => rw [z.non i (fun s e => by rw [w] at e; cases e)] at hm; cases hm
      | some o =>
        cases o with
        | none => rw [z.non i (fun s e => by rw [w] at e; cases e)] at hm; cases hm
        | some s =>
          cases o : s.own with
          | false =>
            obtain ⟨v, _, h⟩ := z.has i s w
            rw [s.no o h] at hm
            cases hm
          | true =>
            have := st.frs z w o q hm
            rcases h with h | ⟨o, h⟩ <;> rw [this] at h <;> cases h
    · have := (z.mem i q hm).1
      rcases h with h | ⟨o, h⟩ <;> rw [this] at h <;> cases h
theorem ps_forDc {ei : Expr} {pos : Pos} {tg : Expr} {body : List Stmt} {G : Gm} {kk : Nat} {G2 : s × α → Gm} {x0 : s} {Gb : b → Gm} (j : Nat) (hJ : DIt T Bv A l J) (hd : DSl T Bv sl d) (hi : DPi X G tg ei v J) (hGj : G[j]? = some (some (pn v sl))) (hG : Imp G (Gs x0))
    (hg : FG X tl' (fun z : s × α => Gs z.1) tg A (fun z => z.2) G2) (hb : ∀ W', Cok X W' kk → ∀ x a, FS X W' Eh tl' (G2 (x, a)) body (f x a) R Gs Gs) (ht : ∀ i ∈ tl', i ∈ tl) (hs : ∀ x, foldedSetIterable ei X.env x = pure x) (hp : PassesOwn (model X.prog X.w) X.A X.env X.xe) (hc : X.calm = true) :
    PS X (.For tg ei body [] pos) (fun D σ H => ∃ W', Cok X W' kk ∧ ∃ B F q od ws, ToldS X.K W' Eh tl G (forL f (l d) x0) R Gb Gs D σ H B F ∧ v = .ref q ∧ H q = some (.frz od (.dK ws)) ∧ Pd T (fun a x => Bv.r a F x) d ws ∧ ∃ ms, SlOk B G F H σ ms ∧ ∀ i, q ∉ ms i) := by
  obtain ⟨ti, hpi, hti⟩ := hi
  refine PS.weak (ps_for hp hc hpi hg (pss_ex (α := {W' // Cok X W' kk} × (s × α)) (t := fun y => tFS X.K y.1.1 Eh tl' (G2 y.2) (f y.2.1 y.2.2) R Gs Gs) fun y => hb y.1.1 y.1.2 y.2.1 y.2.2) hs) fun D σ H ⟨W', C', B, F, q, od, ws, T0, ev, hq, pd, ms, z, hn⟩ => ?_
  refine hti B tl F σ H _ q od ws T0.st ev hq fun F1 H1 g1 => ?_
  have z1 := z.grow g1
  have st1 := T0.st.grow g1
  have hX : ∀ x ∈ ownAt G ms, B.H0 x = none ∨ x ∈ B.X0 := fun x hx => by
    obtain ⟨i, sl, e, o, h⟩ := mem_ownAt hx
    exact z.own i sl e o x h
  have hqX : q ∉ ownAt G ms := fun hx => by
    obtain ⟨i, sl, e, o, h⟩ := mem_ownAt hx
    exact hn i h
  have stB : Stt ⟨B.Hd, ownAt G ms, F1, H1, σ⟩ tl' G F1 H1 σ := ⟨(Gr.refl g1.fh).x _, fun a o ha => ⟨st1.yh a o ha, fun hx => by
    obtain ⟨i, sl, e, o', h⟩ := mem_ownAt hx
    have := st1.frs z1 e o' a h
    rw [show B.Hd a = some o from ha] at this
    cases this⟩, fun _ _ => rfl, rfl, st1.len, ms, ⟨z1.has, z1.non, z1.mem, fun j t e ho x hx => .inr (ownAt_mem e ho hx), z1.sep⟩⟩
  have st2 := hG _ _ _ _ _ stB
  have T1 : ToldS X.K W' Eh tl G (forL f (l d) x0) R Gb Gs D σ H1 B F1 := ⟨st1, T0.ne, T0.ret, T0.nx, T0.bk, T0.ct, T0.er⟩
  have lc1 := T1.lc hX ht
  have hlen : (l d).length = ws.length := (hJ.len d).trans pd.len
  have stand : ∀ x F' H' σ', Stt ⟨B.Hd, ownAt G ms, F1, H1, σ⟩ tl' (Gs x) F' H' σ' → H' q = some (.frz od (.dK ws)) ∧ Pd T (fun a x => Bv.r a F' x) d ws := fun x F' H' σ' st => ⟨st.g.h q _ hqX (g1.h _ _ hq), pd.imp fun _ _ h => Bv.st (Bv.st h g1.f) st.g.f⟩
  generalize (⟨B.Hd, ownAt G ms, F1, H1, σ⟩ : Bs) = B' at st2 lc1 stand
  refine ⟨fun i m σ H => m = (l d).length - i ∧ i ≤ (l d).length ∧ ∃ F x, Stt B' tl' (Gs x) F H σ ∧ Lc X.K W' Eh tl' (forL (b := b) f ((l d).drop i) x) R Gs D B', ⟨_, rfl, Nat.zero_le _, F1, x0, st2, lc1⟩, ?_⟩
  rintro i m σ H ⟨rfl, hi, F, x, st, lc⟩
  obtain ⟨hq2, pd2⟩ := stand x F H σ st
  by_cases hlt : i < (l d).length
  · refine .inr ⟨hJ.go q od ws i H hq2 (by omega), fun σ' H' => ∃ F y, Stt B' tl' (Gs y) F H' σ' ∧ Lc X.K W' Eh tl' (forL (b := b) f ((l d).drop (i + 1)) y) R Gs D B', fun σ' H' h => ⟨_, by omega, rfl, hlt, h⟩, fun u H' yl => ?_⟩
    obtain ⟨a, F', h1, g2, h3⟩ := hJ.yld q od ws i F H u H' d st.fh pd2 yl
    obtain ⟨zz, B3, F3, q1, q2, q3⟩ := for_turn (G2 := G2) h1 (fun y σ' F' H' st' lc' => (⟨F', y, st', lc'⟩ : ∃ F y, Stt B' tl' (Gs y) F H' σ' ∧ Lc X.K W' Eh tl' (forL (b := b) f ((l d).drop (i + 1)) y) R Gs D B')) (st.grow g2) lc h3
    exact ⟨zz, B3, F3, q1, q2, fun σ' h => by
      obtain ⟨y, hy⟩ := q3 σ' h
      exact ⟨(⟨W', C'⟩, y), hy⟩⟩
  · refine .inl ⟨hJ.stop q od ws i H hq2 (by omega), ?_⟩
    have e : (l d).drop i = [] := List.drop_eq_nil_of_le (by omega)
    rw [e] at lc
    exact lc.nx x rfl σ F H st
theorem ps_forD {ei : Expr} {pos : Pos} {tg : Expr} {body : List Stmt} {G : Gm} {kk : Nat} {G2 : s × α → Gm} {x0 : s} {Gb : b → Gm} (j : Nat) (C : Cok X W kk) (hJ : DIt T Bv A l J) (hd : DSl T Bv sl d) (hi : DPi X G tg ei v J) (hGj : G[j]? = some (some (pn v sl))) (hG : Imp G (Gs x0))
    (hg : FG X tl' (fun z : s × α => Gs z.1) tg A (fun z => z.2) G2) (hb : ∀ W', Cok X W' kk → ∀ x a, FS X W' Eh tl' (G2 (x, a)) body (f x a) R Gs Gs) (ht : ∀ i ∈ tl', i ∈ tl := by decide) (hs : ∀ x, foldedSetIterable ei X.env x = pure x := by intro _; rfl) :
    PS X (.For tg ei body [] pos) (tFS X.K W Eh tl G (forL f (l d) x0) R Gb Gs) := by
  have core := ps_forDc (b := b) (pos := pos) (Gb := Gb) j hJ hd hi hGj hG hg hb ht hs C.hp C.calm
  refine PS.weak (ps_or core (ps_lockX core)) fun D σ H ⟨B, F, T0⟩ => ?_
  obtain ⟨ms, z⟩ := T0.st.sl
  obtain ⟨q, ws, ev, hrd, pd, hn⟩ := hd.sep T0.st z hGj
  rcases hrd with hq | ⟨od, hq⟩
  · refine .inr ⟨q, .dK ws, hq, trivial, fun od hnf => ?_⟩
    have hu : Dly (.dK ws) := trivial
    refine ⟨lkW W q od (.dK ws), C.lock hnf, ⟨lkH q od (.dK ws) B.Hd, ownAt G ms, lkH q od (.dK ws) F, lkH q od (.dK ws) H, σ⟩, lkH q od (.dK ws) F, q, od, ws, ?_, ev, upd_same, ?_, ms, ?_⟩
    · rw [← lk_upd (by rw [hq]; exact fun w => nomatch w)]
      have un : ∀ {G' : Gm} {F' H' : Hp} {σ' : St}, Stt ⟨lkH q od (.dK ws) B.Hd, ownAt G ms, lkH q od (.dK ws) F, lkH q od (.dK ws) H, σ⟩ tl G' F' H' σ' → H' q = some (.frz od (.dK ws)) ∧ Stt B tl G' (ulH q (.dK ws) F') (upd H' q (.dK ws)) σ' := fun st' => T0.st.unlock z hu hq hn (fun _ h => h) st'
      exact ⟨T0.st.lock z hu hq hn, T0.ne, fun r e v σ' F' H' st' => ⟨(un st').1, T0.ret r e v σ' _ _ (un st').2⟩, fun x e σ' F' H' st' => ⟨(un st').1, T0.nx x e σ' _ _ (un st').2⟩, fun x e σ' F' H' st' => ⟨(un st').1, T0.bk x e σ' _ _ (un st').2⟩, fun x e σ' F' H' st' => ⟨(un st').1, T0.ct x e σ' _ _ (un st').2⟩,
        fun e er σ' F' H' st' => ⟨(un st').1, T0.er e er σ' _ _ (un st').2⟩⟩
    · refine pd.imp fun a x h => Bv.sx h (lk_xs hu fun o ho => ?_)
      have := T0.st.fh q o ho
      rw [hq] at this
      exact (Option.some.inj this).symm
    · rw [← lk_upd (by rw [hq]; exact fun w => nomatch w)]
      obtain ⟨z1⟩ : Nonempty (SlOk ⟨lkH q od (.dK ws) B.Hd, ownAt G ms, lkH q od (.dK ws) F, lkH q od (.dK ws) H, σ⟩ G (lkH q od (.dK ws) F) (lkH q od (.dK ws) H) σ ms) := by
        have hF : ∀ o, F q = some o → o = .dK ws := fun o h => by
          have := T0.st.fh q o h
          rw [hq] at this
          exact (Option.some.inj this).symm
        have hY : ∀ o, B.Hd q = some o → o = .dK ws := fun o h => by
          have := T0.st.yh q o h
          rw [hq] at this
          exact (Option.some.inj this).symm
        exact ⟨⟨fun i s e => by
          obtain ⟨v, h1, h2⟩ := z.has i s e
          exact ⟨v, h1, s.st h2 (lk_xs hu hY) (lk_xs hu hF) fun x hx o ho => by
            rw [lk_ne (fun w => hn i (by rw [← w]; exact hx))]; exact ho⟩, z.non, fun i x hx => by
          obtain ⟨h1, h2⟩ := z.mem i x hx
          exact ⟨lk_none h1, lk_nt h2⟩, fun j t e ho x hx => .inr (ownAt_mem e ho hx), z.sep⟩⟩
      exact ⟨z1, hn⟩
  · exact .inl ⟨W, C, B, F, q, od, ws, T0, ev, hq, pd, ms, z, hn⟩
end
end LK
namespace LK
open PySem L2
def YF (s : Sl) : Prop := ∀ Y Y' F H v ms, s.r Y F H v ms → s.r Y' F H v ms
inductive Bk0 : Gm → Gm → Gm → Prop where
  | nil : Bk0 [] [] []
  | skip {x y : Option Sl} {G G1 G2 : Gm} (t : Bk0 G G1 G2) : Bk0 (x :: G) (y :: G1) (none :: G2)
  | yf {x : Option Sl} {s : Sl} {G G1 G2 : Gm} (h : YF s) (t : Bk0 G G1 G2) : Bk0 (x :: G) (some s :: G1) (some s :: G2)
  | same {α : Type} {w : V} {T : Th α} {a : α} {G G1 G2 : Gm} (t : Bk0 G G1 G2) : Bk0 (some (pn w (bw T a)) :: G) (some (pn w (bw T a)) :: G1) (some (pn w (bw T a)) :: G2)
inductive Bk1 (s0 : Sl) : Nat → Gm → Gm → Gm → Prop where
  | back {y : Option Sl} {G G1 G2 : Gm} (t : Bk0 G G1 G2) : Bk1 s0 0 (some s0 :: G) (y :: G1) (some s0 :: G2)
  | skip {j : Nat} {x y : Option Sl} {G G1 G2 : Gm} (t : Bk1 s0 j G G1 G2) : Bk1 s0 (j + 1) (x :: G) (y :: G1) (none :: G2)
  | yf {j : Nat} {x : Option Sl} {s : Sl} {G G1 G2 : Gm} (h : YF s) (t : Bk1 s0 j G G1 G2) : Bk1 s0 (j + 1) (x :: G) (some s :: G1) (some s :: G2)
  | same {j : Nat} {α : Type} {w : V} {T : Th α} {a : α} {G G1 G2 : Gm} (t : Bk1 s0 j G G1 G2) : Bk1 s0 (j + 1) (some (pn w (bw T a)) :: G) (some (pn w (bw T a)) :: G1) (some (pn w (bw T a)) :: G2)
def BkAt (G G1 : Gm) (i : Nat) (s : Sl) : Prop := G1[i]? = some (some s) ∧ (YF s ∨ ∃ (α : Type) (w : V) (T : Th α) (a : α), s = pn w (bw T a) ∧ G[i]? = some (some s))
theorem BkAt.up {x y : Option Sl} {G G1 : Gm} {i : Nat} {s : Sl} (h : BkAt G G1 i s) : BkAt (x :: G) (y :: G1) (i + 1) s := ⟨by simpa using h.1, h.2.imp id fun ⟨α, w, T, a, e, q⟩ => ⟨α, w, T, a, e, by simpa using q⟩⟩
theorem Bk0.at_ {G G1 G2 : Gm} (h : Bk0 G G1 G2) : G1.length = G2.length ∧ ∀ i s, G2[i]? = some (some s) → BkAt G G1 i s := by
  induction h with
  | nil => exact ⟨rfl, fun i s e => by simp at e⟩
  | skip _ ih =>
    refine ⟨congrArg (· + 1) ih.1, fun i s e => ?_⟩
    cases i with
    | zero => simp at e
    | succ i => exact (ih.2 i s (by simpa using e)).up
  | yf h _ ih =>
    refine ⟨congrArg (· + 1) ih.1, fun i s e => ?_⟩
    cases i with
    | zero =>
      simp at e
      subst e
      exact ⟨rfl, .inl h⟩
    | succ i => exact (ih.2 i s (by simpa using e)).up
  | same _ ih =>
    refine ⟨congrArg (· + 1) ih.1, fun i s e => ?_⟩
    cases i with
    | zero =>
      simp at e
      subst e
      exact ⟨rfl, .inr ⟨_, _, _, _, rfl, rfl⟩⟩
    | succ i => exact (ih.2 i s (by simpa using e)).up
theorem Bk1.at_ {s0 : Sl} {j : Nat} {G G1 G2 : Gm} (h : Bk1 s0 j G G1 G2) : G1.length = G2.length ∧ G2[j]? = some (some s0) ∧ ∀ i s, G2[i]? = some (some s) → i ≠ j → BkAt G G1 i s := by
  induction h with
  | back t =>
    refine ⟨congrArg (· + 1) t.at_.1, rfl, fun i s e h => ?_⟩
    cases i with
    | zero => exact absurd rfl h
    | succ i => exact (t.at_.2 i s (by simpa using e)).up
  | skip _ ih =>
    refine ⟨congrArg (· + 1) ih.1, by simpa using ih.2.1, fun i s e h => ?_⟩
    cases i with
    | zero => simp at e
    | succ i => exact (ih.2.2 i s (by simpa using e) (fun q => h (by rw [q]))).up
  | yf h _ ih =>
    refine ⟨congrArg (· + 1) ih.1, by simpa using ih.2.1, fun i s e q => ?_⟩
    cases i with
    | zero =>
      simp at e
      subst e
      exact ⟨rfl, .inl h⟩
    | succ i => exact (ih.2.2 i s (by simpa using e) (fun z => q (by rw [z]))).up
  | same _ ih =>
    refine ⟨congrArg (· + 1) ih.1, by simpa using ih.2.1, fun i s e q => ?_⟩
    cases i with
    | zero =>
      simp at e
      subst e
      exact ⟨rfl, .inr ⟨_, _, _, _, rfl, rfl⟩⟩
    | succ i => exact (ih.2.2 i s (by simpa using e) (fun z => q (by rw [z]))).up
theorem Bk0.none : ∀ {G G1 : Gm} {n : Nat}, G.length = n → G1.length = n → Bk0 G G1 (List.replicate n none)
  | [], [], n, e, _ => by subst e; exact .nil
  | [], _ :: _, n, e, e1 => by subst e; simp at e1
  | _ :: _, [], n, e, e1 => by subst e; simp at e1
  | x :: G, y :: G1, n, e, e1 => by
    subst e
    exact .skip (Bk0.none rfl (by simpa using e1))
def Bk (s0 : Sl) (j : Nat) (G G1 G2 : Gm) : Prop := Bk0 G G1 G2 ∨ Bk1 s0 j G G1 G2
section
variable {B : Bs} {tl : List Nat} {G G1 G2 : Gm} {F H F' H' : Hp} {σ σ' : St} {α : Type} {T : Th α} {a : α} {v : V} {j : Nat}
def Hdj (Y F H : Hp) (m : List Addr) : Hp := fun x => if x ∈ m then H x else (match F x with
  | some o => some o
  | none => Y x)
theorem Hdj_cases {Y F H : Hp} {m : List Addr} {x : Addr} {o : HO} (h : Hdj Y F H m x = some o) : (x ∈ m ∧ H x = some o) ∨ (x ∉ m ∧ (F x = some o ∨ Y x = some o)) := by
  have h : (if x ∈ m then H x else (match F x with
    | some o => some o
    | none => Y x)) = some o := h
  by_cases e : x ∈ m
  · rw [if_pos e] at h; exact .inl ⟨e, h⟩
  · rw [if_neg e] at h
    cases w : F x with
    | none => rw [w] at h; exact .inr ⟨e, .inr h⟩
    | some o' => rw [w] at h; exact .inr ⟨e, .inl h⟩
theorem SlOk.own_of {B : Bs} {G : Gm} {F H : Hp} {σ : St} {ms : Nat → List Addr} (z : SlOk B G F H σ ms) {i : Nat} {x : Addr} (h : x ∈ ms i) : ∃ s, G[i]? = some (some s) ∧ s.own = true := by
  cases w : G[i]? with
  | none => rw [z.non i (fun s e => by rw [w] at e; cases e)] at h; cases h
  | some o =>
    cases o with
    | none => rw [z.non i (fun s e => by rw [w] at e; cases e)] at h; cases h
    | some s =>
      cases o : s.own with
      | true => exact ⟨s, rfl, o⟩
      | false =>
        obtain ⟨v, _, q⟩ := z.has i s w
        rw [s.no o q] at h
        cases h
theorem Stt.lend {ms : Nat → List Addr} (st : Stt B tl G F H σ) (z : SlOk B G F H σ ms) (hG : G[j]? = some (some (pn v (ob T a)))) : Stt ⟨Hdj B.Hd F H (ms j), ownAt (G.set j none) ms, F, H, σ⟩ tl (G.set j (some (pn v (bw T a)))) F H σ := by
  have hl : j < G.length := (List.getElem?_eq_some_iff.mp hG).1
  have hY : ∀ x ∈ ms j, B.Hd x = none := st.frs z hG rfl
  have xH : Ex (Hdj B.Hd F H (ms j)) H := fun x o h => by
    rcases Hdj_cases h with ⟨_, h⟩ | ⟨_, h | h⟩
    · exact h
    · exact st.fh x o h
    · exact st.yh x o h
  have xY : Ex B.Hd (Hdj B.Hd F H (ms j)) := fun x o h => by
    have e : x ∉ ms j := fun e => by rw [hY x e] at h; cases h
    show (if x ∈ ms j then H x else (match F x with
      | some o => some o
      | none => B.Hd x)) = some o
    rw [if_neg e]
    cases w : F x with
    | none => exact h
    | some o' =>
      have h1 := st.fh x o' w
      have h2 := st.yh x o h
      rw [h1] at h2
      exact h2
  have xF : Ex F (Hdj B.Hd F H (ms j)) := fun x o h => by
    have e : x ∉ ms j := fun e => by rw [(z.mem j x e).1] at h; cases h
    show (if x ∈ ms j then H x else (match F x with
      | some o => some o
      | none => B.Hd x)) = some o
    rw [if_neg e, h]
  have gne : ∀ {i : Nat} {s : Sl}, i ≠ j → (G.set j (some (pn v (bw T a))))[i]? = some (some s) → G[i]? = some (some s) := fun {i s} h e => by
    rw [List.getElem?_set_ne (Ne.symm h)] at e; exact e
  have gj : ∀ {s : Sl}, (G.set j (some (pn v (bw T a))))[j]? = some (some s) → s = pn v (bw T a) := fun {s} e => by
    rw [List.getElem?_set_self hl] at e; cases e; rfl
  let nm : Nat → List Addr := fun i => if i = j then [] else ms i
  have nmj : nm j = [] := if_pos rfl
  have nmn : ∀ {i}, i ≠ j → nm i = ms i := fun h => if_neg h
  refine ⟨(Gr.refl st.fh).x _, fun x o ha => ⟨xH x o ha, fun hx => ?_⟩, fun _ _ => rfl, rfl, by rw [List.length_set]; exact st.len, nm, ⟨fun i s e => ?_, fun i e => ?_, fun i x hx => ?_, fun i s e o x hx => ?_, fun i s e o x hx i' hi hm => ?_⟩⟩
  · obtain ⟨i, sl, e, o', h⟩ := mem_ownAt hx
    have hij : i ≠ j := fun q => by subst q; rw [List.getElem?_set_self hl] at e; cases e
    rw [List.getElem?_set_ne (Ne.symm hij)] at e
    rcases Hdj_cases ha with ⟨q, _⟩ | ⟨_, q | q⟩
    · exact z.sep i sl e o' x h j (Ne.symm hij) q
    · rw [(z.mem i x h).1] at q; cases q
    · rw [st.frs z e o' x h] at q; cases q
  · by_cases h : i = j
    · subst h
      cases gj e
      obtain ⟨w, h1, rfl, h2⟩ := z.has i _ hG
      exact ⟨w, h1, rfl, T.ord h2 (fun x hx o ho => by show (if x ∈ ms i then H x else _) = some o; rw [if_pos hx]; exact ho) xF, nmj⟩
    · obtain ⟨w, h1, h2⟩ := z.has i s (gne h e)
      refine ⟨w, h1, ?_⟩
      rw [nmn h]
      exact s.st h2 xY.xs (XS.refl _) fun _ _ _ ho => ho
  · by_cases h : i = j
    · subst h
      exact nmj
    · rw [nmn h]
      exact z.non i fun s q => e s (by rw [List.getElem?_set_ne (Ne.symm h)]; exact q)
  · by_cases h : i = j
    · subst h
      rw [nmj] at hx; cases hx
    · rw [nmn h] at hx
      exact z.mem i x hx
  · by_cases h : i = j
    · subst h
      rw [nmj] at hx; cases hx
    · rw [nmn h] at hx
      exact .inr (ownAt_mem (G := G.set j none) (by rw [List.getElem?_set_ne (Ne.symm h)]; exact gne h e) o hx)
  · by_cases h : i = j
    · subst h
      rw [nmj] at hx; cases hx
    · rw [nmn h] at hx
      by_cases h' : i' = j
      · subst h'
        rw [nmj] at hm; cases hm
      · rw [nmn h'] at hm
        exact z.sep i s (gne h e) o x hx i' hi hm
theorem Stt.unlend {ms : Nat → List Addr} (st : Stt B tl G F H σ) (z : SlOk B G F H σ ms) (hG : G[j]? = some (some (pn v (ob T a)))) (hbj : Bk0 G G1 G2 ∨ (Bk1 (pn v (ob T a)) j G G1 G2 ∧ (j < σ.length → j ∉ tl ∨ ∃ s', G1[j]? = some (some (pn v s')))))
    (st' : Stt ⟨Hdj B.Hd F H (ms j), ownAt (G.set j none) ms, F, H, σ⟩ tl G1 F' H' σ') : Stt B tl G2 F' H' σ' := by
  have hb : Bk (pn v (ob T a)) j G G1 G2 := hbj.imp id (·.1)
  have hl : j < G.length := (List.getElem?_eq_some_iff.mp hG).1
  have hX : ∀ x ∈ ownAt (G.set j none) ms, (B.H0 x = none ∨ x ∈ B.X0) ∧ x ∉ ms j := fun x hx => by
    obtain ⟨i, sl, e, o', h⟩ := mem_ownAt hx
    have hij : i ≠ j := fun q => by subst q; rw [List.getElem?_set_self hl] at e; cases e
    rw [List.getElem?_set_ne (Ne.symm hij)] at e
    exact ⟨z.own i sl e o' x h, fun q => z.sep i sl e o' x h j (Ne.symm hij) q⟩
  have g' : GrX (ownAt (G.set j none) ms) F H F' H' := st'.g
  obtain ⟨ms', z'⟩ := st'.sl
  have hlen : G1.length = G2.length := by
    rcases hb with hb | hb
    · exact hb.at_.1
    · exact hb.at_.1
  have hat : ∀ i s, G2[i]? = some (some s) → (i = j ∧ s = pn v (ob T a)) ∨ BkAt G G1 i s := fun i s e => by
    rcases hb with hb | hb
    · exact .inr (hb.at_.2 i s e)
    · by_cases h : i = j
      · subst h
        rw [hb.at_.2.1] at e
        cases e
        exact .inl ⟨rfl, rfl⟩
      · exact .inr (hb.at_.2.2 i s e h)
  have hold : ∀ x ∈ ms j, H' x = H x ∧ F' x = none := fun x hx => by
    obtain ⟨h1, h2⟩ := z.mem j x hx
    refine ⟨?_, g'.no x h1 h2⟩
    cases w : H x with
    | none => exact absurd w h2.ne
    | some o => exact g'.h x o (fun q => (hX x q).2 hx) w
  have new : ∀ i x, x ∈ ms' i → x ∉ ms j := fun i x hx q => by
    obtain ⟨s, e, o⟩ := z'.own_of hx
    rcases z'.own i s e o x hx with h | h
    · exact (z.mem j x q).2.ne h
    · exact (hX x h).2 q
  by_cases hback : G2[j]? = some (some (pn v (ob T a))) ∧ ∀ i s, G2[i]? = some (some s) → i ≠ j → BkAt G G1 i s
  · let nm : Nat → List Addr := fun i => if i = j then ms j else (match G2[i]? with
      | some (some _) => ms' i
      | _ => [])
    have nmj : nm j = ms j := if_pos rfl
    have nmn : ∀ {i s}, i ≠ j → G2[i]? = some (some s) → nm i = ms' i := fun {i s} h e => by
      show (if i = j then ms j else _) = _
      rw [if_neg h, e]
    have nms : ∀ {i x}, i ≠ j → x ∈ nm i → x ∈ ms' i ∧ ∃ s, G2[i]? = some (some s) := fun {i x} h hx => by
      have hx : x ∈ (if i = j then ms j else (match G2[i]? with
        | some (some _) => ms' i
        | _ => [])) := hx
      rw [if_neg h] at hx
      split at hx
      · exact ⟨hx, _, by assumption⟩
      · cases hx
    refine ⟨st.g.into g' fun x hx => (hX x hx).1, st.bh, fun i hi => (st'.fr i hi).trans (st.fr i hi), st'.ls.trans st.ls, by rw [← hlen]; exact st'.len, nm, ⟨fun i s e => ?_, fun i e => ?_, fun i x hx => ?_, fun i s e o x hx => ?_, fun i s e o x hx i' hi hm => ?_⟩⟩
    · by_cases h : i = j
      · subst h
        rw [hback.1] at e
        cases e
        obtain ⟨w, h1, rfl, h2⟩ := z.has i _ hG
        refine ⟨w, fun hi => ?_, rfl, ?_⟩
        · have hi' : i < σ.length := by rw [← show σ'.length = σ.length from st'.ls]; exact hi
          have hjj : i ∉ tl ∨ ∃ s', G1[i]? = some (some (pn w s')) := by
            rcases hbj with hb | hb
            · exact .inr ⟨_, (hb.at_.2 i _ hback.1).1⟩
            · exact hb.2 hi'
          rcases hjj with q | ⟨s', q⟩
          · exact (st'.fr i q).trans (h1 hi')
          · obtain ⟨w2, k1, k2, _⟩ := z'.has i _ q
            rw [← k2]
            exact k1 hi
        · rw [nmj]
          exact T.ost h2 g'.f.xs fun x hx o ho => by rw [(hold x hx).1]; exact ho
      · obtain ⟨e1, hs⟩ := hback.2 i s e h
        obtain ⟨w, h1, h2⟩ := z'.has i s e1
        refine ⟨w, h1, ?_⟩
        rw [nmn h e]
        rcases hs with hs | ⟨α', w', T', a', rfl, e0⟩
        · exact hs _ _ _ _ _ _ h2
        · obtain ⟨rfl, _, hm⟩ := h2
          obtain ⟨w0, _, rfl, h0, _⟩ := z.has i _ e0
          exact ⟨rfl, T'.rst h0 g'.f.xs (XS.refl _), hm⟩
    · have h : i ≠ j := fun q => by subst q; exact e _ hback.1
      show (if i = j then ms j else _) = []
      rw [if_neg h]
      split
      · rename_i s q
        exact absurd q (e s)
      · rfl
    · by_cases h : i = j
      · subst h
        rw [nmj] at hx
        obtain ⟨h1, h2⟩ := hold x hx
        obtain ⟨o, q1, q2⟩ := (z.mem _ x hx).2
        exact ⟨h2, o, by rw [h1]; exact q1, q2⟩
      · exact z'.mem i x (nms h hx).1
    · by_cases h : i = j
      · subst h
        rw [nmj] at hx
        exact z.own _ _ hG rfl x hx
      · obtain ⟨hx, _⟩ := nms h hx
        obtain ⟨e1, _⟩ := hback.2 i s e h
        rcases z'.own i s e1 o x hx with q | q
        · exact .inl (Kn.free st.g.st q)
        · exact (hX x q).1
    · by_cases h : i = j
      · subst h
        rw [nmj] at hx
        exact new i' x (nms hi hm).1 hx
      · obtain ⟨hx1, _⟩ := nms h hx
        obtain ⟨e1, _⟩ := hback.2 i s e h
        by_cases h' : i' = j
        · subst h'
          rw [nmj] at hm
          exact new i x hx1 hm
        · exact z'.sep i s e1 o x hx1 i' hi (nms h' hm).1
  · have hall : ∀ i s, G2[i]? = some (some s) → BkAt G G1 i s := by
      rcases hb with hb | hb
      · exact hb.at_.2
      · exact absurd hb.at_.2 hback
    let nm : Nat → List Addr := fun i => match G2[i]? with
      | some (some _) => ms' i
      | _ => []
    have nmn : ∀ {i s}, G2[i]? = some (some s) → nm i = ms' i := fun {i s} e => by
      show (match G2[i]? with
        | some (some _) => ms' i
        | _ => []) = _
      rw [e]
    have nms : ∀ {i x}, x ∈ nm i → x ∈ ms' i ∧ ∃ s, G2[i]? = some (some s) := fun {i x} hx => by
      have hx : x ∈ (match G2[i]? with
        | some (some _) => ms' i
        | _ => []) := hx
      split at hx
      · exact ⟨hx, _, by assumption⟩
      · cases hx
    refine ⟨st.g.into g' fun x hx => (hX x hx).1, st.bh, fun i hi => (st'.fr i hi).trans (st.fr i hi), st'.ls.trans st.ls, by rw [← hlen]; exact st'.len, nm, ⟨fun i s e => ?_, fun i e => ?_, fun i x hx => z'.mem i x (nms hx).1, fun i s e o x hx => ?_, fun i s e o x hx i' hi hm => z'.sep i s (hall i s e).1 o x (nms hx).1 i' hi (nms hm).1⟩⟩
    · obtain ⟨e1, hs⟩ := hall i s e
      obtain ⟨w, h1, h2⟩ := z'.has i s e1
      refine ⟨w, h1, ?_⟩
      rw [nmn e]
      rcases hs with hs | ⟨α', w', T', a', rfl, e0⟩
      · exact hs _ _ _ _ _ _ h2
      · obtain ⟨rfl, _, hm⟩ := h2
        obtain ⟨w0, _, rfl, h0, _⟩ := z.has i _ e0
        exact ⟨rfl, T'.rst h0 g'.f.xs (XS.refl _), hm⟩
    · show (match G2[i]? with
        | some (some _) => ms' i
        | _ => []) = []
      split
      · rename_i s q
        exact absurd q (e s)
      · rfl
    · rcases z'.own i s (hall i s e).1 o x (nms hx).1 with q | q
      · exact .inl (Kn.free st.g.st q)
      · exact (hX x q).1
end
section
variable {ε : Type} {Eh Eh1 : EH ε} {X : Cx} {W : WX} {G : Gm} {tl : List Nat} {ρ b s : Type} {R R1 : ρ → V → Gm} {Gb Gb1 : b → Gm} {N N1 : s → Gm} {α : Type} {T : Th α} {a : α} {v : V}
theorem forL_nobk {ε α ρ b s : Type} {f : s → α → Mg ε (Fl ρ s s)} : ∀ (as : List α) (x : s) (y : b), forL (b := b) f as x ≠ M.ok (.bk y) ∧ forL (b := b) f as x ≠ M.ok (.ct y)
  | [], x, y => ⟨(fun z => nomatch z), (fun z => nomatch z)⟩
  | a :: r, x, y => by
    show Mg.bind (f x a) _ ≠ _ ∧ Mg.bind (f x a) _ ≠ _
    cases e : f x a with
    | none => exact ⟨(fun z => nomatch z), (fun z => nomatch z)⟩
    | some o =>
      cases o with
      | error e => exact ⟨(fun z => nomatch z), (fun z => nomatch z)⟩
      | ok o =>
        cases o with
        | ret v => exact ⟨(fun z => nomatch z), (fun z => nomatch z)⟩
        | bk z => exact ⟨(fun z => nomatch z), (fun z => nomatch z)⟩
        | nx z => exact forL_nobk r z y
        | ct z => exact forL_nobk r z y
theorem ps_lendP {st : Stmt} {m : Mg ε (Fl ρ b s)} (j : Nat) (hG : G[j]? = some (some (pn v (ob T a)))) (h : PS X st (tFS X.K W Eh1 tl (G.set j (some (pn v (bw T a)))) m R1 Gb1 N1)) (hc : ∀ e, Eh1.cls e = Eh.cls e)
    (hR : ∀ r w, Bk0 G (R1 r w) (R r w)) (nb : ∀ x, m ≠ M.ok (.bk x) ∧ m ≠ M.ok (.ct x)) (hN : ∀ x, Bk1 (pn v (ob T a)) j G (N1 x) (N x)) (hE : ∀ e, Bk0 G (Eh1.G e) (Eh.G e)) (hp : ∀ x, ∃ s', (N1 x)[j]? = some (some (pn v s'))) :
    PS X st (tFS X.K W Eh tl G m R Gb N) := ⟨fun pins s' σ H D I ⟨B, F, T0⟩ => h.run pins s' σ H D I (by
  obtain ⟨ms, z⟩ := T0.st.sl
  refine ⟨⟨Hdj B.Hd F H (ms j), ownAt (G.set j none) ms, F, H, σ⟩, F, T0.st.lend z hG, T0.ne, ?_, ?_, ?_, ?_, ?_⟩
  · exact fun r e w σ' F' H' st' => T0.ret r e w σ' F' H' (T0.st.unlend z hG (.inl (hR r w)) st')
  · exact fun x e σ' F' H' st' => T0.nx x e σ' F' H' (T0.st.unlend z hG (.inr ⟨hN x, fun _ => .inr (hp x)⟩) st')
  · exact fun x e => absurd e (nb x).1
  · exact fun x e => absurd e (nb x).2
  · intro e q σ' F' H' st'
    have := T0.er e q σ' F' H' (T0.st.unlend z hG (.inl (hE e)) st')
    rw [← hc e] at this
    exact this)⟩
end
section
variable {ε : Type} {Eh : EH ε} {X : Cx} {W : WX} {G : Gm} {tl : List Nat} {ρ b s : Type} {R : ρ → V → Gm} {Gb : b → Gm} {N : s → Gm} {α β γ : Type}
theorem ToldS.tellX {K : PySem.W.Frag} {ma : Mg ε α} {f : α → Mg ε (Fl ρ b s)} {D : Ends} {σ : St} {H : Hp} {B : Bs} {F : Hp} {N1 : α → V → Gm} {P : α → V → Hp → Hp → Prop} (T : ToldS K W Eh tl G (ma.bind f) R Gb N D σ H B F)
    (k : ∀ a v F1 H1, ma = M.ok a → Ex F F1 → ToldS K W Eh tl (N1 a v) (f a) R Gb N D σ H1 B F1 → P a v F1 H1) : ToldX K W Eh tl G ma N1 P σ H B F := by
  refine ⟨T.st, ?_, fun a e v F1 H1 x st => k a v F1 H1 e x (T.rest e st), ?_⟩
  · intro e
    exact T.ne (by rw [e]; rfl)
  · rintro e rfl F1 H1 st
    exact T.er e rfl σ F1 H1 st
theorem fx_expr {e : Expr} {pos : Pos} {rest : List Stmt} {m : Mg ε α} {A : α → Hp → V → Prop} {N1 : α → V → Gm} {f : α → Mg ε (Fl ρ b s)} (he : FX X W Eh tl G e m A N1) (hr : ∀ a v, FS X W Eh tl (N1 a v) rest (f a) R Gb N) (hs : swapsWith e none pos.line X.env = pure false := by rfl) :
    FS X W Eh tl G (.Expr e pos :: rest) (m.bind f) R Gb N := PSs.weak (pss_cons (ps_expr he hs) (pss_ex fun z : α × V => hr z.1 z.2)) fun D σ H ⟨B, F, D1⟩ =>
  ⟨B, F, D1.tellX fun a v F1 H1 ea x D2 r => ⟨(a, v), B, F1, D2⟩⟩
theorem fx_set (i : Nat) {x : Str} {e : Expr} {pos pos' : Pos} {rest : List Stmt} {m : Mg ε α} {A : Rf α} {N1 : α → Gm} {f : α → Mg ε (Fl ρ b s)} (nd : X.N.Nodup) (he : FX X W Eh tl G e m A.r (fun a _ => N1 a)) (hr : ∀ a, FS X W Eh tl ((N1 a).set i (some (sv A a))) rest (f a) R Gb N)
    (hl : ∀ a, i < (N1 a).length := by exact fun _ => Nat.le_of_ble_eq_true rfl) (hi : X.N[i]? = some x := by rfl) (hm : i ∈ tl := by decide) (hx : Loc X.env.scope x := by first | exact Or.inl rfl | exact Or.inr rfl) (hs : swapsWith e (some (.Name x pos')) pos.line X.env = pure false := by rfl) (hf : X.fn x = true ∨ X.env.scope.names.lookup x = some .local := by first | exact .inl rfl | exact .inr rfl | assumption) :
    FS X W Eh tl G (.Assign [.Name x pos'] e pos :: rest) (m.bind f) R Gb N := PSs.weak (pss_cons (ps_set nd hi hx he hs hf) (pss_ex hr)) fun D σ H ⟨B, F, D1⟩ =>
  ⟨B, F, D1.tellX (N1 := fun a _ => N1 a) fun a v F1 H1 ea x D2 r => ⟨a, B, F1, D2.rest (ma := (M.ok a : Mg ε α)) (f := f) (p := fun e => e) rfl (D2.st.set (T := sv A a) (mv := []) (Gr.refl D2.st.fh) hm (hl a) ⟨r, rfl⟩ fun x hx => nomatch hx)⟩⟩
end
end LK
namespace LK
open PySem L2
theorem Stt.shift {B : Bs} {tl : List Nat} {G : Gm} {F H : Hp} {σ : St} {i g : Nat} {v : V} {s : Sl} (st : Stt B tl G F H σ) (hi : G[i]? = some (some (pn v s))) (hn : σ.length ≤ g) (hgl : g < G.length) (hne : i ≠ g) : Stt B tl ((G.set g (some (pn v s))).set i none) F H σ := by
  obtain ⟨ms, z⟩ := st.sl
  have hil : i < G.length := (List.getElem?_eq_some_iff.mp hi).1
  have get : ∀ {k t}, ((G.set g (some (pn v s))).set i none)[k]? = some (some t) → k ≠ i ∧ ((k = g ∧ t = pn v s) ∨ (k ≠ g ∧ G[k]? = some (some t))) := fun {k t} e => by
    by_cases h : k = i
    · subst h
      rw [List.getElem?_set_self (by rw [List.length_set]; exact hil)] at e
      cases e
    · rw [List.getElem?_set_ne (Ne.symm h)] at e
      by_cases h' : k = g
      · subst h'
        rw [List.getElem?_set_self hgl] at e
        cases e
        exact ⟨h, .inl ⟨rfl, rfl⟩⟩
      · rw [List.getElem?_set_ne (Ne.symm h')] at e
        exact ⟨h, .inr ⟨h', e⟩⟩
  let nm : Nat → List Addr := fun k => if k = i then [] else if k = g then ms i else ms k
  have nmi : nm i = [] := if_pos rfl
  have nmg : nm g = ms i := by show (if g = i then [] else if g = g then ms i else ms g) = _; rw [if_neg (Ne.symm hne), if_pos rfl]
  have nmk : ∀ {k}, k ≠ i → k ≠ g → nm k = ms k := fun {k} h h' => by show (if k = i then [] else if k = g then ms i else ms k) = _; rw [if_neg h, if_neg h']
  refine ⟨st.g, st.bh, st.fr, st.ls, by rw [List.length_set, List.length_set]; exact st.len, nm, ⟨fun k t e => ?_, fun k e => ?_, fun k x hx => ?_, fun k t e o x hx => ?_, fun k t e o x hx k' hk' hm' => ?_⟩⟩
  · obtain ⟨h, ⟨rfl, rfl⟩ | ⟨h', e⟩⟩ := get e
    · obtain ⟨w, _, rfl, h2⟩ := z.has i _ hi
      refine ⟨w, fun hl => absurd hl (by omega), rfl, ?_⟩
      rw [nmg]
      exact h2
    · obtain ⟨w, h1, h2⟩ := z.has k t e
      refine ⟨w, h1, ?_⟩
      rw [nmk h h']
      exact h2
  · by_cases h : k = i
    · subst h
      exact nmi
    · by_cases h' : k = g
      · subst h'
        exact absurd (by rw [List.getElem?_set_ne (Ne.symm h), List.getElem?_set_self hgl]) (e (pn v s))
      · rw [nmk h h']
        exact z.non k fun t q => e t (by rw [List.getElem?_set_ne (Ne.symm h), List.getElem?_set_ne (Ne.symm h')]; exact q)
  · by_cases h : k = i
    · subst h
      rw [nmi] at hx; cases hx
    · by_cases h' : k = g
      · subst h'
        rw [nmg] at hx
        exact z.mem i x hx
      · rw [nmk h h'] at hx
        exact z.mem k x hx
  · obtain ⟨h, ⟨rfl, rfl⟩ | ⟨h', e⟩⟩ := get e
    · rw [nmg] at hx
      exact z.own i _ hi o x hx
    · rw [nmk h h'] at hx
      exact z.own k t e o x hx
  · have back : ∀ {k' x}, x ∈ nm k' → ∃ k0, x ∈ ms k0 ∧ ((k' = g ∧ k0 = i) ∨ (k' ≠ i ∧ k' ≠ g ∧ k0 = k')) := fun {k' x} hx => by
      by_cases h : k' = i
      · subst h
        rw [nmi] at hx; cases hx
      · by_cases h' : k' = g
        · subst h'
          rw [nmg] at hx
          exact ⟨i, hx, .inl ⟨rfl, rfl⟩⟩
        · rw [nmk h h'] at hx
          exact ⟨k', hx, .inr ⟨h, h', rfl⟩⟩
    obtain ⟨k0, h1, h2⟩ := back hx
    obtain ⟨k1, h3, h4⟩ := back hm'
    obtain ⟨hki, hk⟩ := get e
    have hG0 : G[k0]? = some (some t) := by
      rcases hk with ⟨rfl, rfl⟩ | ⟨h', e⟩
      · rcases h2 with ⟨_, rfl⟩ | ⟨_, q, _⟩
        · exact hi
        · exact absurd rfl q
      · rcases h2 with ⟨q, _⟩ | ⟨_, _, rfl⟩
        · exact absurd q h'
        · exact e
    refine z.sep k0 t hG0 o x h1 k1 (fun q => hk' ?_) h3
    rcases h2 with ⟨a1, a2⟩ | ⟨a1, a2, a3⟩ <;> rcases h4 with ⟨b1, b2⟩ | ⟨b1, b2, b3⟩ <;> omega
section
variable {ε : Type} {Eh : EH ε} {X : Cx} {W : WX} {G : Gm} {tl : List Nat} {ρ b s : Type} {R : ρ → V → Gm} {Gb : b → Gm} {N : s → Gm} {α : Type}
theorem fs_retM (i g : Nat) {e : Expr} {pos : Pos} {q : V} {sl : Sl} {r : ρ} {p : Er → ε} (h : FE X W G e (M.ok ()) (rV q)) (hG : G[i]? = some (some (pn q sl))) (hR : Imp ((G.set g (some (pn q sl))).set i none) (R r q)) (hg : X.N.length ≤ g := by exact Nat.le_of_ble_eq_true rfl) (hl : g < G.length := by exact Nat.le_of_ble_eq_true rfl) (hne : i ≠ g := by decide) (hp : Pay Eh G p := by exact pay0 rfl) :
    FS X W Eh tl G [.Return (some e) pos] (M.ok (Fl.ret (b := b) (s := s) r)) R Gb N := by
  refine ⟨fun pins s' σ H D I ⟨B, F, T'⟩ => (pss_one (ps_ret h)).run pins s' σ H D I ?_⟩
  have T1 : ToldS X.K W Eh tl G ((M.ok () : M Unit).bindP p fun _ => M.ok (Fl.ret (b := b) (s := s) r)) R Gb N D σ H B F := T'
  refine ⟨B, tl, F, T1.tellE hp fun a F1 H1 e g1 v rv => ?_⟩
  cases (show v = q from rv)
  exact T'.ret r rfl _ σ F1 H1 (hR _ _ _ _ _ ((T'.st.grow g1).shift hG (by rw [I.len]; exact hg) hl hne))
theorem fv_ret (g : Nat) {e : Expr} {pos : Pos} {p : Er → ε} {a : α} {A : Rl α} {T : α → Sl} {mk : α → ρ} (h : FE X W G e (M.ok a) A) (ht : Takes1 A T) (hR : ∀ a v, Imp (G.set g (some (pn v (T a)))) (R (mk a) v)) (hg : X.N.length ≤ g := by exact Nat.le_of_ble_eq_true rfl) (hl : g < G.length := by exact Nat.le_of_ble_eq_true rfl) (hp : Pay Eh G p := by exact pay0 rfl) :
    FS X W Eh tl G [.Return (some e) pos] (M.ok (Fl.ret (b := b) (s := s) (mk a))) R Gb N := fs_ret g h ht hR hg hl hp
theorem fv_ifend {c : Expr} {a d : List Stmt} {pos : Pos} {p : Er → ε} {x : Bool} {ma md : Mg ε (Fl ρ b s)} (hc : FT X W G c (M.ok x)) (ha : FS X W Eh tl G a ma R Gb N) (hd : FS X W Eh tl G d md R Gb N) (hp : Pay Eh G p := by exact pay0 rfl) : FS X W Eh tl G [.If c a d pos] (if x = true then ma else md) R Gb N := fs_ifend hc ha hd hp
theorem fv_if1 {c : Expr} {a rest : List Stmt} {st : Stmt} {pos : Pos} {p : Er → ε} {x : Bool} {ma mr : Mg ε (Fl ρ b s)} (hc : FT X W G c (M.ok x)) (ha : ∀ N' : s → Gm, FS X W Eh tl G a ma R Gb N') (hr : FS X W Eh tl G (st :: rest) mr R Gb N) (hp : Pay Eh G p := by exact pay0 rfl) :
    FS X W Eh tl G (.If c a [] pos :: st :: rest) (if x = true then ma else mr) R Gb N := fs_if1 hc ha hr hp
theorem pv_ifj {c : Expr} {a d : List Stmt} {pos : Pos} {p : Er → ε} {x : Bool} {ma md : Mg ε (Fl ρ b s)} (hc : FT X W G c (M.ok x)) (ha : FS X W Eh tl G a ma R Gb N) (hd : FS X W Eh tl G d md R Gb N) (hp : Pay Eh G p := by exact pay0 rfl) : PS X (.If c a d pos) (tFS X.K W Eh tl G (if x = true then ma else md) R Gb N) := ps_ifj hc ha hd hp
end
section
variable {ε : Type} {Eh : EH ε} {X : Cx} {W : WX} {tl tl' : List Nat} {ρ b s : Type} {R : ρ → V → Gm} {Gs : s → Gm} {α : Type} {A : Rf α} {f : s → α → Mg ε (Fl ρ s s)}
theorem pv_forF {γ : Type} {e : Expr} {pos : Pos} {tg : Expr} {body : List Stmt} {G : Gm} {kk : Nat} {p : Er → ε} {c : γ} {Rs : Rl γ} {l : γ → List α} {as : List α} {G2 : s × α → Gm} {x0 : s} {Gb : b → Gm} (C : Cok X W kk) (he : FE X W G e (M.ok c) Rs) (hS : Src X.K A Gs Rs l) (hG : Imp G (Gs x0)) (hg : FG X tl' (fun z : s × α => Gs z.1) tg A (fun z => z.2) G2)
    (hb : ∀ x a, FS X W Eh tl' (G2 (x, a)) body (f x a) R Gs Gs) (hl : l c = as := by rfl) (ht : ∀ i ∈ tl', i ∈ tl := by decide) (hs : ∀ x, foldedSetIterable e X.env x = pure x := by intro _; rfl) (hp : Pay Eh G p := by exact pay0 rfl) : PS X (.For tg e body [] pos) (tFS X.K W Eh tl G (forL f as x0) R Gb Gs) := by
  rw [← hl]
  exact ps_forF C he hS hG hg hb ht hs hp
theorem pv_forR {e : Expr} {p cpos pos : Pos} {tg : Expr} {body : List Stmt} {G : Gm} {kk : Nat} {pp : Er → ε} {n : Int} {f : s → Int → Mg ε (Fl ρ s s)} {G2 : s × Int → Gm} {x0 : s} {Gb : b → Gm} (C : Cok X W kk) (hm : X.mg "range" = none) (he : FE X W G e (M.ok n) fInt.up) (hG : Imp G (Gs x0)) (hg : FG X tl' (fun z : s × Int => Gs z.1) tg fInt (fun z => z.2) G2)
    (hb : ∀ x a, FS X W Eh tl' (G2 (x, a)) body (f x a) R Gs Gs) (ht : ∀ i ∈ tl', i ∈ tl := by decide) (hgl : Gl X "range" := by rfl) (hst : starEach [e] X.env = [(false, eval e X.env)] := by rfl) (hs : ∀ x, foldedSetIterable (.Call (.Name "range" p) [e] [] cpos) X.env x = pure x := by intro _; rfl) (hp : Pay Eh G pp := by exact pay0 rfl) :
    PS X (.For tg (.Call (.Name "range" p) [e] [] cpos) body [] pos) (tFS X.K W Eh tl G (M.need (-(2 ^ 62) ≤ n ∧ n < 2 ^ 62) (forL f (rngL n) x0)) R Gb Gs) := ps_forR C hm he hG hg hb ht hgl hst hs hp
theorem pv_forS {e : Expr} {pos : Pos} {tg : Expr} {body : List Stmt} {G : Gm} {kk : Nat} {p : Er → ε} {l : List Nat} {f : s → List Nat → Mg ε (Fl ρ s s)} {G2 : s × List Nat → Gm} {x0 : s} {Gb : b → Gm} (C : Cok X W kk) (he : FE X W G e (M.ok l) fTxt.up) (hG : Imp G (Gs x0)) (hg : FG X tl' (fun z : s × List Nat => Gs z.1) tg fTxt (fun z => z.2) G2)
    (hb : ∀ x a, FS X W Eh tl' (G2 (x, a)) body (f x a) R Gs Gs) (ht : ∀ i ∈ tl', i ∈ tl := by decide) (hs : ∀ x, foldedSetIterable e X.env x = pure x := by intro _; rfl) (hp : Pay Eh G p := by exact pay0 rfl) : PS X (.For tg e body [] pos) (tFS X.K W Eh tl G (forL f (signs l) x0) R Gb Gs) := ps_forS C he hG hg hb ht hs hp
end
end LK
namespace LK
open PySem L2
def Rf.on {α β : Type} (f : α → β) (A : Rf β) : Rf α := ⟨fun a F v => A.r (f a) F v, fun h x => A.sx h x⟩
theorem noS {G : Gm} {i : Nat} (h : (match G[i]? with
  | some (some _) => false
  | _ => true) = true) : ∀ t, G[i]? ≠ some (some t) := fun t e => by
  rw [e] at h
  cases h
section
variable {ε : Type} {Eh : EH ε} {X : Cx} {W : WX} {G : Gm} {tl : List Nat} {k : Nat} {α ε1 ρ β : Type} {par : α → (Nat → V) → List Sl} {mir : α → Mg ε1 ρ} {res : ρ → Sl} {outs : ρ → (Nat → V) → List (V × Sl)} {cls : ε1 → Er} {outsE : ε1 → (Nat → V) → List (V × Sl)} {m : M β} {g : β → α} {w : Nat → V} {ks kt kte : List Nat} {κ : List (Option Nat)} {p : Er → ε} {q : ε1 → ε} {mm : Mg ε ρ} {par' : β → List Sl}
theorem fx_call' {j : Nat} {ps : List Str} {x : Str} {pp pos : Pos} {e : Expr} {es : List Expr} {A : ρ → Hp → V → Prop} {Ar : Ra β} (C : Cok X W k)
    (h : Cal X.prog X.w X.K X.mg X.base x ps j (spG X.K par mir res outs cls outsE)) (hj : j ≤ k) (ha : FA X W G (e :: es) m Ar) (hag : Ags G ks Ar par' κ) (hb : Beh Eh G X.N.length ks kt kte κ w outs cls outsE q) (hres : ∀ r Y F H v ms, (res r).r Y F H v ms → A r F v)
    (hg : Gl X x := by rfl) (hdb : (x == ("__debug__" : Str)) = false := by decide) (he : starEach (e :: es) X.env = (false, eval e X.env) :: starEach es X.env := by rfl) (hpl : (backTo pos (starEach es X.env)).any (·.1) = false := by rfl) (hp : Pay Eh G p := by exact pay0 rfl) (hm : (m.bindP p fun a => (mir (g a)).bindP q fun r => M.ok r) = mm := by rfl) (hpar : ∀ b, par (g b) w = par' b := by exact fun _ => rfl) :
    FX X W Eh tl G (.Call (.Name x pp) (e :: es) [] pos) mm A (fun r _ => setK G kt (outs r w)) := by
  rw [← hm]
  have hag : Ags G ks Ar (fun b => par (g b) w) κ := by rw [funext hpar]; exact hag
  exact fx_call C h hj ha hag hb hres hp hg hdb he hpl
theorem fxv_call {j : Nat} {ps : List Str} {x : Str} {pp pos : Pos} {e : Expr} {es : List Expr} {A : ρ → Hp → V → Prop} {Ar : Ra β} {a : β} (C : Cok X W k)
    (h : Cal X.prog X.w X.K X.mg X.base x ps j (spG X.K par mir res outs cls outsE)) (hj : j ≤ k) (ha : FA X W G (e :: es) (M.ok a) Ar) (hag : Ags G ks Ar par' κ) (hb : Beh Eh G X.N.length ks kt kte κ w outs cls outsE q) (hres : ∀ r Y F H v ms, (res r).r Y F H v ms → A r F v)
    (hg : Gl X x := by rfl) (hdb : (x == ("__debug__" : Str)) = false := by decide) (he : starEach (e :: es) X.env = (false, eval e X.env) :: starEach es X.env := by rfl) (hpl : (backTo pos (starEach es X.env)).any (·.1) = false := by rfl) (hp : Pay Eh G p := by exact pay0 rfl) (hm : ((mir (g a)).bindP q fun r => M.ok r) = mm := by rfl) (hpar : ∀ b, par (g b) w = par' b := by exact fun _ => rfl) :
    FX X W Eh tl G (.Call (.Name x pp) (e :: es) [] pos) mm A (fun r _ => setK G kt (outs r w)) := by
  rw [← hm]
  have hag : Ags G ks Ar (fun b => par (g b) w) κ := by rw [funext hpar]; exact hag
  exact fx_call C h hj ha hag hb hres hp hg hdb he hpl
end
end LK
namespace LK
open PySem L2
structure Ce where
  rd : Hp → Hp → V → Prop
  ow : Hp → Hp → V → List Addr → Prop
  rst : ∀ {F X v F' X'}, rd F X v → XS F F' → XS X X' → rd F' X' v
  ost : ∀ {F H v ms F' H'}, ow F H v ms → XS F F' → (∀ x ∈ ms, ∀ o, H x = some o → H' x = some o) → ow F' H' v ms
  ord : ∀ {F H v ms X}, ow F H v ms → (∀ x ∈ ms, ∀ o, H x = some o → X x = some o) → Ex F X → rd F X v
def ce {α : Type} (T : Th α) (a : α) : Ce := ⟨T.rd a, T.ow a, T.rst, T.ost, T.ord⟩
abbrev Fs : Type := List (Str × Ce)
inductive RdA (F X : Hp) : Fs → List (Str × V) → Prop where
  | nil : RdA F X [] []
  | cons {f : Str} {c : Ce} {v : V} {cs : Fs} {fs : List (Str × V)} (h : c.rd F X v) (t : RdA F X cs fs) : RdA F X ((f, c) :: cs) ((f, v) :: fs)
inductive OwA (F H : Hp) : Fs → List (Str × V) → List Addr → Prop where
  | nil : OwA F H [] [] []
  | cons {f : Str} {c : Ce} {v : V} {cs : Fs} {fs : List (Str × V)} {m ms : List Addr} (h : c.ow F H v m) (t : OwA F H cs fs ms) (d : ∀ x ∈ m, x ∉ ms) : OwA F H ((f, c) :: cs) ((f, v) :: fs) (m ++ ms)
theorem RdA.st {F X F' X' : Hp} {cs : Fs} {fs : List (Str × V)} (h : RdA F X cs fs) (xf : XS F F') (xx : XS X X') : RdA F' X' cs fs := by
  induction h with
  | nil => exact .nil
  | cons h _ ih => exact .cons (Ce.rst _ h xf xx) ih
theorem OwA.st {F H F' H' : Hp} {cs : Fs} {fs : List (Str × V)} {ms : List Addr} (h : OwA F H cs fs ms) (xf : XS F F') (k : ∀ x ∈ ms, ∀ o, H x = some o → H' x = some o) : OwA F' H' cs fs ms := by
  induction h with
  | nil => exact .nil
  | cons h _ d ih => exact .cons (Ce.ost _ h xf fun x hx => k x (List.mem_append.mpr (.inl hx))) (ih fun x hx => k x (List.mem_append.mpr (.inr hx))) d
theorem OwA.rd {F H X : Hp} {cs : Fs} {fs : List (Str × V)} {ms : List Addr} (h : OwA F H cs fs ms) (k : ∀ x ∈ ms, ∀ o, H x = some o → X x = some o) (xf : Ex F X) : RdA F X cs fs := by
  induction h with
  | nil => exact .nil
  | cons h _ d ih => exact .cons (Ce.ord _ h (fun x hx => k x (List.mem_append.mpr (.inl hx))) xf) (ih fun x hx => k x (List.mem_append.mpr (.inr hx)))
def tB (C : Addr) : Th Fs := ⟨fun l F X v => ∃ p dx fs, v = .ref p ∧ X p = some (.ins C dx fs) ∧ RdA F X l fs,
  fun l F H v ms => ∃ p dx fs m, v = .ref p ∧ H p = some (.ins C dx fs) ∧ OwA F H l fs m ∧ p ∉ m ∧ ms = p :: m,
  fun ⟨p, dx, fs, e, h, q⟩ x y => ⟨p, dx, fs, e, ins_xs y h, q.st x y⟩,
  fun ⟨p, dx, fs, m, e, h, q, n, em⟩ x k => ⟨p, dx, fs, m, e, k p (by rw [em]; exact List.mem_cons_self) _ h, q.st x fun y hy => k y (by rw [em]; exact List.mem_cons_of_mem _ hy), n, em⟩,
  fun ⟨p, dx, fs, m, e, h, q, n, em⟩ k x => ⟨p, dx, fs, e, k p (by rw [em]; exact List.mem_cons_self) _ h, q.rd (fun y hy => k y (by rw [em]; exact List.mem_cons_of_mem _ hy)) x⟩⟩
abbrev bx (C : Addr) (l : Fs) : Sl := ob (tB C) l
theorem RdA.look {F X : Hp} {f : Str} {c : Ce} : ∀ {cs : Fs} {fs : List (Str × V)}, RdA F X cs fs → cs.lookup f = some c → ∃ v, fs.lookup f = some v ∧ c.rd F X v
  | _, _, .nil, h => by cases h
  | _, _, @RdA.cons _ _ g c' v cs fs h t, e => by
    rw [List.lookup_cons] at e ⊢
    cases q : f == g with
    | true => rw [q] at e; cases e; exact ⟨v, rfl, h⟩
    | false => rw [q] at e; exact t.look e
theorem RdA.keys {F X : Hp} : ∀ {cs : Fs} {fs : List (Str × V)}, RdA F X cs fs → fs.map (·.1) = cs.map (·.1)
  | _, _, .nil => rfl
  | _, _, .cons _ t => by rw [List.map_cons, List.map_cons, t.keys]
theorem OwA.keys {F H : Hp} {cs : Fs} {fs : List (Str × V)} {ms : List Addr} (h : OwA F H cs fs ms) : fs.map (·.1) = cs.map (·.1) := by
  induction h with
  | nil => rfl
  | cons _ _ _ ih => rw [List.map_cons, List.map_cons, ih]
def putC (f : Str) (c : Ce) : Fs → Fs
  | [] => [(f, c)]
  | (g, x) :: r => if g = f then (g, c) :: r else (g, x) :: putC f c r
theorem OwA.put {F H : Hp} {f : Str} {c : Ce} {v : V} {m : List Addr} (hc : c.ow F H v m) : ∀ {cs : Fs} {fs : List (Str × V)} {ms : List Addr}, OwA F H cs fs ms → (∀ x ∈ m, x ∉ ms) → ∃ ms', OwA F H (putC f c cs) (putF f v fs) ms' ∧ ∀ x ∈ ms', x ∈ ms ∨ x ∈ m
  | _, _, _, .nil, _ => ⟨m ++ [], .cons hc .nil (fun _ _ z => nomatch z), fun x hx => .inr (by simpa using hx)⟩
  | _, _, _, @OwA.cons _ _ g c' v' cs fs mg mr h t d, n => by
    unfold putC putF
    by_cases e : g = f
    · rw [if_pos e, if_pos e]
      refine ⟨m ++ mr, .cons hc t (fun x hx z => n x hx (List.mem_append.mpr (.inr z))), fun x hx => ?_⟩
      rcases List.mem_append.mp hx with z | z
      · exact .inr z
      · exact .inl (List.mem_append.mpr (.inr z))
    · rw [if_neg e, if_neg e]
      obtain ⟨ms', o, k⟩ := OwA.put hc t fun x hx z => n x hx (List.mem_append.mpr (.inr z))
      refine ⟨mg ++ ms', .cons h o (fun x hx z => ?_), fun x hx => ?_⟩
      · rcases k x z with q | q
        · exact d x hx q
        · exact n x q (List.mem_append.mpr (.inl hx))
      · rcases List.mem_append.mp hx with z | z
        · exact .inl (List.mem_append.mpr (.inl z))
        · rcases k x z with q | q
          · exact .inl (List.mem_append.mpr (.inr q))
          · exact .inr q
theorem OwA.take {F H : Hp} {f : Str} {α : Type} {T : Th α} {a : α} : ∀ {cs : Fs} {fs : List (Str × V)} {ms : List Addr}, OwA F H cs fs ms → cs.lookup f = some (ce T a) → ∃ v m ms', fs.lookup f = some v ∧ T.ow a F H v m ∧ OwA F H (putC f (ce (tF fVal) v) cs) fs ms' ∧ (∀ x, x ∈ ms ↔ x ∈ m ∨ x ∈ ms') ∧ ∀ x ∈ m, x ∉ ms'
  | _, _, _, .nil, h => by cases h
  | _, _, _, @OwA.cons _ _ g c' v' cs fs mg mr h t d, e => by
    rw [List.lookup_cons] at e ⊢
    unfold putC
    cases q : f == g with
    | true =>
      rw [q] at e
      cases e
      have eg : g = f := (eq_of_beq q).symm
      refine ⟨v', mg, [] ++ mr, rfl, h, by rw [if_pos eg]; exact .cons ⟨rfl, rfl⟩ t (fun _ z => nomatch z), fun x => by simp, fun x hx z => d x hx (by simpa using z)⟩
    | false =>
      rw [q] at e
      have eg : ¬ g = f := fun z => by rw [z, beq_self_eq_true] at q; cases q
      obtain ⟨v, m, ms', h1, h2, h3, h4, h5⟩ := OwA.take t e
      refine ⟨v, m, mg ++ ms', h1, h2, by rw [if_neg eg]; exact .cons h h3 (fun x hx z => d x hx ((h4 x).mpr (.inr z))), fun x => ?_, fun x hx z => ?_⟩
      · rw [List.mem_append, List.mem_append, h4 x]
        constructor
        · rintro (z | z | z)
          · exact .inr (.inl z)
          · exact .inl z
          · exact .inr (.inr z)
        · rintro (z | z | z)
          · exact .inr (.inl z)
          · exact .inl z
          · exact .inr (.inr z)
      · rcases List.mem_append.mp z with z | z
        · exact d x z ((h4 x).mpr (.inl hx))
        · exact h5 x hx z
theorem OwA.back {F H : Hp} {f : Str} {c : Ce} {v : V} {m : List Addr} (hc : c.ow F H v m) : ∀ {cs : Fs} {fs : List (Str × V)} {ms : List Addr}, OwA F H cs fs ms → cs.lookup f = some (ce (tF fVal) v) → (∀ x ∈ m, x ∉ ms) → ∃ ms', OwA F H (putC f c cs) fs ms' ∧ ∀ x, x ∈ ms' ↔ x ∈ ms ∨ x ∈ m
  | _, _, _, .nil, h, _ => by cases h
  | _, _, _, @OwA.cons _ _ g c' v' cs fs mg mr h t d, e, n => by
    rw [List.lookup_cons] at e
    unfold putC
    cases q : f == g with
    | true =>
      rw [q] at e
      cases e
      obtain ⟨ev, em⟩ := h
      cases (show v' = v from ev)
      have em : mg = [] := em
      subst em
      have eg : g = f := (eq_of_beq q).symm
      rw [if_pos eg]
      exact ⟨m ++ mr, .cons hc t (fun x hx z => n x hx (by simpa using z)), fun x => by simp [or_comm]⟩
    | false =>
      rw [q] at e
      have eg : ¬ g = f := fun z => by rw [z, beq_self_eq_true] at q; cases q
      rw [if_neg eg]
      obtain ⟨ms', o, k⟩ := OwA.back hc t e fun x hx z => n x hx (List.mem_append.mpr (.inr z))
      refine ⟨mg ++ ms', .cons h o (fun x hx z => ?_), fun x => ?_⟩
      · rcases (k x).mp z with q | q
        · exact d x hx q
        · exact n x q (List.mem_append.mpr (.inl hx))
      · rw [List.mem_append, List.mem_append, k x, or_assoc]
structure CeG {α : Type} (c : Ce) (x : α) (R : Rl α) : Prop where
  run : ∀ F H v H0, c.rd F H v → R.r x H0 F H v
theorem cg_v {α : Type} {A : Rf α} {x : α} : CeG (ce (tF A) x) x A.up := ⟨fun F H v H0 h => h⟩
section
variable {X : Cx} {W : WX} {G : Gm} {C : Addr} {l : Fs} {o : Expr} {f : Str} {pos : Pos} {α : Type} {c : Ce} {x : α} {R : Rl α}
theorem fe_fld (he : FE X W G o (M.ok l) (nw (tB C))) (hl : l.lookup f = some c) (hc : CeG c x R) (cC : Cls X.K C) (cN : NoAttr X.K C f) (hb : attributeBase o f X.env (eval o X.env) = eval o X.env := by rfl) : FE X W G (.Attribute o f pos) (M.ok x) R :=
  PE.weak (pe_fld he hb) fun σ H Q ⟨B, tl, F, T⟩ => by
    have T' : Told X.K W G ((M.ok l : M Fs).bind fun _ => M.ok x) (fun a F' H' => ∀ v, R.r a H F' H' v → Q v H') σ H B tl F := T
    refine ⟨B, tl, F, T'.seq fun a F1 H1 ea g1 T1 v rv => ?_⟩
    cases M.ok_inj ea
    obtain ⟨p, dx, fs, ev, hp, hr⟩ := rv
    obtain ⟨w, h1, h2⟩ := hr.look hl
    exact ⟨p, C, dx, fs, w, ev, hp, cC, cN, h1, T1.ok x rfl F1 H1 (Gr.refl g1.fh) w (hc.run F1 H1 w H h2)⟩
end
section
variable {B : Bs} {tl : List Nat} {G : Gm} {F H F' H' : Hp} {σ : St}
theorem Stt.two {ms : Nat → List Addr} {k g : Nat} {t1 t2 : Option Sl} (st : Stt B tl G F H σ) (z : SlOk B G F H σ ms) (mk mg : List Addr) (hne : k ≠ g) (hk : k < G.length) (hg : g < G.length)
    (h1 : match t1 with
      | some s => ∃ v, (k < σ.length → σ[k]? = some (some v)) ∧ s.r B.Hd F H v mk
      | none => mk = [])
    (h2 : match t2 with
      | some s => ∃ v, (g < σ.length → σ[g]? = some (some v)) ∧ s.r B.Hd F H v mg
      | none => mg = [])
    (ok : ∀ x, x ∈ mk ∨ x ∈ mg → ∃ j t, (j = k ∨ j = g) ∧ G[j]? = some (some t) ∧ t.own = true ∧ x ∈ ms j) (dj : ∀ x ∈ mk, x ∉ mg) : Stt B tl ((G.set k t1).set g t2) F H σ := by
  have hkl : k < (G.set k t1).length := by rw [List.length_set]; exact hk
  have hgl : g < (G.set k t1).length := by rw [List.length_set]; exact hg
  have gk : ((G.set k t1).set g t2)[k]? = some t1 := by rw [List.getElem?_set_ne (Ne.symm hne), List.getElem?_set_self hk]
  have gg : ((G.set k t1).set g t2)[g]? = some t2 := List.getElem?_set_self hgl
  have gn : ∀ {j}, j ≠ k → j ≠ g → ((G.set k t1).set g t2)[j]? = G[j]? := fun a b => by rw [List.getElem?_set_ne (Ne.symm b), List.getElem?_set_ne (Ne.symm a)]
  let nm : Nat → List Addr := fun j => if j = k then mk else if j = g then mg else ms j
  have nk : nm k = mk := if_pos rfl
  have ng : nm g = mg := by show (if g = k then mk else if g = g then mg else ms g) = _; rw [if_neg (Ne.symm hne), if_pos rfl]
  have nn : ∀ {j}, j ≠ k → j ≠ g → nm j = ms j := fun {j} a b => by show (if j = k then mk else if j = g then mg else ms j) = _; rw [if_neg a, if_neg b]
  have inn : ∀ {j x}, x ∈ nm j → (x ∈ mk ∧ j = k) ∨ (x ∈ mg ∧ j = g) ∨ (x ∈ ms j ∧ j ≠ k ∧ j ≠ g) := fun {j x} hx => by
    by_cases a : j = k
    · subst a; rw [nk] at hx; exact .inl ⟨hx, rfl⟩
    · by_cases b : j = g
      · subst b; rw [ng] at hx; exact .inr (.inl ⟨hx, rfl⟩)
      · rw [nn a b] at hx; exact .inr (.inr ⟨hx, a, b⟩)
  have kg : ∀ {x}, x ∈ mk ∨ x ∈ mg → (F x = none ∧ NT H x) ∧ (B.H0 x = none ∨ x ∈ B.X0) ∧ ∀ i, i ≠ k → i ≠ g → x ∉ ms i := fun {x} hx => by
    obtain ⟨j, t, hj, e, o, hm⟩ := ok x hx
    refine ⟨z.mem j x hm, z.own j t e o x hm, fun i a b => z.sep j t e o x hm i fun q => ?_⟩
    rcases hj with hj | hj
    · exact a (q.trans hj)
    · exact b (q.trans hj)
  refine ⟨st.g, st.bh, st.fr, st.ls, by rw [List.length_set, List.length_set]; exact st.len, nm, ⟨fun j s e => ?_, fun j e => ?_, fun j x hx => ?_, fun j s e o x hx => ?_, fun j s e o x hx j' hj' hm => ?_⟩⟩
  · by_cases a : j = k
    · subst a
      rw [gk] at e
      cases e
      rw [nk]
      exact h1
    · by_cases b : j = g
      · subst b
        rw [gg] at e
        cases e
        rw [ng]
        exact h2
      · rw [gn a b] at e
        rw [nn a b]
        exact z.has j s e
  · by_cases a : j = k
    · subst a
      rw [nk]
      cases t1 with
      | none => exact h1
      | some s => exact absurd gk (e s)
    · by_cases b : j = g
      · subst b
        rw [ng]
        cases t2 with
        | none => exact h2
        | some s => exact absurd gg (e s)
      · rw [nn a b]
        exact z.non j fun s q => e s (by rw [gn a b]; exact q)
  · rcases inn hx with ⟨hx, _⟩ | ⟨hx, _⟩ | ⟨hx, _, _⟩
    · exact (kg (.inl hx)).1
    · exact (kg (.inr hx)).1
    · exact z.mem j x hx
  · rcases inn hx with ⟨hx, _⟩ | ⟨hx, _⟩ | ⟨hx, a, b⟩
    · exact (kg (.inl hx)).2.1
    · exact (kg (.inr hx)).2.1
    · rw [gn a b] at e
      exact z.own j s e o x hx
  · rcases inn hx with ⟨hx, ej⟩ | ⟨hx, ej⟩ | ⟨hx, a, b⟩ <;> rcases inn hm with ⟨hm, ej'⟩ | ⟨hm, ej'⟩ | ⟨hm, a', b'⟩
    · exact hj' (ej'.trans ej.symm)
    · exact dj x hx hm
    · exact (kg (.inl hx)).2.2 j' a' b' hm
    · exact dj x hm hx
    · exact hj' (ej'.trans ej.symm)
    · exact (kg (.inr hx)).2.2 j' a' b' hm
    · exact (kg (.inl hm)).2.2 j a b hx
    · exact (kg (.inr hm)).2.2 j a b hx
    · rw [gn a b] at e
      exact z.sep j s e o x hx j' hj' hm
end
section
variable {ε : Type} {Eh : EH ε} {X : Cx} {W : WX} {G : Gm} {tl : List Nat} {ρ b s : Type} {R : ρ → V → Gm} {Gb : b → Gm} {N : s → Gm}
structure TakesC {α : Type} (R : Rl α) (c : α → Ce) : Prop where
  run : ∀ a H0 F H v, R.r a H0 F H v → ∃ ms, (c a).ow F H v ms ∧ ∀ x ∈ ms, H0 x = none ∧ F x = none ∧ NT H x
theorem tc_v {α : Type} {A : Rf α} : TakesC A.up (ce (tF A)) := ⟨fun a H0 F H v h => ⟨[], ⟨h, rfl⟩, fun x hx => nomatch hx⟩⟩
theorem RdA.len {F X : Hp} {cs : Fs} {fs : List (Str × V)} (h : RdA F X cs fs) : fs.length = cs.length := by
  have := congrArg List.length h.keys
  simpa using this
theorem OwA.len {F H : Hp} {cs : Fs} {fs : List (Str × V)} {ms : List Addr} (h : OwA F H cs fs ms) : fs.length = cs.length := by
  have := congrArg List.length h.keys
  simpa using this
theorem fs_fld {α : Type} (k : Nat) {q : V} {C : Addr} {l : Fs} {o value : Expr} {f : Str} {pos pos' : Pos} {rest : List Stmt} {p : Er → ε} {m : M α} {A : Rl α} {c : α → Ce} {g : α → Mg ε (Fl ρ b s)} (hG : G[k]? = some (some (pn q (bx C l)))) (ho : FE X W G o (M.ok ()) (rV q)) (hv : FE X W G value m A) (ht : TakesC A c)
    (cC : Cls X.K C) (cN : NoAttr X.K C f) (hr : ∀ a, FS X W Eh tl (G.set k (some (pn q (bx C (putC f (c a) l))))) rest (g a) R Gb N) (hl : l.length < 1000 := by exact Nat.lt_of_lt_of_le (Nat.lt_of_sub_pos (by decide)) (Nat.le_refl _))
    (hs : swapsWith value (some (.Attribute o f pos')) pos.line X.env = pure false := by rfl) (hp : Pay Eh G p := by exact pay0 rfl) :
    FS X W Eh tl G (.Assign [.Attribute o f pos'] value pos :: rest) (m.bindP p g) R Gb N :=
  PSs.weak (pss_cons (ps_fld ho hv hs) (pss_ex hr)) fun D σ H ⟨B, F, T0⟩ => by
    refine ⟨B, tl, F, T0.tellE hp fun a F1 H1 ea g1 v rv => ?_⟩
    have T1 := T0.rest ea (T0.st.grow g1)
    have T1' : ToldS X.K W Eh tl G ((M.ok () : M Unit).bindP p fun _ => g a) R Gb N D σ H1 B F1 := T1
    refine ⟨B, tl, F1, T1'.tellE hp fun _ F2 H2 _ g2 vo ro' => ?_⟩
    have T2 := T1'.rest (a := ()) rfl (T1.st.grow g2)
    cases (show vo = q from ro')
    obtain ⟨ms0, z0⟩ := T0.st.sl
    have z2 := z0.grow (g1.trans g2)
    obtain ⟨mv, h1, h2⟩ := ht.run a H F1 H1 v rv
    have h1' : (c a).ow F2 H2 v mv := (c a).ost h1 g2.f.xs fun x _ o ho => g2.h x o ho
    obtain ⟨u, hu, rfl, p0, dx, fs, m0, e, hp0, how, hpn, em⟩ := z2.has k _ hG
    subst e
    have old : ∀ x ∈ ms0 k, H x ≠ none := fun x hx => (z0.mem k x hx).2.ne
    have dis : ∀ x ∈ mv, x ∉ m0 := fun x hx hm => old x (by rw [em]; exact List.mem_cons_of_mem _ hm) (h2 x hx).1
    have hpm : p0 ∉ mv := fun hx => old p0 (by rw [em]; exact List.mem_cons_self) (h2 p0 hx).1
    obtain ⟨hF, hH⟩ := z2.mem k p0 (by rw [em]; exact List.mem_cons_self)
    have stay : ∀ x, x ≠ p0 → ∀ o, H2 x = some o → upd H2 p0 (.ins C dx (putF f v fs)) x = some o := fun x hx o ho => by rw [upd_ne hx]; exact ho
    obtain ⟨m', h4, h5⟩ := (how.put (f := f) (c := c a) h1' dis)
    have h6 : ∀ x ∈ m', x ≠ p0 := fun x hx q => by
      subst q
      rcases h5 _ hx with y | y
      · exact hpn y
      · exact hpm y
    refine ⟨p0, C, dx, fs, rfl, hp0, cC, cN, by rw [how.len]; exact hl, a, B, F2, ?_⟩
    refine T2.rest (p := p) (ma := (M.ok () : M Unit)) (f := fun _ => g a) (a := ()) rfl (G1 := G.set k (some (pn (.ref p0) (bx C (putC f (c a) l))))) ?_
    have gx : GrX (ms0 k) F H F2 (upd H2 p0 (.ins C dx (putF f v fs))) := ((g1.trans g2).x _).trans ((GrX.at T2.st.fh hF).mono fun x hx => by rw [List.mem_singleton.mp hx, em]; exact List.mem_cons_self)
    refine T0.st.mut (mv := p0 :: m') z0 hG rfl hu gx ⟨rfl, p0, dx, putF f v fs, m', rfl, upd_same, h4.st (XS.refl _) (fun x hx => stay x (h6 x hx)), fun q => h6 _ q rfl, rfl⟩ (fun y hy => ?_)
    rcases List.mem_cons.mp hy with hy | hy
    · subst hy
      exact ⟨.inl (by rw [em]; exact List.mem_cons_self), hF, NT.up⟩
    · rcases h5 y hy with q | q
      · have hm : y ∈ ms0 k := by rw [em]; exact List.mem_cons_of_mem _ q
        obtain ⟨a1, a2⟩ := z2.mem k y hm
        exact ⟨.inl hm, a1, a2.un (h6 y hy)⟩
      · obtain ⟨a1, a2, a3⟩ := h2 y q
        exact ⟨.inr a1, g2.no y a2 a3, (g2.h.nt a3).un (h6 y hy)⟩
end
end LK
namespace LK
open PySem L2
inductive At where
  | i (n : Int)
  | t (l : List Nat)
  deriving DecidableEq
def At.v : At → V
  | .i n => .int n
  | .t l => .str (S l)
def At.kd : At → Bool
  | .i _ => true
  | .t _ => false
def At.lt : At → At → Bool
  | .i a, .i b => decide (a < b)
  | .t a, .t b => decide (a < b)
  | .i _, .t _ => true
  | .t _, .i _ => false
theorem At.trans {a b c : At} (h : At.lt a b = true) (k : At.lt b c = true) : At.lt a c = true := by
  cases a with
  | i n =>
    cases b with
    | i m =>
      cases c with
      | i o =>
        have h := of_decide_eq_true (show decide (n < m) = true from h)
        have k := of_decide_eq_true (show decide (m < o) = true from k)
        exact decide_eq_true (Int.lt_trans h k)
      | t o => rfl
    | t m =>
      cases c with
      | i o => cases k
      | t o => rfl
  | t n =>
    cases b with
    | i m => cases h
    | t m =>
      cases c with
      | i o => cases k
      | t o =>
        have h := of_decide_eq_true (show decide (n < m) = true from h)
        have k := of_decide_eq_true (show decide (m < o) = true from k)
        exact decide_eq_true (List.lt_trans h k)
section
variable {prog : Program} {w : World} {A : Around} {s : Shared} {E : Value → Shared → Prop}
end
structure EncT {α : Type} (T : Tv α) (enc : α → List At) : Prop where
  run : ∀ a F vs, T.r a F vs → vs = (enc a).map At.v
  kd : ∀ a b, (enc a).map At.kd = (enc b).map At.kd
  inj : ∀ a b, enc a = enc b → a = b
structure EncA {α : Type} (A : Rf α) (f : α → At) : Prop where
  run : ∀ a F v, A.r a F v → v = (f a).v
  kd : ∀ a b, (f a).kd = (f b).kd
  inj : ∀ a b, f a = f b → a = b
section
variable {α : Type} {enc : α → List At}
end
end LK
namespace LK
open PySem L2
section
variable {ε : Type} {Eh : EH ε} {X : Cx} {W : WX} {G : Gm} {tl : List Nat} {ρ b s : Type} {R : ρ → V → Gm} {Gb : b → Gm} {N : s → Gm}
structure LMut {α β γ : Type} (K : PySem.W.Frag) (A : Rf α) (r : V → List V → Hp → VK → Prop) (Ar : Ra β) (Rg : Rf γ) (as : List α) (b : β) (m : M (γ × List α)) : Prop where
  ne : ∀ e, m ≠ M.err e
  run : ∀ F H H0 l vs ws (Q : VK), Ex F H → H0 l ≠ none → H l = some (.lst vs) → Pw (fun a x => A.r a F x) as vs → Ar.r b H0 F H ws → ∀ c, m = M.ok c →
    (∀ z vs', Rg.r c.1 F z → Pw (fun a x => A.r a F x) c.2 vs' → Q z (upd H l (.lst vs'))) → r (.ref l) ws H Q
theorem lm_tell {β γ : Type} {α : Type} (j : Nat) {q : V} {A : Rf α} {as : List α} {p : Er → ε} {b' : β} {mm : M (γ × List α)} {Ar : Ra β} {Rg : Rf γ} {r : V → List V → Hp → VK → Prop} (hG : G[j]? = some (some (pn q (ob (tL X.K A) as)))) (hl : LMut X.K A r Ar Rg as b' mm) {σ : St} {H H2 : Hp} {B : Bs} {F2 : Hp} {Q : VK} {ws : List V}
    (T : ToldX X.K W Eh tl G (mm.bindP p fun c => M.ok c) (fun c _ => G.set j (some (pn q (ob (tL X.K A) c.2)))) (fun c v F' H' => Rg.r c.1 F' v → Q v H') σ H2 B F2) (old : ∀ ms, SlOk B G F2 H2 σ ms → ∀ x ∈ ms j, H x ≠ none) (hw : Ar.r b' H F2 H2 ws) : r q ws H2 Q := by
  obtain ⟨ms, z⟩ := T.st.sl
  obtain ⟨v, h1, rfl, qa, vs, rfl, hh, pw, em⟩ := z.has j _ hG
  obtain ⟨hF, hH⟩ := z.mem j qa (by rw [em]; simp)
  cases e : mm with
  | none => exact absurd (by rw [e]; rfl) T.ne
  | some res =>
    cases res with
    | error er => exact absurd e (hl.ne er)
    | ok c =>
      refine hl.run F2 H2 H qa vs ws Q T.st.fh (old ms z qa (by rw [em]; simp)) hh pw hw c e fun zz vs' hz pw' => ?_
      refine T.ok c (by rw [e]; rfl) zz F2 _ (Ex.refl _) ?_ hz
      refine T.st.mut z hG rfl h1 (by rw [em]; exact GrX.at T.st.fh hF) ⟨rfl, qa, vs', rfl, upd_same, pw', rfl⟩ (fun y hy => ?_)
      cases List.mem_singleton.mp hy
      exact ⟨.inl (by rw [em]; simp), hF, NT.up⟩
theorem fx_lm0 {α γ : Type} (j : Nat) {q : V} {id : String} {name : Str} {o : Expr} {apos cpos : Pos} {p : Er → ε} {A : Rf α} {as : List α} {Rg : Rf γ} {r : V → List V → Hp → VK → Prop} {mm : M (γ × List α)}
    (pa : PlainAttrs "list") (slot : Slot "list" name id) (hty : typeOf (.builtin id) = pure (.type "method_descriptor")) (hm : MtR X id r) (hl : LMut X.K A r ra0 Rg as () mm) (hG : G[j]? = some (some (pn q (ob (tL X.K A) as)))) (ho : FE X W G o (M.ok ()) (rV q))
    (hbase : attributeBase o name X.env (eval o X.env) = eval o X.env := by rfl) (hline : (apos.endLine == cpos.line) = true := by rfl) (hp : Pay Eh G p := by exact pay0 rfl) :
    FX X W Eh tl G (.Call (.Attribute o name apos) [] [] cpos) (mm.bindP p fun c => M.ok c) (fun c F v => Rg.r c.1 F v) (fun c _ => G.set j (some (pn q (ob (tL X.K A) c.2)))) :=
  PE.weak (pe_bm0 pa slot hty hm ho hbase hline) fun σ H Q ⟨B, F, T0⟩ => by
    have T0' : ToldX X.K W Eh tl G ((M.ok () : M Unit).bindP p fun _ => mm.bindP p fun c => M.ok c) (fun c _ => G.set j (some (pn q (ob (tL X.K A) c.2)))) (fun c v F' H' => Rg.r c.1 F' v → Q v H') σ H B F := T0
    refine ⟨B, tl, F, T0'.tellE hp fun _ F1 H1 _ g1 T1 v rv => ?_⟩
    cases (show v = q from rv)
    obtain ⟨ms, z⟩ := T1.st.sl
    obtain ⟨u, h1, rfl, qa, vs, rfl, hh, pw, em⟩ := z.has j _ hG
    refine ⟨.inl ⟨rfl, vs, .inl (.inl hh)⟩, ?_⟩
    refine lm_tell (H := H1) j hG hl T1 (fun ms2 z2 x hx => (z2.mem j x hx).2.ne) rfl
end
def popL {α : Type} (as : List α) : M (α × List α) := match as[as.length - 1]? with
  | some y => M.ok (y, as.dropLast)
  | none => none
theorem Pw.dropLast {α : Type} {R : α → V → Prop} : ∀ {as : List α} {vs : List V}, Pw R as vs → Pw R as.dropLast vs.dropLast
  | _, _, .nil => .nil
  | _, _, .cons h .nil => .nil
  | _, _, .cons h (.cons h2 t) => .cons h (Pw.dropLast (.cons h2 t))
section
variable {K : PySem.W.Frag} {α : Type} {A : Rf α} {as : List α}
theorem lm_pop : LMut K A rPop ra0 A as () (popL as) := by
  refine ⟨fun e h => ?_, fun F H H0 l vs ws Q x _ hh pw hw c ec k => ?_⟩
  · unfold popL at h
    split at h <;> cases h
  · cases hw
    unfold popL at ec
    split at ec
    · rename_i y ey
      cases M.ok_inj ec
      obtain ⟨v, h1, h2⟩ := pw.get ey
      rw [pw.len] at h1
      exact ⟨l, vs, v, rfl, rfl, hh, h1, k v _ h2 pw.dropLast⟩
    · cases ec
end
end LK
namespace LK
open PySem L2
section
variable {X : Cx} {W : WX} {G Gw : Gm} {kk : Nat} {α β : Type} {A : Rf α} {E : Rf β}
end
section
variable {ε : Type} {Eh : EH ε} {X : Cx} {W : WX} {tl tl' : List Nat} {ρ b s : Type} {R : ρ → V → Gm} {Gs : s → Gm} {α : Type} {A : Rf α}
theorem for_standV {f : s → α → Mg ε (Fl ρ s s)} {D : Ends} {B' : Bs} {as : List α} {q : Addr} {G2 : s × α → Gm} {x0 : s} {F H : Hp} {σ : St} (st : Stt B' tl' (Gs x0) F H σ) (lc : Lc X.K W Eh tl' (forL (b := b) f as.reverse x0) R Gs D B')
    (hs : ∀ x F' H' σ', Stt B' tl' (Gs x) F' H' σ' → ∃ vs, SqL X.K H' q vs ∧ Pw (fun a v => A.r a F' v) as vs) : ∃ W_1 : Nat → Nat → St → Hp → Prop, (∃ m, W_1 0 m σ H) ∧ ∀ i m σ H, W_1 i m σ H →
      ((Itv X.K q as.length).stop i H ∧ D.nx σ H) ∨ ((Itv X.K q as.length).go i H ∧ ∃ N : St → Hp → Prop, (∀ σ' H', N σ' H' → ∃ m', m' < m ∧ W_1 (i + 1) m' σ' H') ∧ ∀ x H', (Itv X.K q as.length).yld i H x H' →
        tGt tl' (fun z : s × α => Gs z.1) A (fun z => z.2) G2 x σ H' fun σ2 H2 => ∃ z : s × α, tFS X.K W Eh tl' (G2 z) (f z.1 z.2) R Gs Gs { D with nx := N, ct := N, bk := D.nx } σ2 H2) := by
  refine ⟨fun i m σ H => m = as.length - i ∧ i ≤ as.length ∧ ∃ F x, Stt B' tl' (Gs x) F H σ ∧ Lc X.K W Eh tl' (forL (b := b) f (as.reverse.drop i) x) R Gs D B', ⟨_, rfl, Nat.zero_le _, F, x0, st, lc⟩, ?_⟩
  rintro i m σ H ⟨rfl, hi, F, x, st, lc⟩
  obtain ⟨vs, hq, pw⟩ := hs x F H σ st
  by_cases hlt : i < as.length
  · have hj : as.length - 1 - i < as.length := by omega
    obtain ⟨v, hv, hr⟩ := pw.get (i := as.length - 1 - i) (List.getElem?_eq_getElem hj)
    refine .inr ⟨⟨hlt, vs, v, hq, hv⟩, fun σ' H' => ∃ F y, Stt B' tl' (Gs y) F H' σ' ∧ Lc X.K W Eh tl' (forL (b := b) f (as.reverse.drop (i + 1)) y) R Gs D B', fun σ' H' h => ⟨_, by omega, rfl, hlt, h⟩, fun u H' ⟨eH, yl⟩ => ?_⟩
    subst eH
    have hu := yl vs hq
    rw [hv] at hu
    cases hu
    have hrev : as.reverse[i]? = some as[as.length - 1 - i] := by
      rw [List.getElem?_reverse hlt, List.getElem?_eq_getElem hj]
    exact for_turn hrev (fun y σ' F' H' st' lc' => ⟨F', y, st', lc'⟩) st lc hr
  · have e : as.reverse.drop i = [] := List.drop_eq_nil_of_le (by rw [List.length_reverse]; omega)
    rw [e] at lc
    exact .inl ⟨by show as.length ≤ i; omega, lc.nx x rfl σ F H st⟩
theorem ps_forV {γ : Type} {e : Expr} {p1 cpos pos : Pos} {tg : Expr} {body : List Stmt} {G : Gm} {kk : Nat} {p : Er → ε} {m : M γ} {Rs : Rl γ} {l : γ → List α} {f : s → α → Mg ε (Fl ρ s s)} {G2 : s × α → Gm} {x0 : s} {Gb : b → Gm} (C : Cok X W kk) (hm : X.mg "reversed" = none) (he : FE X W G e m Rs) (hS : Src X.K A Gs Rs l) (hG : Imp G (Gs x0)) (hg : FG X tl' (fun z : s × α => Gs z.1) tg A (fun z => z.2) G2)
    (hb : ∀ x a, FS X W Eh tl' (G2 (x, a)) body (f x a) R Gs Gs) (ht : ∀ i ∈ tl', i ∈ tl := by decide) (hgl : Gl X "reversed" := by rfl) (hst : starEach [e] X.env = [(false, eval e X.env)] := by rfl) (hs : ∀ x, foldedSetIterable (.Call (.Name "reversed" p1) [e] [] cpos) X.env x = pure x := by intro _; rfl) (hp : Pay Eh G p := by exact pay0 rfl) : PS X (.For tg (.Call (.Name "reversed" p1) [e] [] cpos) body [] pos) (tFS X.K W Eh tl G (m.bindP p fun c => forL f (l c).reverse x0) R Gb Gs) :=
  PS.weak (ps_for C.hp C.calm (pi_reversed hgl hm (pa_cons he pa_nil hst) hst) hg (pss_ex fun z : s × α => hb z.1 z.2) hs) fun D σ H ⟨B, F, T⟩ => by
    refine ⟨B, tl, F, T.tellE hp fun c F1 H1 ea g v rv => ?_⟩
    have T1 := T.rest ea (T.st.grow g)
    have st1 := hG _ _ _ _ _ T1.st
    obtain ⟨Xl, hX, st2⟩ := st1.rebase (tl' := tl')
    obtain ⟨q, rfl, hq⟩ := hS.run c H F1 H1 v _ _ _ _ rv st2
    have lc1 := T1.lc hX ht
    have stand : ∀ x F' H' σ', Stt ⟨B.Hd, Xl, F1, H1, σ⟩ tl' (Gs x) F' H' σ' → ∃ vs, SqL X.K H' q vs ∧ Pw (fun a v => A.r a F' v) (l c) vs := fun x F' H' σ' st => hq _ _ x F' H' σ' st st.g.f
    obtain ⟨vs, h1, pw⟩ := stand x0 F1 H1 σ st2
    exact ⟨q, vs, rfl, h1, by rw [← pw.len]; exact for_standV st2 lc1 stand⟩
end
section
variable {ε : Type} {Eh : EH ε} {X : Cx} {W : WX} {G : Gm} {tl : List Nat} {ρ b s : Type} {R : ρ → V → Gm} {Gb : b → Gm} {N : s → Gm} {k : Nat}
theorem fv_setLcR {β : Type} (i : Nat) {y : Str} {py spos : Pos} {Gw : Gm} {E : Rf β} {elt tg e : Expr} {p' cpos : Pos} {ifs : List Expr} {scope : Scope} {own : List (Str × Nat)} {pos : Pos} {p : Er → ε} {n : Int} {c : Int → M Bool} {f : Int → M β} {G2 : Int → Gm} {rest : List Stmt} {ff : List β → Mg ε (Fl ρ b s)} (C : Cok X W k) (hm0 : X.mg "range" = none)
    (hi : FE X W G e (M.ok n) fInt.up) (d : Imp G Gw) (hw : ∀ i ∈ own.map (·.2), ∀ t, Gw[i]? ≠ some (some t))
    (ok : BlkOk X.N X.env.scope scope own) (hg : ∀ s H C cl fp, FG (blkX X scope s H C cl fp) (own.map (·.2)) (fun _ : Int => Gw) tg fInt (fun z => z) G2) (ht : ∀ a s H C cl fp, FTs (blkX X scope s H C cl fp) W0 (G2 a) ifs (c a)) (he : ∀ a s H C cl fp, FE (blkX X scope s H C cl fp) W0 (G2 a) elt (f a) E.up)
    (hr : ∀ a, FS X W Eh tl (G.set i (some (ob (tL X.K E) a))) rest (ff a) R Gb N)
    (hy : X.N[i]? = some y := by rfl) (hyl : X.env.scope.names.lookup y = some .local := by rfl) (hk : X.env.scope.kind = .function := by rfl) (hln : (py.line == pos.line) = true := by rfl) (ha : (scope.names.any fun (n, k) => n == y && (k == .local || k == .cell)) = false := by decide +kernel)
    (hgl : Gl X "range" := by rfl) (hst : starEach [e] X.env = [(false, eval e X.env)] := by rfl) (hm : i ∈ tl := by decide) (hl : i < G.length := by exact Nat.le_of_ble_eq_true rfl) (hs : ∀ x, foldedSetIterable (.Call (.Name "range" p') [e] [] cpos) X.env x = pure x := by intro _; rfl) (hp : Pay Eh G p := by exact pay0 rfl) :
    FS X W Eh tl G (.Assign [.Name y py] (.ListComp elt [⟨tg, (.Call (.Name "range" p') [e] [] cpos), ifs, 0⟩] scope pos) spos :: rest) ((M.need (-(2 ^ 62) ≤ n ∧ n < 2 ^ 62) (lcL c f (rngL n) [])).bindP p ff) R Gb N := fs_setLcR i C hm0 hi d hw ok hg ht he hr hy hyl hk hln ha hgl hst hm hl hs hp
end
end LK
namespace LK
open PySem L2
def tBx {α : Type} (C : Addr) (U : α → Fs) : Th α := ⟨fun a F X v => (tB C).rd (U a) F X v, fun a F H v ms => (tB C).ow (U a) F H v ms, fun h x y => (tB C).rst h x y, fun h x k => (tB C).ost h x k, fun h k x => (tB C).ord h k x⟩
theorem look_at {α : Type} {f : Str} {c : α} : ∀ {l : List (Str × α)} {names : List Str} {n : Nat}, l.map (·.1) = names → names.Nodup → l[n]? = some (f, c) → l.lookup f = some c
  | [], _, n, _, _, h => by simp at h
  | (g, x) :: r, names, n, hk, nd, h => by
    subst hk
    rw [List.lookup_cons]
    cases n with
    | zero =>
      simp at h
      obtain ⟨rfl, rfl⟩ := h
      rw [beq_self_eq_true]
    | succ n =>
      have h : r[n]? = some (f, c) := by simpa using h
      have hm : f ∈ r.map (·.1) := List.mem_map.mpr ⟨(f, c), List.mem_of_getElem? h, rfl⟩
      have nd := List.nodup_cons.mp (show (g :: r.map (·.1)).Nodup from nd)
      have : (f == g) = false := beq_eq_false_iff_ne.mpr fun e => nd.1 (e ▸ hm)
      rw [this]
      exact look_at rfl nd.2 h
theorem put_at {f : Str} {c c' : Ce} : ∀ {l : Fs} {names : List Str} {n : Nat}, l.map (·.1) = names → names.Nodup → l[n]? = some (f, c) → putC f c' l = l.set n (f, c')
  | [], _, n, _, _, h => by simp at h
  | (g, x) :: r, names, n, hk, nd, h => by
    subst hk
    unfold putC
    cases n with
    | zero =>
      simp at h
      obtain ⟨rfl, rfl⟩ := h
      rw [if_pos rfl]
      rfl
    | succ n =>
      have h : r[n]? = some (f, c) := by simpa using h
      have hm : f ∈ r.map (·.1) := List.mem_map.mpr ⟨(f, c), List.mem_of_getElem? h, rfl⟩
      have nd := List.nodup_cons.mp (show (g :: r.map (·.1)).Nodup from nd)
      rw [if_neg (fun e => nd.1 (by rw [e]; exact hm)), put_at rfl nd.2 h]
      rfl
theorem put_new {f : Str} {c' : Ce} : ∀ {l : Fs} {names : List Str}, l.map (·.1) = names → f ∉ names → putC f c' l = l ++ [(f, c')]
  | [], _, _, _ => rfl
  | (g, x) :: r, names, hk, nd => by
    subst hk
    unfold putC
    rw [if_neg (fun e => nd (by rw [← e]; simp)), put_new rfl (fun e => nd (by simp at e ⊢; exact .inr e))]
    rfl
theorem look_no {α : Type} {f : Str} : ∀ {l : List (Str × α)} {names : List Str}, l.map (·.1) = names → f ∉ names → l.lookup f = none
  | [], _, _, _ => rfl
  | (g, x) :: r, names, hk, nd => by
    subst hk
    rw [List.lookup_cons]
    have : (f == g) = false := beq_eq_false_iff_ne.mpr fun e => nd (by rw [e]; simp)
    rw [this]
    exact look_no rfl fun e => nd (by simp at e ⊢; exact .inr e)
section
variable {X : Cx} {W : WX} {G : Gm} {C : Addr} {l : Fs} {names : List Str} {o : Expr} {f : Str} {pos : Pos} {α : Type} {c : Ce} {x : α} {R : Rl α}
theorem fe_fldN (n : Nat) (he : FE X W G o (M.ok l) (nw (tB C))) (hc : CeG c x R) (nd : names.Nodup) (cC : Cls X.K C) (cN : NoAttr X.K C f) (hl : l[n]? = some (f, c) := by rfl) (hk : l.map (·.1) = names := by rfl) (hb : attributeBase o f X.env (eval o X.env) = eval o X.env := by rfl) : FE X W G (.Attribute o f pos) (M.ok x) R :=
  fe_fld he (look_at hk nd hl) hc cC cN hb
end
section
variable {ε : Type} {Eh : EH ε} {X : Cx} {W : WX} {G : Gm} {tl : List Nat} {ρ b s : Type} {R : ρ → V → Gm} {Gb : b → Gm} {N : s → Gm}
theorem fs_re {sts : List Stmt} {m : Mg ε (Fl ρ b s)} {G1 : Gm} (h : FS X W Eh tl G1 sts m R Gb N) (e : G = G1 := by rfl) : FS X W Eh tl G sts m R Gb N := by
  rw [e]
  exact h
theorem RdA.take {F X : Hp} {f : Str} {α : Type} {T : Th α} {a : α} : ∀ {cs : Fs} {fs : List (Str × V)} {n : Nat}, RdA F X cs fs → cs[n]? = some (f, ce T a) → ∃ v, T.rd a F X v ∧ RdA F X (cs.set n (f, ce (tF fVal) v)) fs
  | _, _, n, .nil, h => by simp at h
  | _, _, 0, @RdA.cons _ _ g c' v' cs fs h t, e => by
    simp at e
    obtain ⟨rfl, rfl⟩ := e
    exact ⟨v', h, .cons rfl t⟩
  | _, _, n + 1, @RdA.cons _ _ g c' v' cs fs h t, e => by
    obtain ⟨v, h1, h2⟩ := RdA.take t (n := n) (by simpa using e)
    exact ⟨v, h1, .cons h h2⟩
theorem RdA.back {F X : Hp} {f : Str} {c : Ce} {v : V} (hc : c.rd F X v) : ∀ {cs : Fs} {fs : List (Str × V)} {n : Nat}, RdA F X cs fs → cs[n]? = some (f, ce (tF fVal) v) → RdA F X (cs.set n (f, c)) fs
  | _, _, n, .nil, h => by simp at h
  | _, _, 0, @RdA.cons _ _ g c' v' cs fs h t, e => by
    simp at e
    obtain ⟨rfl, rfl⟩ := e
    cases (show v' = v from h)
    exact .cons hc t
  | _, _, n + 1, @RdA.cons _ _ g c' v' cs fs h t, e => .cons h (RdA.back hc t (n := n) (by simpa using e))
theorem fs_fldN {α : Type} (k n : Nat) {q : V} {C : Addr} {l : Fs} {names : List Str} {o value : Expr} {f : Str} {c0 : Ce} {pos pos' : Pos} {rest : List Stmt} {p : Er → ε} {m : M α} {A : Rl α} {c : α → Ce} {g : α → Mg ε (Fl ρ b s)} (ho : FE X W G o (M.ok ()) (rV q)) (hv : FE X W G value m A) (ht : TakesC A c)
    (nd : names.Nodup) (cC : Cls X.K C) (cN : NoAttr X.K C f) (hr : ∀ a, FS X W Eh tl (G.set k (some (pn q (bx C (l.set n (f, c a)))))) rest (g a) R Gb N) (hG : G[k]? = some (some (pn q (bx C l))) := by rfl) (hl : l[n]? = some (f, c0) := by rfl) (hk : l.map (·.1) = names := by rfl) (h1000 : names.length < 1000 := by exact Nat.lt_of_sub_pos (by decide))
    (hs : swapsWith value (some (.Attribute o f pos')) pos.line X.env = pure false := by rfl) (hp : Pay Eh G p := by exact pay0 rfl) :
    FS X W Eh tl G (.Assign [.Attribute o f pos'] value pos :: rest) (m.bindP p g) R Gb N :=
  fs_fld k hG ho hv ht cC cN (fun a => by rw [put_at hk nd hl]; exact hr a) (by rw [← hk, List.length_map] at h1000; exact h1000) hs hp
theorem fs_fldI {α : Type} (k : Nat) {q : V} {C : Addr} {l : Fs} {names : List Str} {o value : Expr} {f : Str} {pos pos' : Pos} {rest : List Stmt} {p : Er → ε} {m : M α} {A : Rl α} {c : α → Ce} {g : α → Mg ε (Fl ρ b s)} (ho : FE X W G o (M.ok ()) (rV q)) (hv : FE X W G value m A) (ht : TakesC A c)
    (nm : f ∉ names) (cC : Cls X.K C) (cN : NoAttr X.K C f) (hr : ∀ a, FS X W Eh tl (G.set k (some (pn q (bx C (l ++ [(f, c a)]))))) rest (g a) R Gb N) (hG : G[k]? = some (some (pn q (bx C l))) := by rfl) (hk : l.map (·.1) = names := by rfl) (h1000 : names.length < 1000 := by exact Nat.lt_of_sub_pos (by decide))
    (hs : swapsWith value (some (.Attribute o f pos')) pos.line X.env = pure false := by rfl) (hp : Pay Eh G p := by exact pay0 rfl) :
    FS X W Eh tl G (.Assign [.Attribute o f pos'] value pos :: rest) (m.bindP p g) R Gb N :=
  fs_fld k hG ho hv ht cC cN (fun a => by rw [put_new hk nm]; exact hr a) (by rw [← hk, List.length_map] at h1000; exact h1000) hs hp
end
end LK
namespace LK
open PySem L2
def CalM (P : Program) (w : World) (K : PySem.W.Frag) (mg : Str → Option Value) (base : Heap) (C : Addr) (m : Str) (ps : List Str) (j : Nat) (sp : Sp) : Prop :=
  ∃ f fd, Meth K C m f ∧ Binds K fd ps [] ∧ FnOk P w K mg base (L2N.CX P w) j f fd ps sp
def CalI (P : Program) (w : World) (K : PySem.W.Frag) (mg : Str → Option Value) (base : Heap) (C : Addr) (x : Str) (ps : List Str) (j : Nat) (sp : Sp) : Prop :=
  ∃ f fd, Mk K C f ∧ mg x = some (.ref C) ∧ Binds K fd ps [] ∧ FnOk P w K mg base (L2N.CX P w) j f fd ps sp
section
variable {X : Cx} {k : Nat} {f C : Addr} {fd : FuncData} {ps : List Str} {sp : Sp} {E : St → XK} {m x : Str} {apos pos p : Pos} {o e : Expr} {es : List Expr} {ta : TE} {t : TA}
def tMethS (C : Addr) (m : Str) (sp : Sp) (E : St → XK) (ta : TE) (t : TA) : TE := fun σ H Q => ta σ H fun x H1 => ∃ a dx fs, x = .ref a ∧ H1 a = some (.ins C dx fs) ∧ fs.lookup m = none ∧ t σ H1 fun vs H2 => sp (x :: vs) H2 Q (E σ)
theorem pe_methS' {pl : Sem Bool} (he : PE X o ta) (c : Cls X.K C) (hm : Meth X.K C m f) (F : FnOk X.prog X.w X.K X.mg X.base (L2N.CX X.prog X.w) k f fd ps sp) (hr : Room k X.A) (hb : Binds X.K fd ps []) (hx : ∀ σ, PassesAt (L2N.CX X.prog X.w) X σ (E σ)) (ha : PA X (e :: es) t)
    (hst : starEach (e :: es) X.env = (false, eval e X.env) :: starEach es X.env := by rfl) (hpl : (backTo pos (starEach es X.env)).any (·.1) = false := by rfl)
    (ht : eval (.Call (.Attribute o m apos) (e :: es) [] pos) X.env = (do
      let ov ← eval o X.env
      standAt apos.atName
      let (f, first) ← holding [ov] (getMethod ov m pl)
      callWith pos f first (backTo pos (starEach (e :: es) X.env)) (backToKw pos (keywordEach [] X.env))) := by rfl) :
    PE X (.Call (.Attribute o m apos) (e :: es) [] pos) (tMethS C m sp E ta t) := by
  refine ⟨fun pins s σ H Q I h => ?_⟩
  refine PySem.W.methodCall_KW (pl := pl) (thn (he.run pins s σ H _ I h) fun u s1 ⟨x, H1, I1, rx, a, dx, fs, ex, ea, l, q⟩ => ?_) ht
  subst ex
  obtain rfl : u = Value.ref a := rx
  refine getmeth_ok I1 ea c hm l ?_
  refine PySem.W.callWith_K (first := [.ref a]) (h₀ := X.base) I.ok.mod.kin hm.kp (thn (ha.run pos pins s1 σ H1 _ I1 q) fun us s2 ⟨vs, H2, I2, r, q2⟩ => ⟨I2.kIn, ?_⟩) hst hpl
  exact run_fnS (us := .ref a :: us) (vs := .ref a :: vs) F hr hb (hx σ) I2 (.cons rfl r) q2
theorem pe_methS0 {pl : Sem Bool} (he : PE X o ta) (c : Cls X.K C) (hm : Meth X.K C m f) (F : FnOk X.prog X.w X.K X.mg X.base (L2N.CX X.prog X.w) k f fd ps sp) (hr : Room k X.A) (hb : Binds X.K fd ps []) (hx : ∀ σ, PassesAt (L2N.CX X.prog X.w) X σ (E σ))
    (ht : eval (.Call (.Attribute o m apos) [] [] pos) X.env = (do
      let ov ← eval o X.env
      standAt apos.atName
      let (f, first) ← holding [ov] (getMethod ov m pl)
      callWith pos f first (backTo pos (starEach [] X.env)) (backToKw pos (keywordEach [] X.env))) := by rfl) :
    PE X (.Call (.Attribute o m apos) [] [] pos) (tMethS C m sp E ta tNil) := by
  refine ⟨fun pins s σ H Q I h => ?_⟩
  refine PySem.W.methodCall_KW (pl := pl) (thn (he.run pins s σ H _ I h) fun u s1 ⟨x, H1, I1, rx, a, dx, fs, ex, ea, l, q⟩ => ?_) ht
  subst ex
  obtain rfl : u = Value.ref a := rx
  refine getmeth_ok I1 ea c hm l ?_
  exact PySem.W.callWith_K0 (first := [.ref a]) I1.kIn hm.kp (run_fnS (us := [.ref a]) (vs := [.ref a]) F hr hb (hx σ) I1 (.cons rfl .nil) q)
theorem run_makeS {pins : List (Addr × Obj)} {σ : St} {H : Hp} {s : Shared} {Q : VK} {us : List Value} {vs : List V} (M : Mk X.K C f) (F : FnOk X.prog X.w X.K X.mg X.base (L2N.CX X.prog X.w) k f fd ps sp) (hr : Room (k + 1) X.A) (hb : Binds X.K fd ps [])
    (hx : PassesAt (L2N.CX X.prog X.w) X σ (E σ)) (I : Inv X pins σ H s) (r : Vals vs us)
    (h : ∀ x dx, H x = none → H dx = none → dx ≠ x → sp (.ref x :: vs) (upd (upd H dx (.own x)) x (.ins C dx [])) (fun v H2 => v = .non ∧ Q (.ref x) H2) (E σ)) :
    wpAny (model X.prog X.w) X.A (call (.ref C) us) (EP X pins σ Q) X.xe s := by
  have hq := h (s.heap.objs.size + 1) s.heap.objs.size (I.hok.fresh (Nat.le_succ _)) (I.hok.fresh (Nat.le_refl _)) (Nat.ne_of_lt (Nat.lt_succ_self _))
  have I2 := Inv.made (C := C) I
  have r2 : Vals (V.ref (s.heap.objs.size + 1) :: vs) (Value.ref (s.heap.objs.size + 1) :: us) := .cons rfl r
  have hl : (Value.ref (s.heap.objs.size + 1) :: us).length = ps.length := by
    have e := r2.length
    rw [F.len _ _ _ _ hq] at e
    exact e.symm
  have b := hb _ (Value.ref (s.heap.objs.size + 1) :: us) I2.kIn (by rw [List.append_nil]; exact hl)
  rw [List.append_nil] at b
  refine wpAny_call (make_map (f := f) I.kIn M.makes M.init (beq_iff_eq.mp M.fn) (codeAny_mono (F.run _ X.stack _ _ ⟨Value.ref (s.heap.objs.size + 1) :: us, []⟩ (Value.ref (s.heap.objs.size + 1) :: us) _ _ (E σ) (hr.make C us [])
    (I2.env0.make C us []) b r2 hq) fun r s' hq' => ?_))
  cases r with
  | error e => exact hx pins _ _ e s' I2 hq'
  | ok fl =>
    cases fl with
    | ret u =>
      obtain ⟨v, H', I3, rv, ev, q3⟩ := I2.after hq'
      subst ev
      exact ⟨rv, ⟨V.ref (s.heap.objs.size + 1), H', I3, rfl, q3⟩⟩
    | next => exact False.elim hq'
    | brk => exact False.elim hq'
    | cont => exact False.elim hq'
def tMakeS (C : Addr) (sp : Sp) (E : St → XK) (t : TA) : TE := fun σ H Q => t σ H fun vs H1 => ∀ x dx, H1 x = none → H1 dx = none → dx ≠ x → sp (.ref x :: vs) (upd (upd H1 dx (.own x)) x (.ins C dx [])) (fun v H2 => v = .non ∧ Q (.ref x) H2) (E σ)
theorem pe_makeS (M : Mk X.K C f) (F : FnOk X.prog X.w X.K X.mg X.base (L2N.CX X.prog X.w) k f fd ps sp) (hr : Room (k + 1) X.A) (hg : Gl X x) (hm : X.mg x = some (.ref C)) (hb : Binds X.K fd ps []) (hx : ∀ σ, PassesAt (L2N.CX X.prog X.w) X σ (E σ))
    (ha : PA X (e :: es) t) (hdb : (x == ("__debug__" : Str)) = false := by decide) (he : starEach (e :: es) X.env = (false, eval e X.env) :: starEach es X.env := by rfl) (hpl : (backTo pos (starEach es X.env)).any (·.1) = false := by rfl) :
    PE X (.Call (.Name x p) (e :: es) [] pos) (tMakeS C sp E t) := by
  refine ⟨fun pins s σ H Q I h => ?_⟩
  refine wpAny_Call_Name_kw (ld_glob I hg hm ?_ hdb)
  refine PySem.W.callWith_K (h₀ := X.base) I.ok.mod.kin M.kp (thn (ha.run pos pins s σ H _ I h) fun us s1 ⟨vs, H1, I1, r, q⟩ => ⟨I1.kIn, ?_⟩) he hpl
  exact run_makeS M F hr hb (hx σ) I1 r q
end
theorem RdA.no {F X : Hp} {cs : Fs} {fs : List (Str × V)} {names : List Str} {m : Str} (h : RdA F X cs fs) (hk : cs.map (·.1) = names) (hm : m ∉ names) : fs.lookup m = none := look_no (h.keys.trans hk) hm
section
variable {X : Cx} {W : WX} {G : Gm} {k : Nat}
theorem fe_methB0 {κ ρ : Type} {j : Nat} {Cl : Addr} {U : κ → Fs} {names : List Str} {ps : List Str} {m : Str} {o : Expr} {apos pos : Pos} {mo : M κ} {par : κ × Unit → List Sl} {mir : κ × Unit → M ρ} {res : ρ → Sl} {R : Rl ρ} {mm : M ρ} {pl : Sem Bool} (C : Cok X W k)
    (h : CalM X.prog X.w X.K X.mg X.base Cl m ps j (spP X.K par mir res)) (hj : j ≤ k) (cC : Cls X.K Cl) (hU : ∀ a0, (U a0).map (·.1) = names) (hno : m ∉ names) (hp : ArgOk (rac (nw (tBx Cl U)) ra0) par) (hr : ResOf res R) (he : FE X W G o mo (nw (tBx Cl U))) (hme : (mo.bind fun a => mir (a, ())) = mm := by rfl)
    (ht : eval (.Call (.Attribute o m apos) [] [] pos) X.env = (do
      let ov ← eval o X.env
      standAt apos.atName
      let (f, first) ← holding [ov] (getMethod ov m pl)
      callWith pos f first (backTo pos (starEach [] X.env)) (backToKw pos (keywordEach [] X.env))) := by rfl) :
    FE X W G (.Call (.Attribute o m apos) [] [] pos) mm R := by
  obtain ⟨f, fd, hm, hb, Fk⟩ := h
  rw [← hme]
  refine PE.weak (pe_methS0 (E := WE W) he cC hm Fk (C.hr.mono hj) hb (fun σ => L2N.passAt C.tk σ) ht) fun σ H Q ⟨B, tl, F, D⟩ => ?_
  refine ⟨B, tl, F, D.seq fun a0 F1 H1 ea g1 D1 v rv => ?_⟩
  obtain ⟨p, dx, fs, ev, hp1, hrd⟩ := rv
  refine ⟨p, dx, fs, ev, hp1, hrd.no (hU a0) hno, ?_⟩
  exact ask_pure (A := rac (nw (tBx Cl U)) ra0) (a := (a0, ())) (vs := [v]) hp hr g1.h.kn D1 ⟨v, [], rfl, ⟨p, dx, fs, ev, hp1, hrd⟩, rfl⟩
end
section
variable {ε : Type} {Eh : EH ε} {X : Cx} {W : WX} {G : Gm} {tl : List Nat} {k : Nat} {α ε1 ρ β : Type} {par : α → (Nat → V) → List Sl} {mir : α → Mg ε1 ρ} {res : ρ → Sl} {outs : ρ → (Nat → V) → List (V × Sl)} {cls : ε1 → Er} {outsE : ε1 → (Nat → V) → List (V × Sl)} {m : M β} {g : β → α} {w : Nat → V} {ks kt kte : List Nat} {κ : List (Option Nat)} {p : Er → ε} {q : ε1 → ε} {mm : Mg ε ρ} {par' : Unit × β → List Sl}
theorem fx_meth {j : Nat} {Cl : Addr} {τ : Type} {U : τ → Fs} {r0 : τ} {names : List Str} {ps : List Str} {mt : Str} {o e : Expr} {es : List Expr} {apos pos : Pos} {A : ρ → Hp → V → Prop} {Ar : Ra β} {v0 : V} {T0 : Sl} (k0 : Nat) {pl : Sem Bool} (C : Cok X W k)
    (h : CalM X.prog X.w X.K X.mg X.base Cl mt ps j (spG X.K par mir res outs cls outsE)) (hj : j ≤ k) (cC : Cls X.K Cl) (hU : (U r0).map (·.1) = names) (hno : mt ∉ names) (hG : G[k0]? = some (some (pn v0 T0))) (hs : Gives T0 r0 (nw (tBx Cl U)))
    (he : FE X W G o (M.ok ()) (rV v0)) (ha : FA X W G (e :: es) m Ar) (hag : Ags G ks (rac (rV v0) Ar) par' κ) (hb : Beh Eh G X.N.length ks kt kte κ w outs cls outsE q) (hres : ∀ r Y F H v ms, (res r).r Y F H v ms → A r F v) (hp : Pay Eh G p := by exact pay0 rfl)
    (hm : (m.bindP p fun a => (mir (g a)).bindP q fun r => M.ok r) = mm := by rfl) (hpar : ∀ b, par (g b) w = par' ((), b) := by exact fun _ => rfl)
    (hst : starEach (e :: es) X.env = (false, eval e X.env) :: starEach es X.env := by rfl) (hpl : (backTo pos (starEach es X.env)).any (·.1) = false := by rfl)
    (ht : eval (.Call (.Attribute o mt apos) (e :: es) [] pos) X.env = (do
      let ov ← eval o X.env
      standAt apos.atName
      let (f, first) ← holding [ov] (getMethod ov mt pl)
      callWith pos f first (backTo pos (starEach (e :: es) X.env)) (backToKw pos (keywordEach [] X.env))) := by rfl) :
    FX X W Eh tl G (.Call (.Attribute o mt apos) (e :: es) [] pos) mm A (fun r _ => setK G kt (outs r w)) := by
  rw [← hm]
  obtain ⟨f, fd, hmt, hbi, Fk⟩ := h
  refine ⟨fun pins s σ H Q I ⟨B, F, T⟩ => (pe_methS' (E := WE W) he cC hmt Fk (C.hr.mono hj) hbi (fun σ => L2N.passAt C.tk σ) ha hst hpl ht).run pins s σ H Q I ?_⟩
  have T' : ToldX X.K W Eh tl G ((M.ok () : M Unit).bindP p fun _ => m.bindP p fun a => (mir (g a)).bindP q fun r => M.ok r) (fun r _ => setK G kt (outs r w)) (fun r v F' H' => A r F' v → Q v H') σ H B F := T
  refine ⟨B, tl, F, T'.tellE hp fun _ F0 H0 _ g0 T0' v rv => ?_⟩
  have ev : v = v0 := rv
  subst ev
  obtain ⟨ms, z⟩ := T0'.st.sl
  obtain ⟨u, _, e1, h2⟩ := z.has k0 _ hG
  subst e1
  obtain ⟨p1, dx, fs, ev, hp1, hrd⟩ := hs _ F0 H0 _ _ h2 T0'.st.fh T0'.st.yh (fun y hy => z.mem k0 y hy) H0
  refine ⟨p1, dx, fs, ev, hp1, hrd.no hU hno, B, tl, F0, T0'.tellE hp fun a F1 H1 ea g1 T1 vs rv => ?_⟩
  have hag' : Ags G ks (rac (rV u) Ar) (fun b => par (g b.2) w) κ := by
    have : (fun b : Unit × β => par (g b.2) w) = par' := funext fun b => hpar b.2
    rw [this]
    exact hag
  exact fx_run (g := fun b : Unit × β => g b.2) (a := ((), a)) (vs := u :: vs) I.len hag' hb hres (z.grow g1) (fun k x hx => (z.mem k x hx).2.ne) T1 ⟨u, vs, rfl, rfl, rv⟩
end
section
variable {X : Cx} {W : WX} {G : Gm} {k : Nat}
theorem make_ask {K : PySem.W.Frag} {α ρ : Type} {Cl : Addr} {U : ρ → Fs} {par : α → List Sl} {mir : α → M ρ} {A : Ra α} {B : Bs} {tl : List Nat} {F1 H0 H1 : Hp} {σ : St} {Q : VK} {a : α} {vs : List V} (hp : ArgOk A par) (kn : Kn H0 H1) (D1 : Told K W G (mir a) (fun a F' H' => ∀ v, (ro (tBx Cl U)).r a H0 F' H' v → Q v H') σ H1 B tl F1) (rv : A.r a H0 F1 H1 vs)
    (x dx : Addr) (hx : H1 x = none) (hdx : H1 dx = none) (hne : dx ≠ x) :
    spG K (fun a w => pn (w 0) (ob (tB Cl) []) :: par a) mir (fun _ => sv fUnit ()) (fun r w => [(w 0, ob (tBx Cl U) r)]) (fun e => e) (fun _ _ => []) (.ref x :: vs) (upd (upd H1 dx (.own x)) x (.ins Cl dx [])) (fun v H2 => v = .non ∧ Q (.ref x) H2) (WE W σ) := by
  have e12 : ∀ y o, H1 y = some o → upd (upd H1 dx (.own x)) x (.ins Cl dx []) y = some o := fun y o h => by
    have h1 : y ≠ x := fun q => by rw [q, hx] at h; cases h
    have h2 : y ≠ dx := fun q => by rw [q, hdx] at h; cases h
    rw [upd_ne h1, upd_ne h2]
    exact h
  have hy1 : Ex H1 (hid [x] (upd (upd H1 dx (.own x)) x (.ins Cl dx []))) := fun y o h => by
    rw [hid_not (fun hm => by rw [List.mem_singleton.mp hm, hx] at h; cases h)]
    exact e12 y o h
  have hF : F1 x = none := D1.st.fh.free hx
  have pm := hp.run a H0 F1 H1 vs D1.st.fh rv
  refine ⟨a, F1, fun _ => .ref x, [x], fun i => if i = 0 then [x] else [], fun y o h => e12 y o (D1.st.fh y o h), ⟨congrArg (· + 1) pm.len, fun i s e => ?_, fun i hi => ?_, fun i y hy => ?_, fun i s e o y hy => ?_, fun i s e o y hy j hj hm => ?_⟩, D1.ne, fun r er v F' H' ms' gx c => ?_, fun e er F' H' ms' gx c => ?_⟩
  · cases i with
    | zero =>
      simp at e
      subst e
      exact ⟨.ref x, rfl, rfl, x, dx, [], [], rfl, upd_same, .nil, (fun h => nomatch h), rfl⟩
    | succ i =>
      obtain ⟨v, h1, h2⟩ := pm.has i s (by simpa using e)
      exact ⟨v, by simpa using h1, s.st h2 hy1.xs (XS.refl _) fun y hy => nomatch hy⟩
  · cases i with
    | zero => simp at hi
    | succ i => rfl
  · cases i with
    | zero =>
      cases List.mem_singleton.mp hy
      exact ⟨hF, NT.up⟩
    | succ i => exact nomatch hy
  · cases i with
    | zero => exact hy
    | succ i => exact nomatch hy
  · cases i with
    | zero =>
      cases j with
      | zero => exact hj rfl
      | succ j => exact nomatch hm
    | succ i => exact nomatch hy
  · have g : Gr F1 H1 F' H' := ⟨gx.f, fun y o h => gx.h y o (fun hm => by rw [List.mem_singleton.mp hm, hx] at h; cases h) (e12 y o h), gx.fh, fun y h1 h2 => gx.no y h1 (by
      obtain ⟨o, q1, q2⟩ := h2
      exact ⟨o, e12 y o q1, q2⟩)⟩
    refine ⟨(c.has 0 _ _ rfl H').1, D1.ok r er F' H' g (.ref x) ⟨ms' 1, c.has 1 _ _ rfl H', fun y hy => ?_⟩⟩
    obtain ⟨m1, m2, m3⟩ := c.mem 1 y hy
    have : H1 y = none := by
      rcases hid_none m1 with h | h
      · rw [List.mem_singleton.mp h]; exact hx
      · cases q : H1 y with
        | none => rfl
        | some o => rw [e12 y o q] at h; cases h
    exact ⟨kn.free this, m2, m3⟩
  · have g : Gr F1 H1 F' H' := ⟨gx.f, fun y o h => gx.h y o (fun hm => by rw [List.mem_singleton.mp hm, hx] at h; cases h) (e12 y o h), gx.fh, fun y h1 h2 => gx.no y h1 (by
      obtain ⟨o, q1, q2⟩ := h2
      exact ⟨o, e12 y o q1, q2⟩)⟩
    exact D1.er e er F' H' g
abbrev spI (K : PySem.W.Frag) {α ρ : Type} (Cl : Addr) (U : ρ → Fs) (par : α → List Sl) (mir : α → M ρ) : Sp := spG K (fun a w => pn (w 0) (ob (tB Cl) []) :: par a) mir (fun _ => sv fUnit ()) (fun r w => [(w 0, ob (tBx Cl U) r)]) (fun e => e) (fun _ _ => [])
theorem fe_make {α ρ : Type} {j : Nat} {Cl : Addr} {U : ρ → Fs} {ps : List Str} {x : Str} {p pos : Pos} {e : Expr} {es : List Expr} {par : α → List Sl} {mir : α → M ρ} {m : M α} {mm : M ρ} {A : Ra α} (C : Cok X W k)
    (h : CalI X.prog X.w X.K X.mg X.base Cl x ps j (spI X.K Cl U par mir)) (hj : j + 1 ≤ k) (hp : ArgOk A par) (ha : FA X W G (e :: es) m A) (hme : m.bind mir = mm := by rfl)
    (hg : Gl X x := by rfl) (hdb : (x == ("__debug__" : Str)) = false := by decide) (he : starEach (e :: es) X.env = (false, eval e X.env) :: starEach es X.env := by rfl) (hpl : (backTo pos (starEach es X.env)).any (·.1) = false := by rfl) :
    FE X W G (.Call (.Name x p) (e :: es) [] pos) mm (ro (tBx Cl U)) := by
  obtain ⟨f, fd, M, hm, hb, Fk⟩ := h
  rw [← hme]
  exact PE.weak (pe_makeS (E := WE W) M Fk (C.hr.mono hj) hg hm hb (fun σ => L2N.passAt C.tk σ) ha hdb he hpl) fun σ H Q ⟨B, tl, F, D⟩ => ⟨B, tl, F, D.seq fun a F1 H1 _ g1 D1 vs rv x' dx hx hdx hne => make_ask hp g1.h.kn D1 rv x' dx hx hdx hne⟩
end
end LK
namespace LK
open PySem L2
section
variable {X : Cx} {W : WX} {G : Gm}
end
end LK
namespace LK
open PySem L2
section
variable {G : Gm}
theorem Imp.mv {i j : Nat} {w : V} {α : Type} {T : Th α} {a : α} (hi : G[i]? = some (some (sv fVal w)) := by rfl) (hj : G[j]? = some (some (pn w (ob T a))) := by rfl) (hne : i ≠ j := by decide) : Imp G ((G.set i (some (pn w (ob T a)))).set j none) := fun _ _ _ _ _ st => by
  obtain ⟨ms, z⟩ := st.sl
  obtain ⟨u, h1, h2, hm⟩ := z.has i _ hi
  obtain ⟨u2, _, e2, h3⟩ := z.has j _ hj
  have e1 : u = w := h2
  subst e1
  subst e2
  exact st.two z (t1 := some (pn u2 (ob T a))) (t2 := none) (ms j) [] hne (List.getElem?_eq_some_iff.mp hi).1 (List.getElem?_eq_some_iff.mp hj).1 ⟨u2, h1, rfl, h3⟩ rfl (fun x hx => by
    rcases hx with hx | hx
    · exact ⟨j, _, .inr rfl, hj, rfl, hx⟩
    · exact nomatch hx) (fun x _ hx => nomatch hx)
end
section
variable {X : Cx} {W : WX} {G : Gm} {α β : Type} {A : Rf α}
variable {ι : Type} {tl : List Nat} {G0 G1 : ι → Gm}
end
end LK
namespace LK
open PySem L2
section
variable {X : Cx} {W : WX} {G : Gm} {α : Type} {A : Rf α}
end
section
variable {X : Cx} {W : WX} {G : Gm} {κ α : Type} {T : KY κ} {A : Rf α}
theorem Told.grow {K : PySem.W.Frag} {α : Type} {m : M α} {P : α → Hp → Hp → Prop} {σ : St} {H : Hp} {B : Bs} {tl : List Nat} {F F1 H1 : Hp} (T : Told K W G m P σ H B tl F) (g : Gr F H F1 H1) : Told K W G m P σ H1 B tl F1 :=
  ⟨T.st.grow g, T.ne, fun b e F' H' g' => T.ok b e F' H' (g.trans g'), fun e q F' H' g' => T.er e q F' H' (g.trans g')⟩
end
end LK
namespace LK
open PySem L2
section
variable {prog : Program} {w : World} {A : Around} {E : Value → Shared → Prop} {s : Shared} {l : Addr} {items : Array Value}
end
end LK
namespace LK
open PySem PySem.Spec PyProof.Rows L2 L2H
structure RoomQ (k : Nat) (A : Around) (p : Addr × Obj) : Prop where
  r : RoomH k A
  h : Hot1 A p
theorem RoomQ.mono {j k : Nat} {A : Around} {p : Addr × Obj} (r : RoomQ k A p) (h : j ≤ k) : RoomQ j A p := ⟨r.r.mono h, r.h⟩
theorem RoomQ.depth {k : Nat} {A : Around} {p : Addr × Obj} (r : RoomQ k A p) : A.depth < recursionLimit := r.r.depth
structure FnS (P : Program) (w : World) (K : PySem.W.Frag) (mg : Str → Option Value) (base : Heap) (k : Nat) (f : Addr) (fd : FuncData) (ps : List Str) (sp : Sp) : Prop where
  len : ∀ vs H Q E, sp vs H Q E → vs.length = ps.length
  run : ∀ (A : Around) (outer : List Env) (s : Shared) (H : Hp) (args : Args) (us : List Value) (vs : List V) (Q : VK) (E : XK) (p : Addr × Obj), RoomQ k A p → PinOk outer H s p → Env0 P w K mg base A outer s H → BindsTo s fd args (ps.zip us) → Vals vs us → sp vs H Q E →
    codeAny (model P w) A (.call (.ref f) args) (CR (L2N.CX P w) outer P w H s Q E) s
section
variable {X : Cx} {k : Nat} {f C : Addr} {fd : FuncData} {ps : List Str} {sp : Sp} {E : L2.St → XK} {m : Str} {pos apos : Pos} {o : Expr} {ta : TE}
theorem run_fnS {pins : List (Addr × Obj)} {σ : L2.St} {H : Hp} {s : Shared} {Q : VK} {us : List Value} {vs : List V} {p : Addr × Obj} (F : FnS X.prog X.w X.K X.mg X.base k f fd ps sp) (hr : RoomQ k X.A p) (hp : p ∈ X.pn) (hb : Binds X.K fd ps []) (hx : PassesAt (L2N.CX X.prog X.w) X σ (E σ))
    (I : Inv X pins σ H s) (r : Vals vs us) (h : sp vs H Q (E σ)) : wpAny (model X.prog X.w) X.A (call (.ref f) us) (EP X pins σ Q) X.xe s := by
  have hl : us.length = ps.length := by rw [← r.length]; exact F.len _ _ _ _ h
  have b := hb s us I.kIn (by rw [List.append_nil]; exact hl)
  rw [List.append_nil] at b
  have P1 := I.pin p (List.mem_append_left _ hp)
  have hpin : PinOk X.stack H s p := ⟨P1.1, P1.2.1, fun hm => (List.mem_cons.mp (I.stkSub p.1 hm)).elim P1.2.2.1 P1.2.2.2.1, P1.2.2.2.2⟩
  refine wpAny_call (codeAny_mono (F.run X.A X.stack s H ⟨us, []⟩ us vs Q (E σ) p hr hpin I.env0 b r h) fun r s' hq => ?_)
  cases r with
  | error e => exact hx pins H s e s' I hq
  | ok fl =>
    cases fl with
    | ret u => exact I.after hq
    | next => exact False.elim hq
    | brk => exact False.elim hq
    | cont => exact False.elim hq
end
section
variable {X : Cx} {G : Gm} {k : Nat} {f C : Addr} {fd : FuncData} {ps : List Str} {sp : Sp} {E : L2.St → XK} {m : Str} {pos apos : Pos} {o : Expr} {ta : TE}
theorem FnS.mono {P : Program} {w : World} {K : PySem.W.Frag} {mg : Str → Option Value} {base : Heap} {j k : Nat} {f : Addr} {fd : FuncData} {ps : List Str} {sp : Sp} (F : FnS P w K mg base j f fd ps sp) (h : j ≤ k) : FnS P w K mg base k f fd ps sp :=
  ⟨F.len, fun A outer s H args us vs Q E p hr => F.run A outer s H args us vs Q E p (hr.mono h)⟩
end
section
variable {X : Cx} {W : WX} {G : Gm} {κ α : Type} {T : KY κ} {A : Rf α}
end
section
variable {ε1 ε : Type} {E1 : EH ε1} {Eh : EH ε} {X : Cx} {W : WX} {G : Gm} {tl : List Nat} {ρ b s : Type} {R : ρ → V → Gm} {Gb : b → Gm} {N : s → Gm} {k : Nat}
end
end LK
namespace LK
open PySem L2
section
variable {K : PySem.W.Frag} {B : Bs} {tl : List Nat} {G : Gm} {F H : Hp} {σ : St} {α β : Type} {T : Th α} {U : Th β} {a : α} {b : β} {k g : Nat} {q w : V}
end
section
variable {ε : Type} {Eh : EH ε} {X : Cx} {W : WX} {G : Gm} {tl : List Nat} {ρ b s : Type} {R : ρ → V → Gm} {Gb : b → Gm} {N : s → Gm} {α β : Type} {T : Th α} {U : Th β} {x : α} {y : β} {q : V}
end
section
variable {X : Cx} {W : WX} {G : Gm} {α β : Type} {T : Th α} {U : Th β}
end
section
variable {ε α : Type} {Eh : EH ε} {X : Cx} {W : WX} {G : Gm} {tl : List Nat}
end
end LK
namespace LK
open PySem PySem.Spec PyProof.Rows L2 L2H
structure FnE (P : Program) (w : World) (K : PySem.W.Frag) (mg : Str → Option Value) (base : Heap) (k : Nat) (f : Addr) (fd : FuncData) (ps : List Str) (sp : Addr × Obj → Sp) : Prop where
  len : ∀ p vs H Q E, sp p vs H Q E → vs.length = ps.length
  run : ∀ (A : Around) (outer : List Env) (s : Shared) (H : Hp) (args : Args) (us : List Value) (vs : List V) (Q : VK) (E : XK) (p : Addr × Obj), RoomQ k A p → PinOk outer H s p → Env0 P w K mg base A outer s H → BindsTo s fd args (ps.zip us) → Vals vs us → sp p vs H Q E →
    codeAny (model P w) A (.call (.ref f) args) (CR (L2N.CX P w) outer P w H s Q E) s
section
variable {X : Cx} {k : Nat} {f C : Addr} {fd : FuncData} {ps : List Str} {sp : Addr × Obj → Sp} {E : L2.St → XK} {m : Str} {pos apos : Pos} {o : Expr} {ta : TE}
end
theorem FnE.mono {P : Program} {w : World} {K : PySem.W.Frag} {mg : Str → Option Value} {base : Heap} {j k : Nat} {f : Addr} {fd : FuncData} {ps : List Str} {sp : Addr × Obj → Sp} (F : FnE P w K mg base j f fd ps sp) (h : j ≤ k) : FnE P w K mg base k f fd ps sp :=
  ⟨F.len, fun A outer s H args us vs Q E p hr => F.run A outer s H args us vs Q E p (hr.mono h)⟩
section
variable {X : Cx} {W : WX} {G : Gm} {k : Nat}
end
section
variable {X : Cx} {W : WX} {G : Gm} {k : Nat} {α : Type} {T : Th α}
end
section
variable {ε : Type} {Eh : EH ε} {X : Cx} {W : WX} {G : Gm} {tl : List Nat} {ρ b s : Type} {R : ρ → V → Gm} {Gb : b → Gm} {N : s → Gm} {α : Type}
theorem Stt.retell {B : Bs} {F H : Hp} {σ : L2.St} {g : Nat} {s1 s2 : Sl} (st : Stt B tl G F H σ) (hg : G[g]? = some (some s1)) (ho : s2.own = s1.own) (h : ∀ Y F H v ms, s1.r Y F H v ms → s2.r Y F H v ms) : Stt B tl (G.set g (some s2)) F H σ := by
  obtain ⟨ms, z⟩ := st.sl
  have hl : g < G.length := (List.getElem?_eq_some_iff.mp hg).1
  have get : ∀ {i : Nat} {t : Sl}, (G.set g (some s2))[i]? = some (some t) → ∃ t0 : Sl, G[i]? = some (some t0) ∧ t.own = t0.own ∧ ∀ Y F H v ms, t0.r Y F H v ms → t.r Y F H v ms := fun {i t} e => by
    by_cases q : i = g
    · subst q
      rw [List.getElem?_set_self hl] at e
      cases e
      exact ⟨s1, hg, ho, h⟩
    · rw [List.getElem?_set_ne (Ne.symm q)] at e
      exact ⟨t, e, rfl, fun _ _ _ _ _ z => z⟩
  refine ⟨st.g, st.bh, st.fr, st.ls, by rw [List.length_set]; exact st.len, ms, ⟨fun i t e => ?_, fun i e => ?_, z.mem, fun i t e o => ?_, fun i t e o => ?_⟩⟩
  · obtain ⟨t0, h1, h2, h3⟩ := get e
    obtain ⟨v, h4, h5⟩ := z.has i t0 h1
    exact ⟨v, h4, h3 _ _ _ _ _ h5⟩
  · by_cases q : i = g
    · subst q
      exact absurd (List.getElem?_set_self hl) (e s2)
    · exact z.non i fun t q' => e t (by rw [List.getElem?_set_ne (Ne.symm q)]; exact q')
  · obtain ⟨t0, h1, h2, h3⟩ := get e
    exact z.own i t0 h1 (by rw [← h2]; exact o)
  · obtain ⟨t0, h1, h2, h3⟩ := get e
    exact z.sep i t0 h1 (by rw [← h2]; exact o)
end
section
variable {ε : Type} {Eh : EH ε} {X : Cx} {W : WX} {G : Gm} {tl : List Nat} {ρ b s : Type} {R : ρ → V → Gm} {Gb : b → Gm} {N : s → Gm} {α : Type}
theorem ft_never {e : Expr} : FT X W G e (none : M Bool) := ⟨fun pins s σ H Q I ⟨B, tl, F, D⟩ => absurd rfl D.ne⟩
theorem fs_never {sts : List Stmt} : FS X W Eh tl G sts (none : Mg ε (Fl ρ b s)) R Gb N := PSs.weak pss_never fun D σ H ⟨B, F, T⟩ => T.ne rfl
def optC {β : Type} (o : Option α) (m0 : Mg ε β) (m1 : α → Mg ε β) : Mg ε β := match o with
  | none => m0
  | some a => m1 a
theorem fs_optC (i : Nat) {sts : List Stmt} {A : Rf α} {o : Option α} {m0 : Mg ε (Fl ρ b s)} {m1 : α → Mg ε (Fl ρ b s)} (hG : G[i]? = some (some (sv (fOpt A) o))) (h0 : FS X W Eh tl (G.set i (some (sv fUnit ()))) sts m0 R Gb N) (h1 : ∀ a, FS X W Eh tl (G.set i (some (sv A a))) sts (m1 a) R Gb N) :
    FS X W Eh tl G sts (optC o m0 m1) R Gb N := by
  cases o with
  | none => exact fs_imp (fun B tl F H σ st => st.retell (s2 := sv fUnit ()) hG rfl fun Y F H v ms z => z) h0
  | some a => exact fs_imp (fun B tl F H σ st => st.retell (s2 := sv A a) hG rfl fun Y F H v ms z => ⟨z.1.1, z.2⟩) (h1 a)
theorem ol_isNV {α : Type} {A : Rf α} (n : NoN A) {a : α} {u : Unit} : OpP (fun x y H Q => y = .non ∧ Q (.bl (decide (x = .non))) H) A.up fUnit.up a u (M.ok false) fBool.up := opp fun F H v w Q x ha hb k => by
  refine ⟨hb, ?_⟩
  rw [decide_eq_false (n _ _ _ ha)]
  exact k _ rfl
end
end LK
namespace LK
open PySem L2
section
variable {ε : Type} {Eh : EH ε} {X : Cx} {W : WX} {G : Gm} {tl : List Nat} {α δ γ κ : Type}
theorem ToldX.sub {K : PySem.W.Frag} {ma : Mg ε α} {f : α → Mg ε δ} {N : δ → V → Gm} {P : δ → V → Hp → Hp → Prop} {σ : St} {H H2 F F2 : Hp} {B : Bs} {G2 : Gm} {c : α} (T : ToldX K W Eh tl G (ma.bind f) N P σ H B F) (e : ma = M.ok c) (x : Ex F F2) (st : Stt B tl G2 F2 H2 σ) : ToldX K W Eh tl G2 (f c) N P σ H2 B F2 := by
  subst e
  exact ⟨st, T.ne, fun a e v F' H' x' => T.ok a e v F' H' (x.trans x'), T.er⟩
end
end LK
namespace LK
open PySem PySem.Spec PyProof.Rows L2 L2H
section
variable {ε : Type} {Eh : EH ε} {X : Cx} {W : WX} {tl tl' : List Nat} {ρ b s : Type} {R : ρ → V → Gm} {Gs : s → Gm}
end
section
variable {X : Cx} {W : WX} {G : Gm} {k : Nat}
end
structure TLC {α β : Type} (T : Tv α) (A : Rf β) (f : α → List β) : Prop where
  run : ∀ {a F vs}, T.r a F vs → Pw (fun b x => A.r b F x) (f a) vs
section
variable {X : Cx} {W : WX} {G : Gm} {k : Nat} {α β : Type} {T : Tv α} {A : Rf β} {f : α → List β} {K : PySem.W.Frag}
end
end LK
namespace LK
open PySem L2
inductive Nt where
  | int (i : Int)
  | txt (s : List Nat)
  deriving DecidableEq
section
variable {X : Cx} {W : WX} {G : Gm} {K : PySem.W.Frag}
open PySem (PyData) in
end
end LK
namespace LK
open PySem L2
section
variable {X : Cx} {W : WX} {G : Gm} {α β : Type} {A : Rf α} {T : Tv β}
end
end LK
namespace LK
open PySem L2
section
variable {X : Cx} {W : WX} {G : Gm}
end
section
variable {X : Cx} {W : WX} {G : Gm} {α β : Type} {A : Rf α} {E : Rf β} {Gw : Gm} {kk : Nat}
end
end LK
namespace LK
open PySem L2
structure KYT (κ : Type) where
  A : Rf κ
  ok : κ → Prop
  k : κ → List Key
  inj : ∀ {a b}, k a = k b → a = b
  of : ∀ {x F v}, A.r x F v → ∃ p, v = .ref p ∧ F p = some (.tup ((k x).map kV)) ∧ ok x
  to : ∀ {x p F}, ok x → F p = some (.tup ((k x).map kV)) → A.r x F (.ref p)
inductive PdT {κ α : Type} (T : KYT κ) (R : α → V → Prop) : List (κ × α) → List (List Key × V) → Prop where
  | nil : PdT T R [] []
  | cons {k a v r ws} : T.ok k → R a v → PdT T R r ws → PdT T R ((k, a) :: r) ((T.k k, v) :: ws)
section
variable {κ α : Type} {T : KYT κ}
theorem PdT.imp {R R' : α → V → Prop} (f : ∀ a v, R a v → R' a v) : ∀ {as vs}, PdT T R as vs → PdT T R' as vs
  | _, _, .nil => .nil
  | _, _, .cons t h r => .cons t (f _ _ h) (r.imp f)
theorem PdT.len {R : α → V → Prop} : ∀ {as vs}, PdT T R as vs → as.length = vs.length
  | _, _, .nil => rfl
  | _, _, .cons _ _ r => congrArg (· + 1) r.len
theorem PdT.keys {R : α → V → Prop} : ∀ {d ws}, PdT T R d ws → ws.map (·.1) = d.map fun p => T.k p.1
  | _, _, .nil => rfl
  | _, _, .cons t h p => by rw [List.map_cons, List.map_cons, p.keys]
theorem PdT.tks {R : α → V → Prop} : ∀ {d ws}, PdT T R d ws → ∀ p ∈ d, T.ok p.1
  | _, _, .nil, _, h => nomatch h
  | _, _, .cons t h p, x, hx => (List.mem_cons.mp hx).elim (fun e => by rw [e]; exact t) (p.tks x)
theorem PdT.at {R : α → V → Prop} : ∀ {d : List (κ × α)} {ws : List (List Key × V)}, PdT T R d ws → ∀ {i : Nat} {k : List Key} {v : V}, ws[i]? = some (k, v) → ∃ kk a, d[i]? = some (kk, a) ∧ k = T.k kk ∧ T.ok kk ∧ R a v
  | _, _, .nil, i, k, v, h => by simp at h
  | _, _, @PdT.cons _ _ _ _ k' a v' r ws t h p, 0, k, v, e => by
    simp only [List.getElem?_cons_zero, Option.some.injEq, Prod.mk.injEq] at e
    exact ⟨k', a, rfl, e.1.symm, t, by rw [← e.2]; exact h⟩
  | _, _, @PdT.cons _ _ _ _ k' a v' r ws t h p, i + 1, k, v, e => by
    rw [List.getElem?_cons_succ] at e
    obtain ⟨kk, a', h1, h2, h3, h4⟩ := p.at e
    exact ⟨kk, a', by rw [List.getElem?_cons_succ]; exact h1, h2, h3, h4⟩
variable [DecidableEq κ]
theorem KYT.iff {k k' : κ} : (T.k k = T.k k') ↔ k = k' := ⟨T.inj, fun h => by rw [h]⟩
theorem KYT.dec (k k' : κ) : decide (T.k k = T.k k') = decide (k = k') := decide_eq_decide.mpr T.iff
theorem PdT.get {R : α → V → Prop} {k : κ} : ∀ {d ws}, PdT T R d ws → (dget d k = none ∧ valV ws (T.k k) = none) ∨ ∃ a v, dget d k = some a ∧ valV ws (T.k k) = some v ∧ R a v
  | _, _, .nil => .inl ⟨rfl, rfl⟩
  | _, _, @PdT.cons _ _ _ _ k' a v r ws t h p => by
    by_cases e : k' = k
    · subst e
      exact .inr ⟨a, v, by simp [dget], by simp [valV], h⟩
    · have e1 : dget ((k', a) :: r) k = dget r k := by simp [dget, List.find?_cons, e]
      have e2 : valV ((T.k k', v) :: ws) (T.k k) = valV ws (T.k k) := valV_neg (fun z => e (T.iff.mp z))
      rw [e1, e2]
      exact p.get
theorem PdT.any {R : α → V → Prop} {k : κ} : ∀ {d ws}, PdT T R d ws → (ws.any fun kv => decide (kv.1 = T.k k)) = d.any fun p => decide (p.1 = k)
  | _, _, .nil => rfl
  | _, _, .cons t h p => by rw [List.any_cons, List.any_cons, p.any, KYT.dec]
theorem PdT.map {R : α → V → Prop} {k : κ} {a : α} {v : V} (ha : R a v) : ∀ {d ws}, PdT T R d ws → PdT T R (d.map fun p => if p.1 = k then (p.1, a) else p) (ws.map fun kv => if kv.1 = T.k k then (kv.1, v) else kv)
  | _, _, .nil => .nil
  | _, _, @PdT.cons _ _ _ _ k' _ _ r ws t h p => by
    rw [List.map_cons, List.map_cons]
    by_cases e : k' = k
    · rw [if_pos e, if_pos (T.iff.mpr e)]
      exact .cons t ha (p.map ha)
    · rw [if_neg e, if_neg (fun z => e (T.iff.mp z))]
      exact .cons t h (p.map ha)
theorem PdT.snoc {R : α → V → Prop} {k : κ} {a : α} {v : V} (t : T.ok k) (ha : R a v) : ∀ {d ws}, PdT T R d ws → PdT T R (d ++ [(k, a)]) (ws ++ [(T.k k, v)])
  | _, _, .nil => .cons t ha .nil
  | _, _, .cons t' h p => .cons t' h (p.snoc t ha)
theorem PdT.put {R : α → V → Prop} {k : κ} {a : α} {v : V} {d ws} (t : T.ok k) (ha : R a v) (p : PdT T R d ws) : PdT T R (dput d k a) (putK ws (T.k k) v) := by
  unfold dput putK
  rw [p.any]
  split
  · exact p.map ha
  · exact p.snoc t ha
end

section
variable {ε : Type} {Eh : EH ε} {X : Cx} {W : WX} {G : Gm} {kk : Nat} {κ α : Type} [DecidableEq κ] {T : KYT κ} {A : Rf α}
end
section
variable {ε : Type} {Eh : EH ε} {X : Cx} {W : WX} {G : Gm} {kk : Nat} {κ α : Type} [DecidableEq κ] {T : KYT κ} {A : Rf α}
variable {tl : List Nat} {ρ b s : Type} {R : ρ → V → Gm} {Gb : b → Gm} {N : s → Gm}
end
section
variable {X : Cx} {pins : List (Addr × Obj)} {σ : St} {H : Hp} {s : Shared} {a b : Addr} {kvs : List (List Key × V)} {k : List Key} {A : Around} {E : Value → Shared → Prop}
end
section
variable {ε : Type} {Eh : EH ε} {X : Cx} {W : WX} {G : Gm} {kk : Nat} {κ α : Type} [DecidableEq κ] {T : KYT κ} {A : Rf α}
variable {tl : List Nat} {ρ b s : Type} {R : ρ → V → Gm} {Gb : b → Gm} {N : s → Gm}
end
section
variable {X : Cx} {W : WX} {G : Gm}
end
end LK
namespace LK
open PySem L2
section
variable {X : Cx} {W : WX} {G : Gm}
end
section
variable {ε : Type} {Eh : EH ε} {X : Cx} {W : WX} {G : Gm} {tl : List Nat} {α δ γ : Type}
end
end LK
namespace LK
open PySem L2
theorem OwA.snoc {F H : Hp} {f : Str} {c : Ce} {v : V} {m : List Addr} (hc : c.ow F H v m) : ∀ {cs : Fs} {fs : List (Str × V)} {ms : List Addr}, OwA F H cs fs ms → (∀ x ∈ m, x ∉ ms) → ∃ ms', OwA F H (cs ++ [(f, c)]) (fs ++ [(f, v)]) ms' ∧ ∀ x, x ∈ ms' ↔ x ∈ ms ∨ x ∈ m
  | _, _, _, .nil, _ => ⟨m ++ [], .cons hc .nil (fun _ _ z => nomatch z), fun x => by simp⟩
  | _, _, _, @OwA.cons _ _ g c' v' cs fs mg mr h t d, n => by
    obtain ⟨ms', o, k⟩ := OwA.snoc hc t fun x hx z => n x hx (List.mem_append.mpr (.inr z))
    refine ⟨mg ++ ms', .cons h o (fun x hx z => ?_), fun x => ?_⟩
    · rcases (k x).mp z with q | q
      · exact d x hx q
      · exact n x q (List.mem_append.mpr (.inl hx))
    · rw [List.mem_append, List.mem_append, k x, or_assoc]
section
variable {X : Cx} {W : WX} {G : Gm} {α : Type} {U : Th α}
end
section
variable {ε : Type} {Eh : EH ε} {X : Cx} {W : WX} {G : Gm} {kk : Nat} {tl : List Nat} {α : Type} {U : Th α}
end
section
variable {X : Cx} {W : WX} {G : Gm} {κ β γ : Type} {T : KY κ} {Bv : Rf γ} {E : Rf β} {Gw : Gm} {kk : Nat}
end
end LK
namespace LK
open PySem L2 PySem.Spec PyProof.Rows
section
variable {X : Cx}
theorem call_dsort {κ : KeyKind} (hc : X.calm = true) (O1 : κ.OneLt) {α : Type} {k : α → Key} {mkV : α → V} {Are : List Value → List α → Prop} {Srt : List α → Prop}
    (hA : ∀ {us : List Value} {ks : List α}, us.length = ks.length → (∀ (j : Nat) (v : Value), us[j]? = some v → ∃ y, ks[j]? = some y ∧ keyIs (k y) v = true) → Are us ks)
    (hK : ∀ {us ks}, Are us ks → KeysOf κ (pairsOf us)) (hkk : ∀ {us ks}, Are us ks → ∀ a b rest, us = a :: b :: rest → keyKind' (a :: b :: rest).toArray = pure oneType')
    (hO : ∀ {us ks} {st : SortSt}, Are us ks → (arrOf st).Perm (pairsOf us) → SortedToK κ (arrOf st) (pairsOf us).size → ∃ ys, Are ((arrOf st).map (·.2)).toList ys ∧ ys.Perm ks ∧ Srt ys)
    (hV : ∀ {us ys}, Are us ys → Vals (ys.map mkV) us) :
    CallR X (.builtin "sorted") (fun xs H Q => ∃ (a : Addr) (kvs : List (Key × V)) (ks : List α), xs = [.ref a] ∧ Rd H a (.dK kvs) ∧ kvs.map (·.1) = ks.map k ∧
      ∀ ys p, ys.Perm ks → Srt ys → H p = none → Q (.ref p) (upd H p (.lst (ys.map mkV)))) := by
  rintro pins s σ H _ us Q I r ⟨a, kvs, ks, rfl, hd, hks, q⟩
  obtain ⟨u, rfl, rx⟩ := vals1 r
  cases rx
  obtain ⟨z, lo, vs, rel, dd⟩ := dk_rd I.hok hd
  obtain ⟨ep, hat⟩ := dd.dictAt
  have keysE : vs.map (·.1) = ks.map k := rel.keys.symm.trans hks
  have lenE : vs.length = ks.length := by simpa using congrArg List.length keysE
  have le1 : vs.length ≤ sizeLine := by rw [← Paired.length rel]; exact z
  refine Calls.call_function_entry kind_sorted plain_sorted entry_sorted (args_sorted1 _) ?_
  unfold Builtin.«sorted»
  refine wpAny_bind (m := checkCount "sorted" 1 1 _) (wpAny_pure ?_)
  have coll := PySem.W.kdl_dict (knd := mixKind X.prog X.w) (kvs := vs) (ep := ep) lo
  refine wpAny_bind (PySem.W.kdu_collect (A := X.A.in1) coll (I.ok.hd hc) hat le1 fun h1 t1 got keep hgot => ?_)
  have gl : got.toList.length = ks.length := by rw [Array.length_toList, hgot.1, lenE]
  have are : Are got.toList ks := hA gl fun j v e => by
    obtain ⟨k', x, e1, e2⟩ := hgot.2 j v (by rw [← Array.getElem?_toList]; exact e)
    have e3 : (vs.map (·.1))[j]? = some k' := by rw [List.getElem?_map, e1]; rfl
    rw [keysE, List.getElem?_map] at e3
    obtain ⟨y, e4, e5⟩ := Option.map_eq_some_iff.mp e3
    exact ⟨y, e4, by rw [e5]; exact e2⟩
  have I1 : Inv X pins σ H { s with heap := h1, toks := t1 } := I.kept keep
  have le2 : got.toList.length ≤ sizeLine := by rw [gl, ← lenE]; exact le1
  refine wpAny_bind (wpAny_newList ?_ le2)
  have here : (h1.push (seqObj "list" got.toList.toArray 0)).get? h1.objs.size = some (seqObj "list" got.toList.toArray 0) := Heap.get?_push_size _ rfl
  show wpAny _ _ _ _ _ { s with heap := h1.push (seqObj "list" got.toList.toArray 0), toks := t1 }
  refine wpAny_bind (wpAny_holding (wpAny_call_entry slot_list_sort ⟨_, here, rfl⟩ entry_list_sort ?_ (args_list_sort _)))
  refine list_sort_treeKAny O1 (s := { s with heap := h1.push (seqObj "list" got.toList.toArray 0), toks := t1 }) here (hK are) (fun a b rest e => ?_) le2 fun st' hp hs => ⟨_, rfl, ?_⟩
  · rw [← e]
    exact (hkk are a b rest e).symm ▸ (by rw [← e])
  obtain ⟨ys, g1, g2, g3⟩ := hO are hp hs
  obtain ⟨e2, he2⟩ := sortedHeap_at (vs := got.toList) (out := (arrOf st').map (·.2)) here
  have le3 : (ys.map mkV).length ≤ sizeLine := by rw [List.length_map, g2.length_eq, ← lenE]; exact le1
  have okO : ObjOk X.prog X.w (upd H h1.objs.size (.lst (ys.map mkV))) _ h1.objs.size (.lst (ys.map mkV)) := ⟨le3, ((arrOf st').map (·.2)).toList, e2, hV g1, by rw [Array.toArray_toList]; exact he2⟩
  refine wpAny_pure ⟨_, rfl, .ref h1.objs.size, _, I1.laid (t' := t1) (fun b u e => ?_) (Nat.le_refl _) okO, rfl, q ys _ g2 g3 (I1.hok.fresh (Nat.le_refl _))⟩
  have lt : b < h1.objs.size := Heap.lt_size e
  rw [sortedHeap_old (Nat.ne_of_lt lt) (by rw [size_push']; exact Nat.lt_succ_of_lt lt)]
  exact Heap.get?_push_of_some _ e
theorem call_sortedDA (hc : X.calm = true) : CallR X (.builtin "sorted") (fun xs H Q => ∃ (a : Addr) (kvs : List (Key × V)) (ks : List Str), xs = [.ref a] ∧ Rd H a (.dK kvs) ∧ kvs.map (·.1) = ks.map Sum.inr ∧
    ∀ ys p, ys.Perm ks → sortedS ys = true → H p = none → Q (.ref p) (upd H p (.lst (ys.map V.str)))) :=
  call_dsort hc strKind_oneLt (k := Sum.inr) (mkV := V.str) (Are := StrsAre) (Srt := fun ys => sortedS ys = true)
    (fun hl h => strs_at hl fun j v e => by
      obtain ⟨y, e1, e2⟩ := h j v e
      obtain ⟨t, ev⟩ := Value.isStrOf_shape (x := y) (v := v) e2
      exact ⟨y, t, e1, ev⟩)
    (fun h => h.keysOf) (fun h a b rest e => keyKind_strs (by rw [← e]; exact h)) (fun h hp hs => sorted_out_str h hp hs) (fun h => vals_of_strs h)
end
theorem cl_sortDA {K : PySem.W.Frag} {α : Type} {A : Rf α} {d : List (List Nat × α)} : CallP (fun xs H Q => ∃ (a : Addr) (kvs : List (Key × V)) (ks : List Str), xs = [.ref a] ∧ Rd H a (.dK kvs) ∧ kvs.map (·.1) = ks.map Sum.inr ∧
    ∀ ys p, ys.Perm ks → sortedS ys = true → H p = none → Q (.ref p) (upd H p (.lst (ys.map V.str)))) (a1 (bDc kT A)) (d, ()) (M.ok (sortT (d.map (·.1)))) (ro (tL K fTxt)) :=
  ⟨fun e q => (nomatch q), fun F H vs H0 Q x ⟨v, r, e, ⟨p, ws, ev, h, q⟩, h2⟩ c ec k => by
    cases M.ok_inj ec
    cases h2
    subst ev
    subst e
    refine ⟨p, ws, d.map fun p => S p.1, rfl, h, by rw [q.keys, List.map_map]; rfl, fun ys l hp hs hl => ?_⟩
    have e : (d.map fun p => S p.1) = (d.map (·.1)).map S := by rw [List.map_map]; rfl
    rw [e] at hp
    have e2 := sort_one hp hs
    subst e2
    refine k (.ref l) F _ (Gr.newM x hl) ⟨[l], ⟨l, _, rfl, upd_same, vals_txt _ (fun k hk => ?_) _, rfl⟩, fun y hy => ?_⟩
    · obtain ⟨z, hz, rfl⟩ := List.mem_map.mp ((sortT_perm _).mem_iff.mp hk)
      exact q.tks z hz
    · cases List.mem_singleton.mp hy
      exact ⟨hl, x.free hl, NT.up⟩⟩
section
variable {X : Cx} {W : WX} {G : Gm} {kk : Nat}
end
end LK
namespace LK
open PySem PySem.Spec PyProof.Rows L2 L2H
section
variable {ε : Type} {Eh : EH ε} {X : Cx} {W : WX} {tl tl' : List Nat} {ρ b s : Type} {R : ρ → V → Gm} {Gs : s → Gm} {α : Type}
end
inductive Qt where
  | tup (ws : List (List Nat))
  | one (k : List Nat) (t : Qt)
  | two (k : List Nat) (a b : Qt)
  deriving DecidableEq
namespace Qt
def dep : Qt → Nat
  | .tup _ => 0
  | .one _ t => t.dep + 1
  | .two _ a b => max a.dep b.dep + 1
end Qt
section
variable {K : PySem.W.Frag}
end
section
variable {X : Cx} {W : WX} {G : Gm}
end
section
variable {ε : Type} {Eh : EH ε} {X : Cx} {W : WX} {G : Gm} {tl : List Nat} {α β : Type}
end
section
variable {X : Cx} {W : WX} {G : Gm} {α : Type} {A : Rf α}
end
end LK
namespace LK
open PySem L2
def sumR {α β : Type} (A : Rf α) (B : Rf β) : α ⊕ β → Hp → V → Prop
  | .inl x, F, v => A.r x F v
  | .inr y, F, v => B.r y F v
def fSum {α β : Type} (A : Rf α) (B : Rf β) : Rf (α ⊕ β) := ⟨sumR A B, fun {a} => by
  cases a with
  | inl x => exact fun h q => A.sx h q
  | inr y => exact fun h q => B.sx h q⟩
section
variable {X : Cx} {W : WX} {G : Gm} {K : PySem.W.Frag} {α β : Type} {A : Rf α} {B : Rf β}
theorem fe_inl {e : Expr} {m : M α} (h : FE X W G e m A.up) : FE X W G e (m.bind fun a => M.ok (Sum.inl a : α ⊕ β)) (fSum A B).up := fe_map Sum.inl h fun a H0 F H v r => r
theorem fv_inl {e : Expr} {a : α} (h : FE X W G e (M.ok a) A.up) : FE X W G e (M.ok (Sum.inl a : α ⊕ β)) (fSum A B).up := fe_inl h
theorem fe_inr {e : Expr} {m : M β} (h : FE X W G e m B.up) : FE X W G e (m.bind fun a => M.ok (Sum.inr a : α ⊕ β)) (fSum A B).up := fe_map Sum.inr h fun a H0 F H v r => r
theorem fv_inr {e : Expr} {a : β} (h : FE X W G e (M.ok a) B.up) : FE X W G e (M.ok (Sum.inr a : α ⊕ β)) (fSum A B).up := fe_inr h
structure Dq (K : PySem.W.Frag) {α : Type} (A : Rf α) where
  d : α → PyData
  n : Nat
  at_ : ∀ {a F H v}, A.r a F v → Ex F H → Dp K H v (d a)
  ok : ∀ {a F v}, A.r a F v → (d a).canLay0 = true ∧ (d a).depth ≤ n
  gd : α → α → Bool
  eq : ∀ a b, gd a b = true → (PyData.eqv (d a) (d b) = true ↔ a = b)
end
section
variable {ε : Type} {Eh : EH ε} {X : Cx} {W : WX} {G : Gm} {tl : List Nat} {α β γ : Type}
end
section
variable {ε : Type} {Eh : EH ε} {X : Cx} {W : WX} {tl tl' : List Nat} {ρ b s : Type} {R : ρ → V → Gm} {Gs : s → Gm} {α : Type} {A : Rf α}
end
section
variable {κ : Type} [DecidableEq κ] {T : KY κ} {ε : Type} {Eh : EH ε} {X : Cx} {W : WX} {G : Gm} {α : Type} {A : Rf α} {tl : List Nat} {ρ b s : Type} {R : ρ → V → Gm} {Gb : b → Gm} {N : s → Gm}
end
section
variable {B : Bs} {tl : List Nat} {G : Gm} {F H : Hp} {σ : St}
end
section
variable {ε : Type} {Eh : EH ε} {X : Cx} {W : WX} {G : Gm} {tl : List Nat} {ρ b s : Type} {R : ρ → V → Gm} {Gb : b → Gm} {N : s → Gm} {α β : Type}
end
section
variable {ε : Type} {Eh : EH ε} {X : Cx} {W : WX} {G : Gm} {tl : List Nat} {α : Type}
end
end LK
namespace LK
open PySem PySem.Spec PyProof.Rows L2 L2H
section
variable {X : Cx} {pins : List (Addr × Obj)} {σ : L2.St} {H : Hp} {s : Shared}
end
section
variable {X : Cx} {W : WX}
end
section
variable {X : Cx} {W Wout : WX} {hds : List ExceptHandler} {wq : Ends → WX}
end
section
variable {ε1 ε : Type} {E1 : EH ε1} {Eh : EH ε} {X : Cx} {W : WX} {G : Gm} {tl : List Nat} {ρ b s : Type} {R : ρ → V → Gm} {Gb : b → Gm} {N : s → Gm} {k : Nat}
end
end LK
namespace LK
open PySem PySem.Spec PyProof.Rows L2
section
variable {X : Cx}
end
section
variable {X : Cx} {W : WX} {G : Gm} {κ β γ : Type} {T : KY κ} {Bv : Rf γ} {E : Rf β} {Gw : Gm} {kk : Nat}
end
section
variable {X : Cx} {W : WX} {G : Gm}
end
end LK
namespace LK
open PySem L2
section
variable {ε : Type} {Eh : EH ε} {X : Cx} {W : WX} {G : Gm} {tl : List Nat} {α δ γ κ : Type}
end
end LK
namespace LK
open PySem PySem.Spec PySem.W PyProof.Rows L2
section
variable {X : Cx} {W : WX} {G : Gm}
end
section
variable {X : Cx} {W : WX} {G : Gm}
end
section
variable {X : Cx} {W : WX} {G Gw : Gm} {kk : Nat} {β : Type} {E : Rf β}
end
section
structure FlatR {α : Type} (A : Rf α) (g : α → V) : Prop where
  to : ∀ {a F v}, A.r a F v → v = g a ∧ flatB v = true
variable {κ α : Type} [DecidableEq κ] {T : KY κ}
end
section
variable {κ α : Type} [DecidableEq κ] {T : KY κ}
end
end LK
namespace LK
open PySem PySem.Spec PySem.W PyProof.Rows L2
section
variable {ε : Type} {Eh : EH ε} {X : Cx} {W : WX} {G : Gm} {tl : List Nat} {k : Nat}
end
end LK
namespace LK
open PySem L2 PySem.Spec PyProof.Rows
section
variable {prog : Program} {w : World} {A : Around} {E : Value → Shared → Prop} {s : Shared}
end
section
variable {X : Cx}
end
section
variable {X : Cx} {W : WX} {G : Gm}
end
section
variable {ε : Type} {Eh : EH ε} {X : Cx} {W : WX} {G : Gm} {tl : List Nat} {ρ b s : Type} {R : ρ → V → Gm} {Gb : b → Gm} {N : s → Gm}
end
section
variable {ε : Type} {Eh : EH ε} {X : Cx} {W : WX} {G : Gm} {tl : List Nat} {ρ b s : Type} {R : ρ → V → Gm} {Gb : b → Gm} {N : s → Gm}
end
end LK
namespace LK
open PySem PySem.Spec PySem.W PyProof.Rows L2
theorem Imp.one {G : Gm} {g : Nat} {s s' : Sl} (hg : G[g]? = some (some s)) (o : s'.own = true → s.own = true) (h : ∀ Y F H v ms, s.r Y F H v ms → s'.r Y F H v ms) : Imp G (G.set g (some s')) := fun B tl F H σ st => by
  obtain ⟨ms, z⟩ := st.sl
  have hl : g < G.length := (List.getElem?_eq_some_iff.mp hg).1
  have at_ : ∀ {j : Nat} {t : Sl}, (G.set g (some s'))[j]? = some (some t) → ∃ u : Sl, G[j]? = some (some u) ∧ (t.own = true → u.own = true) ∧ ∀ Y F H v ms, u.r Y F H v ms → t.r Y F H v ms := fun {j t} e => by
    by_cases q : j = g
    · subst q
      rw [List.getElem?_set_self hl] at e
      cases e
      exact ⟨s, hg, o, h⟩
    · rw [List.getElem?_set_ne (Ne.symm q)] at e
      exact ⟨t, e, id, fun _ _ _ _ _ h => h⟩
  refine ⟨st.g, st.bh, st.fr, st.ls, by rw [List.length_set]; exact st.len, ms, ⟨fun j t e => ?_, fun j e => ?_, z.mem, fun j t e ho x hx => ?_, fun j t e ho x hx j' hj hm => ?_⟩⟩
  · obtain ⟨u, h1, _, h3⟩ := at_ e
    obtain ⟨v, q1, q2⟩ := z.has j u h1
    exact ⟨v, q1, h3 _ _ _ _ _ q2⟩
  · refine z.non j fun t et => ?_
    by_cases q : j = g
    · subst q
      exact e s' (by rw [List.getElem?_set_self hl])
    · exact e t (by rw [List.getElem?_set_ne (Ne.symm q)]; exact et)
  · obtain ⟨u, h1, h2, _⟩ := at_ e
    exact z.own j u h1 (h2 ho) x hx
  · obtain ⟨u, h1, h2, _⟩ := at_ e
    exact z.sep j u h1 (h2 ho) x hx j' hj hm
section
variable {ε : Type} {Eh : EH ε} {X : Cx} {W : WX} {G : Gm} {tl : List Nat} {ρ b s : Type} {R : ρ → V → Gm} {Gb : b → Gm} {N : s → Gm}
end
end LK
namespace LK
open PySem PySem.Spec L2
section
variable {X : Cx} {W : WX} {G : Gm}
end
structure OkV {β : Type} (ok : PySem.W.Frag → β → Value → Bool) (K : PySem.W.Frag) (A : Rf β) : Prop where
  run : ∀ {b v}, ok K b v = true → ∃ q, v = .ref q ∧ ∀ F, A.r b F (.ref q)
section
variable {X : Cx} {W : WX} {G : Gm} {β : Type} {ok : PySem.W.Frag → β → Value → Bool} {A : Rf β}
end
section
variable {X : Cx} {W : WX} {G : Gm} {α : Type} {A : Rf α}
end
structure ZmAt (z TI TO i1 i2 a b : Addr) (i : Nat) (h : Heap) : Prop where
  zip : IsZip h z TI TO .none
  its : IsTupOf2 h TI (.ref i1) (.ref i2)
  res : ∃ u v, IsTupOf2 h TO u v
  one : h.IsTupleIter i1 a i
  two : h.IsListIter i2 b i
theorem ZmAt.all {z TI TO i1 i2 a b : Addr} {i : Nat} {h : Heap} (Z : ZmAt z TI TO i1 i2 a b i h) : ∀ c ∈ [z, TI, TO, i1, i2], ∃ o, h.get? c = some o ∧ ∀ v, o.data ≠ .cell v := by
  obtain ⟨u, v, hr⟩ := Z.res
  obtain ⟨o1, e1, _, d1⟩ := Z.one
  obtain ⟨o2, e2, _, d2⟩ := Z.two
  simp only [List.forall_mem_cons]
  refine ⟨⟨_, Z.zip, fun v q => nomatch q⟩, ⟨_, Z.its, fun v q => nomatch q⟩, ⟨_, hr, fun v q => nomatch q⟩, ⟨o1, e1, fun v q => ?_⟩, ⟨o2, e2, fun v q => ?_⟩, fun c hc => nomatch hc⟩
  · rw [d1] at q; cases q
  · rw [d2] at q; cases q
theorem ZmAt.to {z TI TO i1 i2 a b : Addr} {i : Nat} {h h' : Heap} (Z : ZmAt z TI TO i1 i2 a b i h) (k : ∀ c ∈ [z, TI, TO, i1, i2], ∀ o, h.get? c = some o → h'.get? c = some o) : ZmAt z TI TO i1 i2 a b i h' where
  zip := k z (by simp) _ Z.zip
  its := k TI (by simp) _ Z.its
  res := let ⟨u, v, e⟩ := Z.res; ⟨u, v, k TO (by simp) _ e⟩
  one := let ⟨o, e, r⟩ := Z.one; ⟨o, k i1 (by simp) _ e, r⟩
  two := let ⟨o, e, r⟩ := Z.two; ⟨o, k i2 (by simp) _ e, r⟩
section
variable {X : Cx} {W : WX} {G Gw : Gm} {kk : Nat} {α α2 β : Type} {A : Rf α} {A2 : Rf α2} {E : Rf β}
end
section
variable {ε : Type} {Eh : EH ε} {X : Cx} {W : WX} {G : Gm} {tl : List Nat} {ρ b s : Type} {R : ρ → V → Gm} {Gb : b → Gm} {N : s → Gm} {k : Nat}
end
end LK
namespace LK
open PySem L2
section
variable {ε : Type} {Eh : EH ε} {X : Cx} {W : WX} {G : Gm} {tl : List Nat} {ρ b s : Type} {R : ρ → V → Gm} {Gb : b → Gm} {N : s → Gm} {kk : Nat}
end
end LK
namespace LK
open PySem L2
section
variable {ε : Type} {Eh : EH ε} {X : Cx} {W : WX} {G : Gm} {tl : List Nat} {ρ b s : Type} {R : ρ → V → Gm} {Gb : b → Gm} {N : s → Gm} {α : Type}
end
end LK
namespace LK
open PySem L2
section
variable {X : Cx} {W : WX} {G : Gm} {α β : Type} {A : Rf α} {B : Rf β}
def unR : α ⊕ β → M β
  | .inl _ => none
  | .inr b => M.ok b
theorem fe_unr {e : Expr} {m : M (α ⊕ β)} (h : FE X W G e m (fSum A B).up) : FE X W G e (m.bind unR) B.up :=
  PE.weak h fun σ H Q ⟨B', tl, F, D⟩ => ⟨B', tl, F, D.seq fun a F1 H1 _ g T1 v r => by
    cases a with
    | inl x => exact absurd rfl T1.ne
    | inr y => exact T1.ok y rfl F1 H1 (Gr.refl g.fh) v r⟩
end
end LK
namespace LK
open PySem L2
def TO {α : Type} (c : Sem α) : Prop := ∀ (M : Model) (Γ : Ctx) (Q : α → Pos → Shared → Prop) (E : Value → Pos → Shared → Prop) (p : Pos) (s : Shared), Sem.wp M Γ c Q E p s → Sem.wp M Γ c (fun a p' s' => 1 ≤ s'.toks ∧ Q a p' s') E p s
section
variable {α β : Type}
variable {env : Env}
end
theorem PSsT.weak {X : Cx} {e : List Stmt} {t t' : TS} (h : PSsT X e t) (w : ∀ D σ H, t' D σ H → t D σ H) : PSsT X e t' := fun pins s σ H D k I q => h pins s σ H D k I (w _ _ _ q)
theorem PST.weak {X : Cx} {e : Stmt} {t t' : TS} (h : PST X e t) (w : ∀ D σ H, t' D σ H → t D σ H) : PST X e t' := fun pins s σ H D k I q => h pins s σ H D k I (w _ _ _ q)
theorem PET.weak {X : Cx} {e : Expr} {t t' : TE} (h : PET X e t) (w : ∀ σ H Q, t' σ H Q → t σ H Q) : PET X e t' := fun pins s σ H Q k I q => h pins s σ H Q k I (w _ _ _ q)
section
variable {X : Cx} {W : WX} {G : Gm} {tl : List Nat} {ε ρ b s : Type} {Eh : EH ε} {R : ρ → V → Gm} {Gb : b → Gm} {N : s → Gm}
end
section
variable {X : Cx} {W : WX} {G : Gm} {α γ : Type} {A : Rf α} {C : Rf γ}
structure Conv (A : Rf α) (C : Rf γ) (f : α → M γ) : Prop where
  ne : ∀ a e, f a ≠ M.err e
  ok : ∀ a c F v, f a = M.ok c → A.r a F v → C.r c F v
end
end LK
namespace LK
open PySem L2
section
variable {X : Cx} {W : WX} {G : Gm} {κ α : Type} {T : KY κ} {A : Rf α}
structure FPs (X : Cx) (W : WX) (G : Gm) (T : KY κ) (A : Rf α) (pos : Pos) (keys : List (Option Expr)) (vals : List Expr) (m : M (List (κ × α))) : Prop where
  run : ∃ trs, PPs X pos keys vals trs ∧ ∀ B tl F σ H (Q : List (V × V) → Hp → Prop), Told X.K W G m (fun d F' H' => ∀ kvs, Pd T (fun a x => A.r a F' x) d kvs → kvs.length = keys.length → Q (kvs.map fun kv => (kV kv.1, kv.2)) H') σ H B tl F → tPairs trs σ H Q
end
section
variable {ε : Type} {Eh : EH ε} {X : Cx} {W : WX} {tl tl' : List Nat} {ρ b s : Type} {R : ρ → V → Gm} {Gs : s → Gm} {α α2 : Type} {A : Rf α} {A2 : Rf α2}
end
section
variable {X : Cx} {α : Type} {A : Rf α}
end
end LK
namespace LK
open PySem L2
section
variable {κ : Type} [DecidableEq κ] {T : KY κ} {ε : Type} {Eh : EH ε} {X : Cx} {W : WX} {G : Gm} {α : Type} {A : Rf α} {tl : List Nat} {ρ b s : Type} {R : ρ → V → Gm} {Gb : b → Gm} {N : s → Gm}
end
section
variable {X : Cx} {W : WX} {G Gw : Gm} {kk : Nat} {κ κ2 β γ : Type} [DecidableEq κ2] {T : KY κ} {T2 : KY κ2} {Bv : Rf γ} {E : Rf β}
end
namespace KS
open PySem.Spec
open PyProof.Rows hiding St RelV
section
variable {X : Cx}
variable {elt tg iter : Expr} {scope : Scope} {own : List (Str × Nat)} {pos : Pos} {wi : TI} {g : TG} {te : TE}
end
end KS
section
variable {X : Cx} {W : WX} {G Gw : Gm} {kk : Nat} {κ α : Type} [DecidableEq κ] {T : KY κ} {A : Rf α}
end
end LK
namespace LK
open PySem L2
section
variable {ε : Type} {Eh : EH ε} {X : Cx} {W : WX} {G : Gm} {tl : List Nat} {ρ b s α : Type} {R : ρ → V → Gm} {Gb : b → Gm} {N : s → Gm}
end
section
variable {ε : Type} {Eh : EH ε} {X : Cx} {W : WX} {G : Gm} {tl : List Nat} {k : Nat}
end
section
inductive HitV (ls : List (Key × V)) : List (Key × V) → Bool → Prop where
  | nil : HitV ls [] true
  | miss {k v r} : valV ls k = none → HitV ls ((k, v) :: r) false
  | hit {k x y r b} : valV ls k = some (.str y) → HitV ls r b → HitV ls ((k, .str x) :: r) ((x == y) && b)
variable {X : Cx}
variable {κ : Type} [DecidableEq κ] {T : KY κ}
end
end LK
namespace LK
open PySem L2
section
variable {X : Cx} {W : WX} {G : Gm} {k : Nat}
end
section
variable {ε : Type} {Eh : EH ε} {X : Cx} {W : WX} {G : Gm} {tl : List Nat} {k : Nat} {α ε1 ρ : Type} {par : α → (Nat → V) → List Sl} {mir : α → Mg ε1 ρ} {res : ρ → Sl} {outs : ρ → (Nat → V) → List (V × Sl)} {cls : ε1 → Er} {outsE : ε1 → (Nat → V) → List (V × Sl)} {w : Nat → V} {ks kt kte : List Nat} {κ : List (Option Nat)} {p : Er → ε}
end
end LK
namespace LK
open PySem L2
section
variable {X : Cx} {W : WX} {G : Gm} {kk : Nat} {α : Type} {U : Th α}
end
section
variable {ε : Type} {Eh : EH ε} {X : Cx} {W : WX} {G : Gm} {tl : List Nat} {α : Type}
end
end LK
namespace LK
open PySem L2
def q1 : Qt → M Qt
  | .tup _ => none
  | .one _ t => M.ok t
  | .two _ a _ => M.ok a
def q2 : Qt → M Qt
  | .two _ _ b => M.ok b
  | _ => none
section
variable {K : PySem.W.Frag}
end
section
variable {X : Cx} {W : WX} {G : Gm}
end
namespace EnT
open AutoSeq1 (wpAny_loadPart')
section
variable {X : Cx} {W : WX} {G Gw : Gm} {kk : Nat} {α β : Type} {A : Rf α} {E : Rf β}
end
end EnT
end LK
namespace LK
open PySem L2
theorem Cok.u256 {X : Cx} {W : WX} {k : Nat} (C : Cok X W k) (h : 4 ≤ k := by decide) : X.A.units + 256 < cLine := by
  have := C.hr.un
  omega
def rEqW (K : PySem.W.Frag) : R2 := fun x y H Q => ∃ d e, Dp K H x d ∧ Dp K H y e ∧ d.canLay0 = true ∧ e.canLay0 = true ∧ min d.depth e.depth ≤ 256 ∧ Q (.bl (PyData.eqv d e)) H
def rNeW (K : PySem.W.Frag) : R2 := fun x y H Q => ∃ d e, Dp K H x d ∧ Dp K H y e ∧ d.canLay0 = true ∧ e.canLay0 = true ∧ min d.depth e.depth ≤ 256 ∧ Q (.bl (!PyData.eqv d e)) H
theorem op_eqW {X : Cx} (hu : X.A.units + 256 < cLine) : OpR X (compareOp .Eq) (rEqW X.K) := fun pins s σ H x y v u Q I rx ry ⟨d, e, hd, he, sd, se, hm, q⟩ => by
  obtain ⟨as, r1⟩ := Dp.reads I d x v hd rx
  obtain ⟨bs, r2⟩ := Dp.reads I e y u he ry
  exact SeqAt.compareEq_reads r1 r2 sd se (by omega) ⟨.bl _, H, I, rfl, q⟩
theorem op_neW {X : Cx} (hu : X.A.units + 256 < cLine) : OpR X (compareOp .NotEq) (rNeW X.K) := fun pins s σ H x y v u Q I rx ry ⟨d, e, hd, he, sd, se, hm, q⟩ => by
  obtain ⟨as, r1⟩ := Dp.reads I d x v hd rx
  obtain ⟨bs, r2⟩ := Dp.reads I e y u he ry
  exact SeqAt.compareNe_reads r1 r2 sd se (by omega) ⟨.bl _, H, I, rfl, q⟩
section
variable {K : PySem.W.Frag} {α : Type} {A : Rf α}
theorem ol_neTrW [DecidableEq α] (D : Dt K A) {a b : Tr α} (n : Nat) (hD : D.n ≤ n := by exact Nat.le_refl _) : OpP (rNeW K) (fTree K A).up (fTree K A).up a b (M.need (a.dep + n ≤ 256) (M.ok (!decide (a = b)))) fBool.up := oppN fun h1 F H v w Q x ha hb k =>
  ⟨trD D a, trD D b, trD_at D ha x, trD_at D hb x, (trD_ok D ha).1, (trD_ok D hb).1, by have := (trD_ok D ha).2; omega, by rw [tr_dec]; exact k _ rfl⟩
abbrev fTrS (K : PySem.W.Frag) {α : Type} (A : Rf α) : Rf (Tr α × List Nat) := fTup K (tvc (fTree K A) (tv1 fTxt))
def trSD (D : Dt K A) (a : Tr α × List Nat) : PyData := .tuple [trD D a.1, .str (S a.2)]
theorem trSD_dec [DecidableEq α] (D : Dt K A) (a b : Tr α × List Nat) : PyData.eqv (trSD D a) (trSD D b) = decide (a = b) := by
  show (PyData.eqv (trD D a.1) (trD D b.1) && (PyData.eqv (.str (S a.2)) (.str (S b.2)) && true)) = _
  rw [Bool.eq_iff_iff, Bool.and_eq_true_iff, Bool.and_eq_true_iff, trD_eq, show PyData.eqv (.str (S a.2)) (.str (S b.2)) = true ↔ a.2 = b.2 from (dTxt (K := K)).eq a.2 b.2, decide_eq_true_eq]
  exact ⟨fun h => Prod.ext h.1 h.2.1, fun h => by rw [h]; exact ⟨rfl, rfl, rfl⟩⟩
theorem trSD_at (D : Dt K A) {a : Tr α × List Nat} {F H : Hp} {v : V} (h : (fTrS K A).r a F v) (x : Ex F H) : Dp K H v (trSD D a) ∧ (trSD D a).canLay0 = true ∧ (trSD D a).depth ≤ a.1.dep + D.n + 1 := by
  obtain ⟨p, vs, ev, hs, x1, r1, q1, h1, x2, q2, h2⟩ := h
  subst q1 q2 ev
  obtain ⟨a1, b1⟩ := trD_ok D h1
  obtain ⟨a2, b2⟩ := (dTxt (K := K)).ok h2
  refine ⟨.tup (sqT_ex x hs) (.cons (trD_at D h1 x) (.cons (dTxt.at_ h2 x) .nil)), Bool.and_eq_true_iff.mpr ⟨a1, Bool.and_eq_true_iff.mpr ⟨a2, rfl⟩⟩, ?_⟩
  show max (trD D a.1).depth (max (PyData.depth (.str (S a.2))) 0) + 1 ≤ _
  have : PyData.depth (.str (S a.2)) = 0 := rfl
  omega
theorem ol_eqTrS [DecidableEq α] (D : Dt K A) {a b : Tr α × List Nat} (n : Nat) (hD : D.n ≤ n := by exact Nat.le_refl _) : OpP (rEqW K) (fTrS K A).up (fTrS K A).up a b (M.need (a.1.dep + n ≤ 255) (M.ok (decide (a = b)))) fBool.up := oppN fun h1 F H v w Q x ha hb k => by
  obtain ⟨p1, p2, p3⟩ := trSD_at D ha x
  obtain ⟨q1, q2, q3⟩ := trSD_at D hb x
  exact ⟨trSD D a, trSD D b, p1, q1, p2, q2, by omega, by rw [trSD_dec]; exact k _ rfl⟩
def eqSum : List Nat ⊕ Tr α → List Nat → Bool
  | .inl t, w => decide (t = w)
  | .inr _, _ => false
theorem ol_eqSumS (D : Dt K A) {a : List Nat ⊕ Tr α} {b : List Nat} : OpP (rEqW K) (fSum fTxt (fTree K A)).up fTxt.up a b (M.ok (eqSum a b)) fBool.up := opp fun F H v w Q x ha hb k => by
  have hs : (PyData.str (S b)).depth = 0 := rfl
  obtain ⟨b1, b2⟩ := (dTxt (K := K)).ok hb
  cases a with
  | inl t =>
    have ha : fTxt.r t F v := ha
    obtain ⟨a1, a2⟩ := (dTxt (K := K)).ok ha
    refine ⟨.str (S t), .str (S b), dTxt.at_ ha x, dTxt.at_ hb x, a1, b1, by rw [hs]; omega, ?_⟩
    have e : PyData.eqv (.str (S t)) (.str (S b)) = decide (t = b) := by
      rw [Bool.eq_iff_iff, decide_eq_true_eq]
      exact (dTxt (K := K)).eq t b
    rw [e]
    exact k _ rfl
  | inr t =>
    have ha : trR K A t F v := ha
    refine ⟨trD D t, .str (S b), trD_at D ha x, dTxt.at_ hb x, (trD_ok D ha).1, b1, by rw [hs]; omega, ?_⟩
    have e : PyData.eqv (trD D t) (.str (S b)) = false := by cases t <;> rfl
    rw [e]
    exact k _ rfl
end
end LK
namespace LK
open PySem L2
theorem seqF_nx {ε ρ b s1 s : Type} (y : s1) (k : s1 → Mg ε (Fl ρ b s)) : seqF (M.ok (.nx y)) k = k y := rfl
theorem fin_ret {ε ρ s : Type} (d : Option (s → ρ)) (r : ρ) : fin d (M.ok (.ret r) : Mg ε (Fl ρ Unit s)) = M.ok r := rfl
section
variable {ε α ρ b s : Type} {f : s → α → Mg ε (Fl ρ s s)}
theorem forL_nx {a : α} {r : List α} {x y : s} (h : f x a = M.ok (.nx y)) : forL (b := b) f (a :: r) x = forL f r y := by
  show Mg.bind (f x a) _ = _
  rw [h]
  rfl
theorem forL_ct {a : α} {r : List α} {x y : s} (h : f x a = M.ok (.ct y)) : forL (b := b) f (a :: r) x = forL f r y := by
  show Mg.bind (f x a) _ = _
  rw [h]
  rfl
theorem forL_bk {a : α} {r : List α} {x y : s} (h : f x a = M.ok (.bk y)) : forL (b := b) f (a :: r) x = M.ok (.nx y) := by
  show Mg.bind (f x a) _ = _
  rw [h]
  rfl
theorem forL_ret {a : α} {r : List α} {x : s} {v : ρ} (h : f x a = M.ok (.ret v)) : forL (b := b) f (a :: r) x = M.ok (.ret v) := by
  show Mg.bind (f x a) _ = _
  rw [h]
  rfl
theorem forL_er {a : α} {r : List α} {x : s} {v : ε} (h : f x a = M.err v) : forL (b := b) f (a :: r) x = M.err v := by
  show Mg.bind (f x a) _ = _
  rw [h]
  rfl
theorem forL_fold (g : s → α → s) (I : s → Prop) : ∀ (as : List α) (x : s), I x → (∀ x a, a ∈ as → I x → f x a = M.ok (.nx (g x a)) ∧ I (g x a)) → forL (b := b) f as x = M.ok (.nx (as.foldl g x)) ∧ I (as.foldl g x)
  | [], x, h, _ => ⟨rfl, h⟩
  | a :: r, x, h, hs => by
    obtain ⟨h1, h2⟩ := hs x a List.mem_cons_self h
    rw [forL_nx h1]
    exact forL_fold g I r (g x a) h2 fun x c hc => hs x c (List.mem_cons_of_mem _ hc)
theorem forL_all : ∀ (as : List α) (x : s), (∀ a, a ∈ as → f x a = M.ok (.nx x)) → forL (b := b) f as x = M.ok (.nx x)
  | [], x, _ => rfl
  | a :: r, x, h => by
    rw [forL_nx (h a List.mem_cons_self)]
    exact forL_all r x fun c hc => h c (List.mem_cons_of_mem _ hc)
end
theorem lcL_map {α β : Type} {f : α → M β} (g : α → β) : ∀ (as : List α) (acc : List β), (∀ a ∈ as, f a = M.ok (g a)) → acc.length + as.length ≤ sizeLine → lcL (fun _ => M.ok true) f as acc = M.ok (acc ++ as.map g)
  | [], acc, _, _ => by rw [List.map_nil, List.append_nil]; rfl
  | a :: r, acc, h, hl => by
    rw [List.length_cons] at hl
    show (noerr (f a)).bind (fun y => M.need (acc.length < sizeLine) (lcL _ f r (acc ++ [y]))) = _
    rw [h a List.mem_cons_self]
    show M.need (acc.length < sizeLine) (lcL _ f r (acc ++ [g a])) = _
    rw [M.need_pos (by omega), lcL_map g r _ (fun c hc => h c (List.mem_cons_of_mem _ hc)) (by rw [List.length_append]; simp; omega)]
    simp
theorem at_nat {α : Type} {xs : List α} {i : Nat} {a : α} (h : xs[i]? = some a) : at_ xs (i : Int) = M.ok a := by
  unfold at_
  rw [atI_nat h]
theorem cut_nat {α : Type} (l : List α) (i j : Nat) : cut l (some (i : Int)) (some (j : Int)) = (l.drop i).take (j - i) := by
  unfold cut
  rw [HT.sIx_nat, HT.sIx_nat]
  have hd : (l.drop i).length = l.length - i := List.length_drop ..
  by_cases hi : i ≤ l.length
  · rw [Nat.min_eq_left hi]
    by_cases hj : j ≤ l.length
    · rw [Nat.min_eq_left hj]
    · rw [Nat.min_eq_right (by omega), List.take_of_length_le (by omega), List.take_of_length_le (by omega)]
  · rw [Nat.min_eq_right (a := i) (by omega), List.drop_length, List.drop_eq_nil_of_le (by omega), List.take_nil, List.take_nil]
theorem cut_nat' {α : Type} (l : List α) (i : Nat) : cut l (some (i : Int)) none = l.drop i := by
  unfold cut
  rw [HT.sIx_nat, HT.sIx_none]
  have hd : (l.drop i).length = l.length - i := List.length_drop ..
  by_cases hi : i ≤ l.length
  · rw [Nat.min_eq_left hi, List.take_of_length_le (by omega)]
  · rw [Nat.min_eq_right (a := i) (by omega), List.drop_length, List.drop_eq_nil_of_le (by omega), List.take_nil]
theorem cut_to {α : Type} (l : List α) (j : Nat) : cut l none (some (j : Int)) = l.take j := by
  unfold cut
  rw [HT.sIx_nat, HT.sIx_none, List.drop_zero]
  by_cases hi : j ≤ l.length
  · rw [Nat.min_eq_left hi]; rfl
  · rw [Nat.min_eq_right (by omega), List.take_of_length_le (by omega), List.take_of_length_le (by omega)]
theorem cut_mid {α : Type} {l A B C : List α} {i j : Int} (h : l = A ++ (B ++ C)) (hi : i = (A.length : Int)) (hj : j = ((A.length + B.length : Nat) : Int)) : cut l (some i) (some j) = B := by
  subst hi hj h
  rw [cut_nat, List.drop_left', show A.length + B.length - A.length = B.length from by omega, List.take_left']
  · rfl
  · rfl
def inter (a : List Nat) : List (List Nat) → List Nat
  | [] => []
  | x :: r => x ++ r.flatMap fun y => a ++ y
theorem joinL_eq (a : List Nat) (xs : List (List Nat)) : joinL a xs = inter a xs := by
  have key : ∀ (r : List (List Nat)) (acc : Array Nat), ((r.map S).foldl (fun acc p => acc ++ (S a).cps ++ p.cps) acc).toList = acc.toList ++ r.flatMap fun y => a ++ y := by
    intro r
    induction r with
    | nil => intro acc; simp
    | cons y r ih =>
      intro acc
      rw [List.map_cons, List.foldl_cons, ih]
      simp [S]
  cases xs with
  | nil => rfl
  | cons x r =>
    show ((r.map S).foldl (fun acc p => acc ++ (S a).cps ++ p.cps) (S x).cps).toList = _
    rw [key]
    simp [S, inter]
theorem inter_nil (xs : List (List Nat)) : inter [] xs = xs.flatten := by
  cases xs with
  | nil => rfl
  | cons x r => simp [inter, List.flatten_cons, List.flatMap]
def wm {ε α : Type} (m : Mg ε α) (φ : α → Prop) (ψ : ε → Prop) : Prop := (∃ y, m = M.ok y ∧ φ y) ∨ ∃ e, m = M.err e ∧ ψ e
section
variable {ε ε1 α β ρ b s s1 : Type} {φ : α → Prop} {ψ : ε → Prop}
theorem ok_inj {x y : α} (h : (M.ok x : Mg ε α) = M.ok y) : x = y := by injection h with h; injection h
theorem err_inj {x y : ε} (h : (M.err x : Mg ε α) = M.err y) : x = y := by injection h with h; injection h
theorem ok_ne_err {x : α} {y : ε} (h : (M.ok x : Mg ε α) = M.err y) : False := by injection h with h; exact nomatch h
theorem wm_ok (x : α) : wm (M.ok x) φ ψ ↔ φ x :=
  ⟨fun h => h.elim (fun ⟨y, e, q⟩ => ok_inj e ▸ q) fun ⟨y, e, q⟩ => (ok_ne_err e).elim, fun h => .inl ⟨x, rfl, h⟩⟩
theorem wm_err (x : ε) : wm (M.err x) φ ψ ↔ ψ x :=
  ⟨fun h => h.elim (fun ⟨y, e, q⟩ => (ok_ne_err e.symm).elim) fun ⟨y, e, q⟩ => err_inj e ▸ q, fun h => .inr ⟨x, rfl, h⟩⟩
theorem wm_none : wm (none : Mg ε α) φ ψ ↔ False := by
  constructor
  · rintro (⟨y, e, q⟩ | ⟨y, e, q⟩)
    · exact nomatch e
    · exact nomatch e
  · exact False.elim
theorem wm_mono {φ' : α → Prop} {ψ' : ε → Prop} {m : Mg ε α} (h : wm m φ' ψ') (h1 : ∀ y, φ' y → φ y) (h2 : ∀ e, ψ' e → ψ e) : wm m φ ψ :=
  h.elim (fun ⟨y, e, q⟩ => .inl ⟨y, e, h1 y q⟩) fun ⟨y, e, q⟩ => .inr ⟨y, e, h2 y q⟩
theorem wm_by {φ' : α → Prop} {m : Mg ε α} (h : wm m φ' (fun _ => False)) (h1 : ∀ y, φ' y → φ y) : wm m φ ψ := wm_mono h h1 fun _ z => z.elim
theorem wm_bind {p : ε1 → ε} {m : Mg ε1 β} {k : β → Mg ε α} : wm (m.bindP p k) φ ψ ↔ wm m (fun y => wm (k y) φ ψ) (fun e => ψ (p e)) := by
  cases m with
  | none => exact wm_none.trans wm_none.symm
  | some r =>
    cases r with
    | error e => exact (wm_err (p e)).trans (wm_err (ψ := fun e => ψ (p e)) e).symm
    | ok y => exact (wm_ok (φ := fun y => wm (k y) φ ψ) y).symm
theorem wm_need {c : Prop} [Decidable c] {m : Mg ε α} : wm (M.need c m) φ ψ ↔ c ∧ wm m φ ψ := by
  by_cases h : c
  · rw [M.need_pos h]
    exact ⟨fun z => ⟨h, z⟩, fun z => z.2⟩
  · have : M.need c m = none := if_neg h
    rw [this]
    exact ⟨fun z => (wm_none.mp z).elim, fun z => (h z.1).elim⟩
theorem wm_ite {c : Prop} [Decidable c] {m n : Mg ε α} : wm (if c then m else n) φ ψ ↔ (c → wm m φ ψ) ∧ (¬ c → wm n φ ψ) := by
  by_cases h : c
  · rw [if_pos h]
    exact ⟨fun z => ⟨fun _ => z, fun k => (k h).elim⟩, fun z => z.1 h⟩
  · rw [if_neg h]
    exact ⟨fun z => ⟨fun k => (h k).elim, fun _ => z⟩, fun z => z.2 h⟩
def flw (k : s1 → Mg ε (Fl ρ b s)) (φ : Fl ρ b s → Prop) (ψ : ε → Prop) : Fl ρ b s1 → Prop
  | .ret v => φ (.ret v)
  | .bk y => φ (.bk y)
  | .ct y => φ (.ct y)
  | .nx y => wm (k y) φ ψ
theorem flw_ret {k : s1 → Mg ε (Fl ρ b s)} {φ} (v : ρ) : flw k φ ψ (.ret v) ↔ φ (.ret v) := Iff.rfl
theorem flw_nx {k : s1 → Mg ε (Fl ρ b s)} {φ} (v : s1) : flw k φ ψ (.nx v) ↔ wm (k v) φ ψ := Iff.rfl
theorem wm_seq {m : Mg ε (Fl ρ b s1)} {k : s1 → Mg ε (Fl ρ b s)} {φ : Fl ρ b s → Prop} : wm (seqF m k) φ ψ ↔ wm m (flw k φ ψ) ψ := by
  cases m with
  | none => exact wm_none.trans wm_none.symm
  | some r =>
    cases r with
    | error e => exact (wm_err e).trans (wm_err e).symm
    | ok y =>
      refine Iff.trans ?_ (wm_ok (φ := flw k φ ψ) y).symm
      cases y with
      | nx y => exact Iff.rfl
      | ret v => exact wm_ok (Fl.ret v)
      | bk v => exact wm_ok (Fl.bk v)
      | ct v => exact wm_ok (Fl.ct v)
def fnw (d : Option (s → ρ)) (φ : ρ → Prop) : Fl ρ Unit s → Prop
  | .ret v => φ v
  | .nx x => ∃ f, d = some f ∧ φ (f x)
  | _ => False
theorem fnw_ret {d : Option (s → ρ)} {φ : ρ → Prop} (v : ρ) : fnw d φ (.ret v) ↔ φ v := Iff.rfl
theorem fnw_nx {φ : ρ → Prop} (f : s → ρ) (x : s) : fnw (some f) φ (.nx x) ↔ φ (f x) := ⟨fun ⟨w, e, q⟩ => by cases e; exact q, fun q => ⟨f, rfl, q⟩⟩
theorem wm_fin {d : Option (s → ρ)} {m : Mg ε (Fl ρ Unit s)} {φ : ρ → Prop} (h : wm m (fnw d φ) ψ) : wm (fin d m) φ ψ := by
  rcases h with ⟨y, rfl, q⟩ | ⟨e, rfl, q⟩
  · cases y with
    | ret v => exact (wm_ok v).mpr q
    | nx u =>
      obtain ⟨v, rfl, q⟩ := q
      exact (wm_ok (v u)).mpr q
    | bk u => exact q.elim
    | ct u => exact q.elim
  · exact (wm_err e).mpr q
def trn (P Q : s → Prop) (R : ρ → Prop) : Fl ρ s s → Prop
  | .ret v => R v
  | .nx y => P y
  | .ct y => P y
  | .bk y => Q y
theorem trn_ret {P Q : s → Prop} {R : ρ → Prop} (v : ρ) : trn P Q R (.ret v) ↔ R v := Iff.rfl
theorem trn_nx {P Q : s → Prop} {R : ρ → Prop} (v : s) : trn P Q R (.nx v) ↔ P v := Iff.rfl
theorem wm_for {f : s → α → Mg ε (Fl ρ s s)} {φ : Fl ρ b s → Prop} (P : Nat → s → Prop) (Q : s → Prop) (R : ρ → Prop) : ∀ (as : List α) (i : Nat) (x : s), P i x →
    (∀ j x a, as[j - i]? = some a → i ≤ j → j < i + as.length → P j x → wm (f x a) (trn (P (j + 1)) Q R) ψ) → (∀ y, P (i + as.length) y → Q y) → (∀ y, Q y → φ (.nx y)) → (∀ v, R v → φ (.ret v)) → wm (forL f as x) φ ψ
  | [], i, x, h, _, hq, k1, k2 => (wm_ok _).mpr (k1 x (hq x h))
  | a :: r, i, x, h, hs, hq, k1, k2 => by
    rcases hs i x a (by simp) (Nat.le_refl _) (by rw [List.length_cons]; omega) h with ⟨o, e, q⟩ | ⟨er, e, q⟩
    · have go : ∀ y, P (i + 1) y → wm (forL (b := b) f r y) φ ψ := fun y hy => wm_for P Q R r (i + 1) y hy
        (fun j x c hc h1 h2 => hs j x c (by rw [show j - i = (j - (i + 1)) + 1 from by omega]; exact hc) (by omega) (by rw [List.length_cons]; omega))
        (fun z hz => hq z (by rw [List.length_cons]; rw [show i + (r.length + 1) = i + 1 + r.length from by omega]; exact hz)) k1 k2
      cases o with
      | ret v => rw [forL_ret e]; exact (wm_ok _).mpr (k2 v q)
      | nx y => rw [forL_nx e]; exact go y q
      | ct y => rw [forL_ct e]; exact go y q
      | bk y => rw [forL_bk e]; exact (wm_ok _).mpr (k1 y q)
    · rw [forL_er e]
      exact (wm_err _).mpr q
theorem whileL_step {p : Er → s → ε} {c : s → M Bool} {f : s → Mg ε (Fl ρ s s)} {n : Nat} {x : s} {φ : Fl ρ b s → Prop}
    (h : wm (c x) (fun t => (t = true → wm (f x) (trn (fun y => wm (whileL (b := b) p c f n y) φ ψ) (fun y => φ (.nx y)) (fun v => φ (.ret v))) ψ) ∧ (t = false → φ (.nx x))) (fun e => ψ (p e x))) : wm (whileL p c f (n + 1) x) φ ψ := by
  show wm (Mg.bindP (fun e => p e x) (c x) _) φ ψ
  rw [wm_bind]
  refine wm_mono h (fun t ht => ?_) fun _ z => z
  rw [wm_ite]
  refine ⟨fun e => ?_, fun e => (wm_ok _).mpr (ht.2 (Bool.eq_false_iff.mpr e))⟩
  rw [wm_bind]
  refine wm_mono (ht.1 e) (fun o ho => ?_) fun _ z => z
  cases o with
  | ret v => exact (wm_ok _).mpr ho
  | nx v => exact ho
  | ct v => exact ho
  | bk v => exact (wm_ok _).mpr ho
theorem wm_while {p : Er → s → ε} {c : s → M Bool} {f : s → Mg ε (Fl ρ s s)} {φ : Fl ρ b s → Prop} (P : Nat → s → Prop) (hs : ∀ n x, P n x → wm (c x) (fun t => (t = true → wm (f x) (trn (fun y => ∃ k < n, P k y) (fun y => φ (.nx y)) (fun v => φ (.ret v))) ψ) ∧ (t = false → φ (.nx x))) (fun e => ψ (p e x))) :
    ∀ (N n : Nat) (x : s), P n x → n < N → wm (whileL p c f N x) φ ψ
  | 0, n, x, h, hn => by omega
  | N + 1, n, x, h, hn => whileL_step (wm_mono (hs n x h) (fun t ht => ⟨fun e => wm_mono (ht.1 e) (fun o ho => by
      cases o with
      | ret v => exact ho
      | nx v => obtain ⟨k, hk, hp⟩ := ho; exact wm_while P hs N k v hp (by omega)
      | ct v => obtain ⟨k, hk, hp⟩ := ho; exact wm_while P hs N k v hp (by omega)
      | bk v => exact ho) fun _ z => z, ht.2⟩) fun _ z => z)
end
inductive P2 {α β : Type} (G : α → β → Prop) : List α → List β → Prop where
  | nil : P2 G [] []
  | cons {a b as bs} : G a b → P2 G as bs → P2 G (a :: as) (b :: bs)
theorem P2.len {α β : Type} {G : α → β → Prop} : ∀ {as bs}, P2 G as bs → bs.length = as.length
  | _, _, .nil => rfl
  | _, _, .cons _ t => congrArg (· + 1) t.len
theorem P2.mem {α β : Type} {G : α → β → Prop} : ∀ {as bs}, P2 G as bs → ∀ b ∈ bs, ∃ a ∈ as, G a b
  | _, _, .nil, b, h => nomatch h
  | _, _, .cons h t, b, hb => (List.mem_cons.mp hb).elim (fun e => ⟨_, List.mem_cons_self, e ▸ h⟩) fun hb => (t.mem b hb).elim fun a z => ⟨a, List.mem_cons_of_mem _ z.1, z.2⟩
theorem P2.map {α β : Type} {g : α → β} : ∀ {as bs}, P2 (fun a b => b = g a) as bs → bs = as.map g
  | _, _, .nil => rfl
  | _, _, .cons h t => by rw [h, t.map]; rfl
theorem wm_val {ε α : Type} {m : Mg ε α} {v : α} (h : wm m (fun r => r = v) (fun _ => False)) : m = M.ok v := h.elim (fun ⟨y, e, q⟩ => q ▸ e) fun ⟨_, _, q⟩ => q.elim
theorem wm_ex {ε α : Type} {m : Mg ε α} {φ : α → Prop} (h : wm m φ (fun _ => False)) : ∃ v, m = M.ok v ∧ φ v := h.elim id fun ⟨_, _, q⟩ => q.elim
section
open Builtin.Str
theorem occ_full (s sub : Str) (hi : Nat) : ∀ (l : List Nat) (st : Array Nat × Nat), st.fst.size = 1 → (forIn l st (StrLaws.occBody s sub hi 1)).run.fst = st.fst
  | [], st, h => rfl
  | a :: l, st, h => by
    rw [List.forIn_cons]
    unfold StrLaws.occBody
    rw [if_neg (fun z => by have := z.1.1.1; omega)]
    exact occ_full s sub hi l (st.fst, st.snd) h
theorem occ_first (s sub : Str) (hi : Nat) : ∀ (l : List Nat) (free : Nat), (∀ i ∈ l, free ≤ i) →
    (forIn l ((#[] : Array Nat), free) (StrLaws.occBody s sub hi 1)).run.fst.toList = (l.find? fun i => decide (i + sub.length ≤ hi) && subAt s sub i).toList
  | [], free, _ => rfl
  | a :: l, free, hf => by
    rw [List.forIn_cons, List.find?_cons]
    unfold StrLaws.occBody
    by_cases hc : a + sub.length ≤ hi ∧ subAt s sub a = true
    · rw [if_pos ⟨⟨⟨by show 0 < 1; omega, hf a List.mem_cons_self⟩, hc.1⟩, hc.2⟩]
      have e : (decide (a + sub.length ≤ hi) && subAt s sub a) = true := by rw [hc.2, decide_eq_true hc.1]; rfl
      rw [e]
      have := occ_full s sub hi l ((#[] : Array Nat).push a, a + sub.length) rfl
      exact congrArg Array.toList this
    · rw [if_neg (fun z => hc ⟨z.1.2, z.2⟩)]
      have e : (decide (a + sub.length ≤ hi) && subAt s sub a) = false := by
        cases h : (decide (a + sub.length ≤ hi) && subAt s sub a) with
        | false => rfl
        | true =>
          rw [Bool.and_eq_true, decide_eq_true_eq] at h
          exact absurd h hc
      rw [e]
      exact occ_first s sub hi l free fun i hi' => hf i (List.mem_cons_of_mem _ hi')
theorem occ1 (s sub : Str) (lo hi : Nat) : occurrences s sub lo hi 1 = ((List.range' lo (hi + 1 - lo)).find? fun i => decide (i + sub.length ≤ hi) && subAt s sub i).toList := by
  rw [StrLaws.occ_eq]
  exact occ_first s sub hi _ lo fun i h => (List.mem_range'_1.mp h).1
theorem subAt_one (a : List Nat) (c i : Nat) : subAt (S a) (S [c]) i = decide (a[i]? = some c) := by
  unfold subAt
  rw [Bool.eq_iff_iff, beq_iff_eq, decide_eq_true_eq, ← Array.toList_inj, Array.toList_extract]
  show (a.drop i).take _ = [c] ↔ _
  rw [show i + (S [c]).length - i = 1 from by show i + 1 - i = 1; omega]
  cases h : a[i]? with
  | none =>
    rw [List.drop_eq_nil_of_le (List.getElem?_eq_none_iff.mp h)]
    simp
  | some d =>
    rw [List.drop_eq_getElem_cons (by exact (List.getElem?_eq_some_iff.mp h).1)]
    have := (List.getElem?_eq_some_iff.mp h).2
    simp [this]
def posC (a : List Nat) (c i : Nat) : Option Nat := (List.range' i (a.length + 1 - i)).find? fun k => decide (a[k]? = some c)
theorem find3_one (a : List Nat) (c i : Nat) : Txt.find3 (S a) (S [c]) (i : Int) = match posC a c i with | some k => (k : Int) | none => -1 := by
  unfold Txt.find3
  have e : (fromIndex (S a).length (i : Int)) = i := by
    unfold fromIndex
    rw [if_neg (by omega)]
    omega
  rw [e, occ1]
  have e2 : (List.range' i ((S a).length + 1 - i)).find? (fun k => decide (k + (S [c]).length ≤ (S a).length) && subAt (S a) (S [c]) k) = posC a c i := by
    unfold posC
    rw [show (S a).length = a.length from S_len a]
    congr 1
    funext k
    rw [subAt_one, show (S [c]).length = 1 from rfl]
    by_cases h : a[k]? = some c
    · have hk : k < a.length := (List.getElem?_eq_some_iff.mp h).1
      rw [show decide (k + 1 ≤ a.length) = true from decide_eq_true (by omega)]
      rfl
    · rw [decide_eq_false h, Bool.and_false]
  rw [e2]
  cases posC a c i <;> rfl
theorem posC_hit {a : List Nat} {c i : Nat} {m r : List Nat} (h : a.drop i = m ++ c :: r) (hm : c ∉ m) : posC a c i = some (i + m.length) := by
  unfold posC
  have hlen : a.length - i = m.length + r.length + 1 := by
    rw [← List.length_drop, h, List.length_append, List.length_cons]; omega
  have hg : ∀ k, a[i + k]? = (m ++ c :: r)[k]? := fun k => by rw [← h, List.getElem?_drop]
  rw [List.find?_range'_eq_some]
  refine ⟨by rw [hg, List.getElem?_append_right (Nat.le_refl _)]; simp, by rw [List.mem_range'_1]; omega, fun j h1 h2 => ?_⟩
  obtain ⟨k, rfl⟩ := Nat.exists_eq_add_of_le h1
  rw [hg, List.getElem?_append_left (by omega)]
  simp only [Bool.not_eq_true', decide_eq_false_iff_not]
  intro hk
  exact hm (List.mem_of_getElem? hk)
theorem find3_hit {a : List Nat} {c i : Nat} {m r : List Nat} (h : a.drop i = m ++ c :: r) (hm : c ∉ m) : Txt.find3 (S a) (S [c]) (i : Int) = ((i + m.length : Nat) : Int) := by
  rw [find3_one, posC_hit h hm]
end
end LK
namespace Pf
open PySem PySem.Spec PyProof.Rows L2 LK
abbrev nm_Order : List Str := ["seed", "_tree", "_many"]
theorem nd_Order : nm_Order.Nodup := by decide +kernel
abbrev U_Order (K : PySem.W.Frag) (r : (Int × (Tr (List Nat)) × Int)) : Fs := [("seed", ce (tF fInt) r.1), ("_tree", ce (tF (fTree K fTxt)) r.2.1), ("_many", ce (tF fInt) r.2.2)]
end Pf

namespace Pf
open PySem L2 LK
def law_shape_b (self : (List (((List Nat) × (List Nat) × Int))) → Mg Er (Tr (List Nat))) (p0 : List (((List Nat) × (List Nat) × Int))) : Mg Er (Fl (Tr (List Nat)) Unit Unit) :=
  if (decide ((p0.length : Int) = (0 : Int))) = true then M.ok (.ret Tr.nil) else (M.ok ((0 : Int))).bind fun v2 => seqF (s1 := Int) ((M.ok ((1 : Int))).bind fun x25 => (M.ok ((p0.length : Int))).bind fun x26 => M.need (-(2 ^ 62) ≤ x25 ∧ x25 < 2 ^ 62 ∧ -(2 ^ 62) ≤ x26 ∧ x26 < 2 ^ 62) (forL (fun s3 a4 => (((at_ p0 a4).bind fun x5 => M.ok (x5.2.2)).bind fun x7 => ((at_ p0 s3).bind fun x6 => M.ok (x6.2.2)).bind fun x8 => M.ok (decide (x8 < x7))).bind fun b10 => if b10 = true then (M.ok (a4)).bind fun v9 => M.ok (.nx v9) else M.ok (.nx s3)) (rng2L x25 x26) v2)) fun s11 => (((((at_ p0 s11).bind fun x12 => M.ok (x12.1)).bind fun x20 => (((at_ p0 s11).bind fun x13 => M.ok (x13.2.1)).bind fun x18 => ((self (cut p0 (none) (some s11))).bind fun x16 => ((self (cut p0 (some (s11 + (1 : Int))) (none))).bind fun x14 => (M.ok ()).bind fun y15 => M.ok (x14, y15)).bind fun y17 => M.ok (x16, y17)).bind fun y19 => M.ok (x18, y19)).bind fun y21 => M.ok (x20, y21)).bind fun a22 => M.ok (a22.1, a22.2.1, a22.2.2.1, a22.2.2.2.1)).bind fun x23 => M.ok (trN x23)).bind fun r24 => M.ok (.ret r24)
def law_shape_f : Nat → (List (((List Nat) × (List Nat) × Int))) → Mg Er (Tr (List Nat))
  | 0 => fun _ => none
  | n + 1 => fun p0 => fin none (law_shape_b (law_shape_f n) p0)
def law_shape_m (p0 : List (((List Nat) × (List Nat) × Int))) : Mg Er (Tr (List Nat)) := law_shape_f 205 p0
def law_coin_b (p0 : Int) (p1 : Int) (p2 : List Nat) : Mg Er (Fl Int Unit Unit) :=
  (M.ok ((((p0 * (48271 : Int)) + (p1 * (69621 : Int))) + (1 : Int)) % (2147483647 : Int))).bind fun v1 => seqF (s1 := Int) (forL (fun s2 a3 => ((((((M.ok (s2 * (16807 : Int))).bind fun x4 => (M.need (a3.length = 1) (M.ok ((a3.getD 0 0 : Nat) : Int))).bind fun x5 => M.ok (x4 + x5)).bind fun x6 => (M.ok ((1 : Int))).bind fun x7 => M.ok (x6 + x7)).bind fun x8 => (M.ok ()).bind fun y9 => M.ok (x8, y9)).bind fun a10 => M.ok (a10.1)).bind fun x11 => M.ok (x11 % (2147483647 : Int))).bind fun v12 => M.ok (.nx v12)) (signs p2) v1) fun s13 => M.ok (.ret (((s13 * (48271 : Int)) + (p2.length : Int)) % (2147483647 : Int)))
def law_coin_m (p0 : Int) (p1 : Int) (p2 : List Nat) : Mg Er Int := fin none (law_coin_b p0 p1 p2)
def law_tree_b (p0 : Int) (p1 : List (((List Nat) × (List Nat)))) : Mg Er (Fl (Tr (List Nat)) Unit Unit) :=
  (((lcL (fun a1 => M.ok (true)) (fun a1 => ((M.ok (a1.1)).bind fun x6 => ((M.ok (a1.2)).bind fun x4 => ((law_coin_m p0 (3 : Int) a1.1).bind fun x2 => (M.ok ()).bind fun y3 => M.ok (x2, y3)).bind fun y5 => M.ok (x4, y5)).bind fun y7 => M.ok (x6, y7)).bind fun a8 => M.ok (a8.1, a8.2.1, a8.2.2.1)) p1 []).bind fun x10 => (M.ok ()).bind fun y11 => M.ok (x10, y11)).bind fun a12 => law_shape_m a12.1).bind fun r13 => M.ok (.ret r13)
def law_tree_m (p0 : Int) (p1 : List (((List Nat) × (List Nat)))) : Mg Er (Tr (List Nat)) := fin none (law_tree_b p0 p1)
def law_odd_b (p0 : Tr (List Nat)) (p1 : Tr (List Nat)) : Mg Er (Fl (List (Tr (List Nat))) Unit Unit) :=
  if p0.isNil = true then M.ok (.ret [Tr.nil]) else ((M.ok (p0)).bind trT).bind fun v2 => (M.ok ([trN (v2.1, v2.2.1, v2.2.2.2, v2.2.2.1), trN (v2.1, v2.2.1, p1, v2.2.2.2), trN (v2.1, v2.2.1, v2.2.2.1, p1)])).bind fun v3 => seqF (s1 := (List (Tr (List Nat)))) (if (!v2.2.2.1.isNil) = true then ((((trK v2.2.2.1).bind fun x22 => ((trA v2.2.2.1).bind fun x20 => ((trL v2.2.2.1).bind fun x18 => (((((M.ok (v2.1)).bind fun x12 => ((M.ok (v2.2.1)).bind fun x10 => ((trRt v2.2.2.1).bind fun x8 => ((M.ok (v2.2.2.2)).bind fun x6 => (M.ok ()).bind fun y7 => M.ok (x6, y7)).bind fun y9 => M.ok (x8, y9)).bind fun y11 => M.ok (x10, y11)).bind fun y13 => M.ok (x12, y13)).bind fun a14 => M.ok (a14.1, a14.2.1, a14.2.2.1, a14.2.2.2.1)).bind fun x15 => M.ok (trN x15)).bind fun x16 => (M.ok ()).bind fun y17 => M.ok (x16, y17)).bind fun y19 => M.ok (x18, y19)).bind fun y21 => M.ok (x20, y21)).bind fun y23 => M.ok (x22, y23)).bind fun a24 => M.ok (a24.1, a24.2.1, a24.2.2.1, a24.2.2.2.1)).bind fun x25 => M.ok (trN x25)).bind fun v26 => M.need (v3.length < sizeLine) (((((trK v2.2.2.1).bind fun x43 => ((M.ok (v2.2.1)).bind fun x41 => (((((M.ok (v2.1)).bind fun x33 => ((trA v2.2.2.1).bind fun x31 => ((trL v2.2.2.1).bind fun x29 => ((trRt v2.2.2.1).bind fun x27 => (M.ok ()).bind fun y28 => M.ok (x27, y28)).bind fun y30 => M.ok (x29, y30)).bind fun y32 => M.ok (x31, y32)).bind fun y34 => M.ok (x33, y34)).bind fun a35 => M.ok (a35.1, a35.2.1, a35.2.2.1, a35.2.2.2.1)).bind fun x36 => M.ok (trN x36)).bind fun x39 => ((M.ok (v2.2.2.2)).bind fun x37 => (M.ok ()).bind fun y38 => M.ok (x37, y38)).bind fun y40 => M.ok (x39, y40)).bind fun y42 => M.ok (x41, y42)).bind fun y44 => M.ok (x43, y44)).bind fun a45 => M.ok (a45.1, a45.2.1, a45.2.2.1, a45.2.2.2.1)).bind fun x46 => M.ok (trN x46)).bind fun v47 => M.need ((v3 ++ [v26]).length < sizeLine) (M.ok (.nx ((v3 ++ [v26]) ++ [v47])))) else M.ok (.nx v3)) fun s4 => seqF (s1 := (List (Tr (List Nat)))) (if (!v2.2.2.2.isNil) = true then ((((trK v2.2.2.2).bind fun x66 => ((trA v2.2.2.2).bind fun x64 => (((((M.ok (v2.1)).bind fun x56 => ((M.ok (v2.2.1)).bind fun x54 => ((M.ok (v2.2.2.1)).bind fun x52 => ((trL v2.2.2.2).bind fun x50 => (M.ok ()).bind fun y51 => M.ok (x50, y51)).bind fun y53 => M.ok (x52, y53)).bind fun y55 => M.ok (x54, y55)).bind fun y57 => M.ok (x56, y57)).bind fun a58 => M.ok (a58.1, a58.2.1, a58.2.2.1, a58.2.2.2.1)).bind fun x59 => M.ok (trN x59)).bind fun x62 => ((trRt v2.2.2.2).bind fun x60 => (M.ok ()).bind fun y61 => M.ok (x60, y61)).bind fun y63 => M.ok (x62, y63)).bind fun y65 => M.ok (x64, y65)).bind fun y67 => M.ok (x66, y67)).bind fun a68 => M.ok (a68.1, a68.2.1, a68.2.2.1, a68.2.2.2.1)).bind fun x69 => M.ok (trN x69)).bind fun v70 => M.need (s4.length < sizeLine) (M.ok (.nx (s4 ++ [v70]))) else M.ok (.nx s4)) fun s48 => M.ok (.ret s48)
def law_odd_m (p0 : Tr (List Nat)) (p1 : Tr (List Nat)) : Mg Er (List (Tr (List Nat))) := fin none (law_odd_b p0 p1)
def number_of_b (p0 : List Nat) : Mg Er (Fl Int Unit Unit) :=
  if ((!(Txt.isdigit (S p0))) || (decide ((9 : Int) < (p0.length : Int)))) = true then M.err Er.badForm else ((((at_ p0 (0 : Int)).bind fun c => M.ok [c]).bind fun x1 => (M.ok (([48] : List Nat))).bind fun x2 => M.ok (decide (x1 = x2))).bind fun b3 => if b3 = true then M.ok (decide ((1 : Int) < (p0.length : Int))) else M.ok false).bind fun b5 => if b5 = true then M.err Er.badForm else (M.need (p0.length ≤ 640) (intS p0)).bind fun r4 => M.ok (.ret r4)
def number_of_m (p0 : List Nat) : Mg Er Int := fin none (number_of_b p0)
def tree_of_nodes_b (p0 : List ((Int × (List Nat) × (List Nat)))) : Mg Er (Fl (Tr (List Nat)) Unit Unit) :=
  (M.ok ([])).bind fun v1 => seqF (s1 := (List (Tr (List Nat)))) ((M.ok () : M Unit).bind fun x20 => forL (fun s4 a5 => (M.ok (Tr.nil)).bind fun v6 => (M.ok (Tr.nil)).bind fun v7 => if (decide ((s4.length : Int) < (a5.1 % (2 : Int)) + (a5.1 / (2 : Int)))) = true then M.err Er.badForm else seqF (s1 := (Tr (List Nat)) × (List (Tr (List Nat)))) (if (decide (a5.1 % (2 : Int) = (1 : Int))) = true then ((popL s4).bind fun r10 => M.ok r10).bind fun z9 => M.ok (.nx (z9.1, z9.2)) else M.ok (.nx (v6, s4))) fun s8 => seqF (s1 := (Tr (List Nat)) × (List (Tr (List Nat)))) (if (decide (a5.1 / (2 : Int) = (1 : Int))) = true then ((popL s8.2).bind fun r14 => M.ok r14).bind fun z13 => M.ok (.nx (z13.1, z13.2)) else M.ok (.nx (v7, s8.2))) fun s12 => (M.ok (trN (a5.2.1, a5.2.2, s8.1, s12.1))).bind fun v16 => M.need (s12.2.length < sizeLine) (M.ok (.nx (s12.2 ++ [v16])))) p0.reverse v1) fun s17 => if (decide ((1 : Int) < (s17.length : Int))) = true then M.err Er.badForm else if (decide ((s17.length : Int) = (0 : Int))) = true then M.ok (.ret Tr.nil) else (at_ s17 (0 : Int)).bind fun r19 => M.ok (.ret r19)
def tree_of_nodes_m (p0 : List ((Int × (List Nat) × (List Nat)))) : Mg Er (Tr (List Nat)) := fin none (tree_of_nodes_b p0)
def read_part_b (p0 : List Nat) (p1 : Int) : Mg Er (Fl (((List Nat) × Int)) Unit Unit) :=
  (M.ok (Txt.find3 (S p0) (S ([58] : List Nat)) p1)).bind fun v1 => if (decide (v1 < (0 : Int))) = true then M.err Er.badForm else ((M.ok (v1 + (1 : Int))).bind fun x2 => (number_of_m (cut p0 (some p1) (some v1))).bind fun x3 => M.ok (x2 + x3)).bind fun v4 => if (decide ((p0.length : Int) < v4)) = true then M.err Er.badForm else M.ok (.ret (cut p0 (some (v1 + (1 : Int))) (some v4), v4))
def read_part_m (p0 : List Nat) (p1 : Int) : Mg Er (((List Nat) × Int)) := fin none (read_part_b p0 p1)
def read_nodes_b (p0 : List Nat) (p1 : Int) (p2 : Int) : Mg Er (Fl (List ((Int × (List Nat) × (List Nat)))) Unit Unit) :=
  (M.ok ([])).bind fun v1 => seqF (s1 := Int × (List ((Int × (List Nat) × (List Nat))))) (whileL (fun e _ => e) (fun s3 => M.ok (decide ((s3.2.length : Int) < p2))) (fun s3 => (M.ok (cut p0 (some s3.1) (some (s3.1 + (1 : Int))))).bind fun v4 => if ((decide (v4 = ([] : List Nat))) || (!occIn v4 ([48, 49, 50, 51] : List Nat))) = true then M.err Er.badForm else (read_part_m p0 (s3.1 + (1 : Int))).bind fun v5 => (read_part_m p0 v5.2).bind fun v6 => if ((!((decide ((1 : Int) ≤ (v5.1.length : Int))) && (decide ((v5.1.length : Int) ≤ (40 : Int))))) || (decide ((600 : Int) < (v6.1.length : Int)))) = true then M.err Er.badForm else (((M.need (v4.length ≤ 640) (intS v4)).bind fun x11 => ((M.ok (v5.1)).bind fun x9 => ((M.ok (v6.1)).bind fun x7 => (M.ok ()).bind fun y8 => M.ok (x7, y8)).bind fun y10 => M.ok (x9, y10)).bind fun y12 => M.ok (x11, y12)).bind fun a13 => M.ok (a13.1, a13.2.1, a13.2.2.1)).bind fun v14 => M.need (s3.2.length < sizeLine) (M.ok (.nx (v6.2, (s3.2 ++ [v14]))))) (210) (p1, v1)) fun s15 => if (!decide (s15.1 = (p0.length : Int))) = true then M.err Er.badForm else M.ok (.ret s15.2)
def read_nodes_m (p0 : List Nat) (p1 : Int) (p2 : Int) : Mg Er (List ((Int × (List Nat) × (List Nat)))) := fin none (read_nodes_b p0 p1 p2)
def gather_b (self : (Tr (List Nat)) → (List (((List Nat) × (List Nat)))) → Mg (Er × (List (((List Nat) × (List Nat))))) (List (((List Nat) × (List Nat))))) (p0 : Tr (List Nat)) (p1 : List (((List Nat) × (List Nat)))) : Mg (Er × (List (((List Nat) × (List Nat))))) (Fl (List (((List Nat) × (List Nat)))) Unit ((List (((List Nat) × (List Nat)))))) :=
  if (!p0.isNil) = true then (((trL p0).bind fun x3 => ((M.ok (())).bind fun x1 => (M.ok ()).bind fun y2 => M.ok (x1, y2)).bind fun y4 => M.ok (x3, y4)).bindP (fun e => (e, p1)) fun a5 => (self a5.1 p1).bindP (fun (e8 : Er × (List (((List Nat) × (List Nat))))) => (e8.1, e8.2)) fun r6 => M.ok r6).bind fun z7 => (((trK p0).bind fun x11 => ((trA p0).bind fun x9 => (M.ok ()).bind fun y10 => M.ok (x9, y10)).bind fun y12 => M.ok (x11, y12)).bind fun a13 => M.ok (a13.1, a13.2.1)).bindP (fun e => (e, z7)) fun v14 => M.need (z7.length < sizeLine) ((((trRt p0).bind fun x17 => ((M.ok (())).bind fun x15 => (M.ok ()).bind fun y16 => M.ok (x15, y16)).bind fun y18 => M.ok (x17, y18)).bindP (fun e => (e, (z7 ++ [v14]))) fun a19 => (self a19.1 (z7 ++ [v14])).bindP (fun (e22 : Er × (List (((List Nat) × (List Nat))))) => (e22.1, e22.2)) fun r20 => M.ok r20).bind fun z21 => M.ok (.nx z21)) else M.ok (.nx p1)
def gather_f : Nat → (Tr (List Nat)) → (List (((List Nat) × (List Nat)))) → Mg (Er × (List (((List Nat) × (List Nat))))) (List (((List Nat) × (List Nat))))
  | 0 => fun _ _ => none
  | n + 1 => fun p0 p1 => fin (some fun (s : (List (((List Nat) × (List Nat))))) => s) (gather_b (gather_f n) p0 p1)
def gather_m (p0 : Tr (List Nat)) (p1 : List (((List Nat) × (List Nat)))) : Mg (Er × (List (((List Nat) × (List Nat))))) (List (((List Nat) × (List Nat)))) := gather_f 205 p0 p1
def tree_entries_b (p0 : Tr (List Nat)) : Mg Er (Fl (List (((List Nat) × (List Nat)))) Unit Unit) :=
  (M.ok ([])).bind fun v1 => ((gather_m p0 v1).bindP (fun (e6 : Er × (List (((List Nat) × (List Nat))))) => e6.1) fun r4 => M.ok r4).bind fun z5 => M.ok (.ret z5)
def tree_entries_m (p0 : Tr (List Nat)) : Mg Er (List (((List Nat) × (List Nat)))) := fin none (tree_entries_b p0)
def coin_b (p0 : Int) (p1 : Int) (p2 : List Nat) : Mg Er (Fl Int Unit Unit) :=
  (M.ok ((((p0 * (48271 : Int)) + (p1 * (69621 : Int))) + (1 : Int)) % (2147483647 : Int))).bind fun v1 => seqF (s1 := Int) (forL (fun s2 a3 => ((((M.ok (s2 * (16807 : Int))).bind fun x4 => (M.need (a3.length = 1) (M.ok ((a3.getD 0 0 : Nat) : Int))).bind fun x5 => M.ok (x4 + x5)).bind fun x6 => (M.ok ((1 : Int))).bind fun x7 => M.ok (x6 + x7)).bind fun x8 => M.ok (x8 % (2147483647 : Int))).bind fun v9 => M.ok (.nx v9)) (signs p2) v1) fun s10 => M.ok (.ret (((s10 * (48271 : Int)) + (p2.length : Int)) % (2147483647 : Int)))
def coin_m (p0 : Int) (p1 : Int) (p2 : List Nat) : Mg Er Int := fin none (coin_b p0 p1 p2)
def above_b (p0 : Int) (p1 : List Nat) (p2 : List Nat) : Mg Er (Fl Bool Unit Unit) :=
  (coin_m p0 (3 : Int) p1).bind fun v1 => (coin_m p0 (3 : Int) p2).bind fun v2 => if (decide (v1 = v2)) = true then M.ok (.ret (decide (p1 < p2))) else M.ok (.ret (decide (v2 < v1)))
def above_m (p0 : Int) (p1 : List Nat) (p2 : List Nat) : Mg Er Bool := fin none (above_b p0 p1 p2)
def heaped_b (self : Int → (Tr (List Nat)) → Mg Er Bool) (p0 : Int) (p1 : Tr (List Nat)) : Mg Er (Fl Bool Unit Unit) :=
  if p1.isNil = true then M.ok (.ret true) else seqF (s1 := Unit) (((((trL p1).bind fun x10 => ((trRt p1).bind fun x8 => (M.ok ()).bind fun y9 => M.ok (x8, y9)).bind fun y11 => M.ok (x10, y11)).bind fun a12 => M.ok (a12.1, a12.2.1)).bind fun x13 => M.ok [x13.1, x13.2]).bind fun x40 => forL (fun s14 a15 => ((M.ok (!a15.isNil)).bind fun b24 => if b24 = true then (((M.ok (p0)).bind fun x20 => ((trK p1).bind fun x18 => ((trK a15).bind fun x16 => (M.ok ()).bind fun y17 => M.ok (x16, y17)).bind fun y19 => M.ok (x18, y19)).bind fun y21 => M.ok (x20, y21)).bind fun a22 => above_m a22.1 a22.2.1 a22.2.2.1).bind fun b23 => M.ok (!b23) else M.ok false).bind fun b26 => if b26 = true then M.ok (.ret false) else M.ok (.nx ())) x40 ()) fun s27 => ((((M.ok (p0)).bind fun x30 => ((trL p1).bind fun x28 => (M.ok ()).bind fun y29 => M.ok (x28, y29)).bind fun y31 => M.ok (x30, y31)).bind fun a32 => self a32.1 a32.2.1).bind fun b38 => if b38 = true then ((M.ok (p0)).bind fun x35 => ((trRt p1).bind fun x33 => (M.ok ()).bind fun y34 => M.ok (x33, y34)).bind fun y36 => M.ok (x35, y36)).bind fun a37 => self a37.1 a37.2.1 else M.ok false).bind fun r39 => M.ok (.ret r39)
def heaped_f : Nat → Int → (Tr (List Nat)) → Mg Er Bool
  | 0 => fun _ _ => none
  | n + 1 => fun p0 p1 => fin none (heaped_b (heaped_f n) p0 p1)
def heaped_m (p0 : Int) (p1 : Tr (List Nat)) : Mg Er Bool := heaped_f 205 p0 p1
def is_shaped_b (p0 : Int) (p1 : Tr (List Nat)) : Mg Er (Fl Bool Unit Unit) :=
  (tree_entries_m p1).bind fun v1 => seqF (s1 := Unit) ((M.ok ((1 : Int))).bind fun x12 => (M.ok ((v1.length : Int))).bind fun x13 => M.need (-(2 ^ 62) ≤ x12 ∧ x12 < 2 ^ 62 ∧ -(2 ^ 62) ≤ x13 ∧ x13 < 2 ^ 62) (forL (fun s2 a3 => (((at_ v1 (a3 - (1 : Int))).bind fun x4 => M.ok (x4.1)).bind fun x6 => ((at_ v1 a3).bind fun x5 => M.ok (x5.1)).bind fun x7 => M.ok (!decide (x6 < x7))).bind fun b9 => if b9 = true then M.ok (.ret false) else M.ok (.nx ())) (rng2L x12 x13) ())) fun s10 => (heaped_m p0 p1).bind fun r11 => M.ok (.ret r11)
def is_shaped_m (p0 : Int) (p1 : Tr (List Nat)) : Mg Er Bool := fin none (is_shaped_b p0 p1)
def tree_from_image_b (p0 : Int) (p1 : List Nat) : Mg Er (Fl (Tr (List Nat)) Unit Unit) :=
  (M.ok (Txt.find (S p1) (S ([59] : List Nat)))).bind fun v1 => if (decide (v1 < (0 : Int))) = true then M.err Er.badForm else (number_of_m (cut p1 (none) (some v1))).bind fun v2 => if (decide ((200 : Int) < v2)) = true then M.err Er.badForm else (((read_nodes_m p1 (v1 + (1 : Int)) v2).bind fun x3 => (M.ok ()).bind fun y4 => M.ok (x3, y4)).bind fun a5 => tree_of_nodes_m a5.1).bind fun v6 => ((is_shaped_m p0 v6).bind fun b7 => M.ok (!b7)).bind fun b9 => if b9 = true then M.err Er.badForm else M.ok (.ret v6)
def tree_from_image_m (p0 : Int) (p1 : List Nat) : Mg Er (Tr (List Nat)) := fin none (tree_from_image_b p0 p1)
def law_read_b (p0 : Int) (p1 : List Nat) : Mg Er (Fl (((Tr (List Nat)) × (List Nat))) Unit Unit) :=
  seqF (s1 := Unit) (tryF ((((tree_from_image_m p0 p1).bind fun x5 => ((M.ok (([114, 101, 97, 100] : List Nat))).bind fun x3 => (M.ok ()).bind fun y4 => M.ok (x3, y4)).bind fun y6 => M.ok (x5, y6)).bind fun a7 => M.ok (a7.1, a7.2.1)).bindP (fun e => e) fun r8 => M.ok (.ret r8)) (fun (e1 : Er) => exE [(.notAllowed, false), (.badForm, true), (.full, false), (.missing, false)] e1 (((exI [(.notAllowed, false), (.badForm, false), (.full, true), (.missing, true)] e1).bind fun b17 => if b17 = true then M.ok true else (exI [(.notAllowed, true), (.badForm, false), (.full, false), (.missing, false)] e1).bind fun b16 => if b16 = true then M.ok true else (exI [(.notAllowed, true), (.badForm, true), (.full, true), (.missing, true)] e1).bind fun b15 => M.ok (!b15)).bind fun b20 => if b20 = true then M.ok (.ret (Tr.nil, ([111, 116, 104, 101, 114] : List Nat))) else M.ok (.ret (Tr.nil, ([114, 101, 102, 117, 115, 101, 100] : List Nat)))) (M.err e1))) fun s2 => M.ok (.nx ())
def law_read_m (p0 : Int) (p1 : List Nat) : Mg Er (((Tr (List Nat)) × (List Nat))) := fin none (law_read_b p0 p1)
def law_numbers_b (p0 : Int) (p1 : Int) (p2 : Int) : Mg Er (Fl (List (Int)) Unit Unit) :=
  (M.ok ([])).bind fun v1 => if (decide ((10 : Int) ^ ((18 : Int)).toNat ≤ p0)) = true then (M.ok (p0)).bind fun v2 => seqF (s1 := Int × (List (Int))) (M.need (-(2 ^ 62) ≤ p2 ∧ p2 < 2 ^ 62) (forL (fun s4 a5 => (M.ok (s4.1 % (1000 : Int))).bind fun v6 => M.need (s4.2.length < sizeLine) ((M.ok (s4.1 / (1000 : Int))).bind fun v7 => M.ok (.nx (v7, (s4.2 ++ [v6]))))) (rngL p2) (v2, v1))) fun s8 => M.ok (.ret s8.2) else (M.ok ((((p0 * (48271 : Int)) + (p1 * (69621 : Int))) + (11 : Int)) % (2147483647 : Int))).bind fun v9 => seqF (s1 := Int × (List (Int))) (M.need (-(2 ^ 62) ≤ p2 ∧ p2 < 2 ^ 62) (forL (fun s11 a12 => (M.ok ((((s11.1 * (16807 : Int)) + (a12 * (7919 : Int))) + (13 : Int)) % (2147483647 : Int))).bind fun v13 => ((((((M.need ((-(2 ^ 64) < v13 ∧ v13 < 2 ^ 64) ∨ (-(2 ^ 64) < v13 ∧ v13 < 2 ^ 64)) (M.ok (v13 * v13))).bind fun x14 => (M.ok (p1 * (31 : Int))).bind fun x15 => M.ok (x14 + x15)).bind fun x16 => (M.ok (a12)).bind fun x17 => M.ok (x16 + x17)).bind fun x18 => (M.ok ()).bind fun y19 => M.ok (x18, y19)).bind fun a20 => M.ok (a20.1)).bind fun x21 => M.ok (x21 % (1000000007 : Int))).bind fun v22 => (M.ok ((v22 / (101 : Int)) % (1000 : Int))).bind fun v23 => M.need (s11.2.length < sizeLine) (M.ok (.nx (v13, (s11.2 ++ [v23]))))) (rngL p2) (v9, v1))) fun s24 => M.ok (.ret s24.2)
def law_numbers_m (p0 : Int) (p1 : Int) (p2 : Int) : Mg Er (List (Int)) := fin none (law_numbers_b p0 p1 p2)
def law_value_b (p0 : Int) : Mg Er (Fl (List Nat) Unit Unit) :=
  if (decide (p0 % (61 : Int) = (7 : Int))) = true then (M.need (-1000000 ≤ (600 : Int) ∧ (600 : Int) ≤ 1000000 ∧ ([118] : List Nat).length * (600 : Int).toNat ≤ 1000000) (M.ok (repT ([118] : List Nat) (600 : Int)))).bind fun r1 => M.ok (.ret r1) else ((M.ok (cut ([120, 121, 122, 58, 48] : List Nat) (none) (some (p0 % (6 : Int))))).bind fun x4 => ((M.need (((p0 / (6 : Int)) % (20 : Int)).natAbs.log2 < 1920 ∧ tOk (strI ((p0 / (6 : Int)) % (20 : Int)))) (M.ok (strI ((p0 / (6 : Int)) % (20 : Int))))).bind fun x2 => (M.ok ((p0 / (120 : Int)) % (3 : Int))).bind fun x3 => M.need (-1000000 ≤ x3 ∧ x3 ≤ 1000000 ∧ x2.length * x3.toNat ≤ 1000000) (M.ok (repT x2 x3))).bind fun x5 => M.need (x4.length + x5.length ≤ sizeLine) (M.ok (x4 ++ x5))).bind fun r6 => M.ok (.ret r6)
def law_value_m (p0 : Int) : Mg Er (List Nat) := fin none (law_value_b p0)
def split_tree_b (ring_split_tree : (Tr (List Nat)) → (List Nat) → Mg (Er) (((Tr (List Nat)) × (Tr (List Nat))))) (ring_put_entry : Int → (Tr (List Nat)) → (List Nat) → (List Nat) → Mg (Er) (Tr (List Nat))) (p0 : Tr (List Nat)) (p1 : List Nat) : Mg Er (Fl (((Tr (List Nat)) × (Tr (List Nat)))) Unit Unit) :=
  if p0.isNil = true then M.ok (.ret (Tr.nil, Tr.nil)) else ((trK p0).bind fun x2 => (M.ok (p1)).bind fun x3 => M.ok (decide (x2 < x3))).bind fun b48 => if b48 = true then (((trRt p0).bind fun x6 => ((M.ok (p1)).bind fun x4 => (M.ok ()).bind fun y5 => M.ok (x4, y5)).bind fun y7 => M.ok (x6, y7)).bind fun a8 => ring_split_tree a8.1 a8.2.1).bind fun v9 => ((((((trK p0).bind fun x16 => ((trA p0).bind fun x14 => ((trL p0).bind fun x12 => ((M.ok (v9.1)).bind fun x10 => (M.ok ()).bind fun y11 => M.ok (x10, y11)).bind fun y13 => M.ok (x12, y13)).bind fun y15 => M.ok (x14, y15)).bind fun y17 => M.ok (x16, y17)).bind fun a18 => M.ok (a18.1, a18.2.1, a18.2.2.1, a18.2.2.2.1)).bind fun x19 => M.ok (trN x19)).bind fun x22 => ((M.ok (v9.2)).bind fun x20 => (M.ok ()).bind fun y21 => M.ok (x20, y21)).bind fun y23 => M.ok (x22, y23)).bind fun a24 => M.ok (a24.1, a24.2.1)).bind fun r25 => M.ok (.ret r25) else (((trL p0).bind fun x28 => ((M.ok (p1)).bind fun x26 => (M.ok ()).bind fun y27 => M.ok (x26, y27)).bind fun y29 => M.ok (x28, y29)).bind fun a30 => ring_split_tree a30.1 a30.2.1).bind fun v31 => (((M.ok (v31.1)).bind fun x44 => (((((trK p0).bind fun x38 => ((trA p0).bind fun x36 => ((M.ok (v31.2)).bind fun x34 => ((trRt p0).bind fun x32 => (M.ok ()).bind fun y33 => M.ok (x32, y33)).bind fun y35 => M.ok (x34, y35)).bind fun y37 => M.ok (x36, y37)).bind fun y39 => M.ok (x38, y39)).bind fun a40 => M.ok (a40.1, a40.2.1, a40.2.2.1, a40.2.2.2.1)).bind fun x41 => M.ok (trN x41)).bind fun x42 => (M.ok ()).bind fun y43 => M.ok (x42, y43)).bind fun y45 => M.ok (x44, y45)).bind fun a46 => M.ok (a46.1, a46.2.1)).bind fun r47 => M.ok (.ret r47)
def put_entry_b (ring_split_tree : (Tr (List Nat)) → (List Nat) → Mg (Er) (((Tr (List Nat)) × (Tr (List Nat))))) (ring_put_entry : Int → (Tr (List Nat)) → (List Nat) → (List Nat) → Mg (Er) (Tr (List Nat))) (p0 : Int) (p1 : Tr (List Nat)) (p2 : List Nat) (p3 : List Nat) : Mg Er (Fl (Tr (List Nat)) Unit Unit) :=
  if p1.isNil = true then M.ok (.ret (trN (p2, p3, Tr.nil, Tr.nil))) else ((M.ok (p2)).bind fun x2 => (trK p1).bind fun x3 => M.ok (decide (x2 = x3))).bind fun b68 => if b68 = true then ((((M.ok (p2)).bind fun x10 => ((M.ok (p3)).bind fun x8 => ((trL p1).bind fun x6 => ((trRt p1).bind fun x4 => (M.ok ()).bind fun y5 => M.ok (x4, y5)).bind fun y7 => M.ok (x6, y7)).bind fun y9 => M.ok (x8, y9)).bind fun y11 => M.ok (x10, y11)).bind fun a12 => M.ok (a12.1, a12.2.1, a12.2.2.1, a12.2.2.2.1)).bind fun x13 => M.ok (trN x13)).bind fun r14 => M.ok (.ret r14) else (((M.ok (p0)).bind fun x19 => ((M.ok (p2)).bind fun x17 => ((trK p1).bind fun x15 => (M.ok ()).bind fun y16 => M.ok (x15, y16)).bind fun y18 => M.ok (x17, y18)).bind fun y20 => M.ok (x19, y20)).bind fun a21 => above_m a21.1 a21.2.1 a21.2.2.1).bind fun b67 => if b67 = true then (ring_split_tree p1 p2).bind fun v22 => M.ok (.ret (trN (p2, p3, v22.1, v22.2))) else ((M.ok (p2)).bind fun x24 => (trK p1).bind fun x25 => M.ok (decide (x24 < x25))).bind fun b66 => if b66 = true then ((((trK p1).bind fun x41 => ((trA p1).bind fun x39 => ((((M.ok (p0)).bind fun x32 => ((trL p1).bind fun x30 => ((M.ok (p2)).bind fun x28 => ((M.ok (p3)).bind fun x26 => (M.ok ()).bind fun y27 => M.ok (x26, y27)).bind fun y29 => M.ok (x28, y29)).bind fun y31 => M.ok (x30, y31)).bind fun y33 => M.ok (x32, y33)).bind fun a34 => ring_put_entry a34.1 a34.2.1 a34.2.2.1 a34.2.2.2.1).bind fun x37 => ((trRt p1).bind fun x35 => (M.ok ()).bind fun y36 => M.ok (x35, y36)).bind fun y38 => M.ok (x37, y38)).bind fun y40 => M.ok (x39, y40)).bind fun y42 => M.ok (x41, y42)).bind fun a43 => M.ok (a43.1, a43.2.1, a43.2.2.1, a43.2.2.2.1)).bind fun x44 => M.ok (trN x44)).bind fun r45 => M.ok (.ret r45) else ((((trK p1).bind fun x61 => ((trA p1).bind fun x59 => ((trL p1).bind fun x57 => ((((M.ok (p0)).bind fun x52 => ((trRt p1).bind fun x50 => ((M.ok (p2)).bind fun x48 => ((M.ok (p3)).bind fun x46 => (M.ok ()).bind fun y47 => M.ok (x46, y47)).bind fun y49 => M.ok (x48, y49)).bind fun y51 => M.ok (x50, y51)).bind fun y53 => M.ok (x52, y53)).bind fun a54 => ring_put_entry a54.1 a54.2.1 a54.2.2.1 a54.2.2.2.1).bind fun x55 => (M.ok ()).bind fun y56 => M.ok (x55, y56)).bind fun y58 => M.ok (x57, y58)).bind fun y60 => M.ok (x59, y60)).bind fun y62 => M.ok (x61, y62)).bind fun a63 => M.ok (a63.1, a63.2.1, a63.2.2.1, a63.2.2.2.1)).bind fun x64 => M.ok (trN x64)).bind fun r65 => M.ok (.ret r65)
def rg_split_tree_f : Nat → ((Tr (List Nat)) → (List Nat) → Mg Er (((Tr (List Nat)) × (Tr (List Nat))))) × (Int → (Tr (List Nat)) → (List Nat) → (List Nat) → Mg Er (Tr (List Nat)))
  | 0 => (fun _ _ => none, fun _ _ _ _ => none)
  | n + 1 => (fun p0 p1 => fin none (split_tree_b (rg_split_tree_f n).1 (rg_split_tree_f n).2 p0 p1), fun p0 p1 p2 p3 => fin none (put_entry_b (rg_split_tree_f n).1 (rg_split_tree_f n).2 p0 p1 p2 p3))
def put_entry_m (p0 : Int) (p1 : Tr (List Nat)) (p2 : List Nat) (p3 : List Nat) : Mg Er (Tr (List Nat)) := (rg_split_tree_f 205).2 p0 p1 p2 p3
def law_pack_b (p0 : List (List Nat)) : Mg Er (Fl (List Nat) Unit Unit) :=
  ((M.ok (([] : List Nat))).bind fun x9 => ((lcL (fun a1 => M.ok (true)) (fun a1 => ((M.need ((a1.length : Int).natAbs.log2 < 1920 ∧ tOk (strI (a1.length : Int))) (M.ok (strI (a1.length : Int)))).bind fun x2 => (M.ok (([58] : List Nat))).bind fun x3 => M.need (x2.length + x3.length ≤ sizeLine) (M.ok (x2 ++ x3))).bind fun x4 => (M.ok (a1)).bind fun x5 => M.need (x4.length + x5.length ≤ sizeLine) (M.ok (x4 ++ x5))) p0 []).bind fun x7 => (M.ok ()).bind fun y8 => M.ok (x7, y8)).bind fun a10 => M.need ((a10.1.map List.length).sum + a10.1.length * x9.length ≤ 16777216 ∧ tOk (joinL x9 a10.1)) (M.ok (joinL x9 a10.1))).bind fun r11 => M.ok (.ret r11)
def law_pack_m (p0 : List (List Nat)) : Mg Er (List Nat) := fin none (law_pack_b p0)
def law_nodes_b (self : (Tr (List Nat)) → Mg Er (List Nat)) (p0 : Tr (List Nat)) : Mg Er (Fl (List Nat) Unit Unit) :=
  if p0.isNil = true then M.ok (.ret ([] : List Nat)) else (((((trL p0).bind fun x2 => (M.ok (())).bind fun x3 => M.ok (!x2.isNil)).bind fun x4 => (M.ok ()).bind fun y5 => M.ok (x4, y5)).bind fun a6 => M.ok ((if a6.1 = true then (1 : Int) else 0))).bind fun x14 => ((M.ok ((2 : Int))).bind fun x12 => ((((trRt p0).bind fun x7 => (M.ok (())).bind fun x8 => M.ok (!x7.isNil)).bind fun x9 => (M.ok ()).bind fun y10 => M.ok (x9, y10)).bind fun a11 => M.ok ((if a11.1 = true then (1 : Int) else 0))).bind fun x13 => M.need ((-(2 ^ 64) < x12 ∧ x12 < 2 ^ 64) ∨ (-(2 ^ 64) < x13 ∧ x13 < 2 ^ 64)) (M.ok (x12 * x13))).bind fun x15 => M.ok (x14 + x15)).bind fun v16 => ((((M.need (v16.natAbs.log2 < 1920 ∧ tOk (strI v16)) (M.ok (strI v16))).bind fun x25 => (((((trK p0).bind fun x19 => ((trA p0).bind fun x17 => (M.ok ()).bind fun y18 => M.ok (x17, y18)).bind fun y20 => M.ok (x19, y20)).bind fun a21 => M.ok [a21.1, a21.2.1]).bind fun x22 => (M.ok ()).bind fun y23 => M.ok (x22, y23)).bind fun a24 => law_pack_m a24.1).bind fun x26 => M.need (x25.length + x26.length ≤ sizeLine) (M.ok (x25 ++ x26))).bind fun x30 => (((trL p0).bind fun x27 => (M.ok ()).bind fun y28 => M.ok (x27, y28)).bind fun a29 => self a29.1).bind fun x31 => M.need (x30.length + x31.length ≤ sizeLine) (M.ok (x30 ++ x31))).bind fun x35 => (((trRt p0).bind fun x32 => (M.ok ()).bind fun y33 => M.ok (x32, y33)).bind fun a34 => self a34.1).bind fun x36 => M.need (x35.length + x36.length ≤ sizeLine) (M.ok (x35 ++ x36))).bind fun r37 => M.ok (.ret r37)
def law_nodes_f : Nat → (Tr (List Nat)) → Mg Er (List Nat)
  | 0 => fun _ => none
  | n + 1 => fun p0 => fin none (law_nodes_b (law_nodes_f n) p0)
def law_nodes_m (p0 : Tr (List Nat)) : Mg Er (List Nat) := law_nodes_f 205 p0
def law_cell_b (p0 : List (Int)) (p1 : Int) : Mg Er (Fl Int Unit Unit) :=
  if (decide (p1 < (p0.length : Int))) = true then (at_ p0 p1).bind fun r1 => M.ok (.ret r1) else M.ok (.ret (0 : Int))
def law_cell_m (p0 : List (Int)) (p1 : Int) : Mg Er Int := fin none (law_cell_b p0 p1)
def law_key_b (p0 : Int) (p1 : List Nat) : Mg Er (Fl (List Nat) Unit Unit) :=
  (M.ok (([32, 33, 35, 38, 40, 41, 42, 43, 44, 45, 46, 47, 48, 49, 50, 51, 52, 53, 54, 55, 56, 57, 58, 59, 60, 61, 62, 63, 64, 65, 66, 67, 88, 89, 90, 91, 93, 94, 95, 97, 98, 99, 100, 101, 102, 103, 104, 105, 106, 107, 108, 109, 110, 111, 112, 113, 114, 115, 116, 117, 118, 119, 120, 121, 122, 123, 124, 125, 126] : List Nat))).bind fun v1 => (M.ok ((1 : Int) + (p0 % (4 : Int)))).bind fun v2 => seqF (s1 := Int) (if (decide (p0 % (97 : Int) = (5 : Int))) = true then (M.ok ((40 : Int))).bind fun v4 => M.ok (.nx v4) else M.ok (.nx v2)) fun s3 => (M.need (0 < s3) (M.ok ((p0 / (4 : Int)) % s3))).bind fun v5 => ((M.ok (v1)).bind fun x6 => (M.need (0 < (v1.length : Int)) (M.ok ((p0 / (7 : Int)) % (v1.length : Int)))).bind fun x7 => (at_ x6 x7).bind fun c => M.ok [c]).bind fun v8 => (((M.need (-1000000 ≤ v5 ∧ v5 ≤ 1000000 ∧ p1.length * v5.toNat ≤ 1000000) (M.ok (repT p1 v5))).bind fun x9 => (M.ok (v8)).bind fun x10 => M.need (x9.length + x10.length ≤ sizeLine) (M.ok (x9 ++ x10))).bind fun x11 => (M.need (-1000000 ≤ ((s3 - (1 : Int)) - v5) ∧ ((s3 - (1 : Int)) - v5) ≤ 1000000 ∧ p1.length * ((s3 - (1 : Int)) - v5).toNat ≤ 1000000) (M.ok (repT p1 ((s3 - (1 : Int)) - v5)))).bind fun x12 => M.need (x11.length + x12.length ≤ sizeLine) (M.ok (x11 ++ x12))).bind fun r13 => M.ok (.ret r13)
def law_key_m (p0 : Int) (p1 : List Nat) : Mg Er (List Nat) := fin none (law_key_b p0 p1)
def pack_b (p0 : List (List Nat)) : Mg Er (Fl (List Nat) Unit Unit) :=
  ((M.ok (([] : List Nat))).bind fun x5 => ((lcL (fun a1 => M.ok (true)) (fun a1 => joinM [M.need ((a1.length : Int).natAbs.log2 < 1920 ∧ tOk (strI (a1.length : Int))) (M.ok (strI (a1.length : Int))), M.ok (([58] : List Nat)), M.ok (a1)] []) p0 []).bind fun x3 => (M.ok ()).bind fun y4 => M.ok (x3, y4)).bind fun a6 => M.need ((a6.1.map List.length).sum + a6.1.length * x5.length ≤ 16777216 ∧ tOk (joinL x5 a6.1)) (M.ok (joinL x5 a6.1))).bind fun r7 => M.ok (.ret r7)
def pack_m (p0 : List (List Nat)) : Mg Er (List Nat) := fin none (pack_b p0)
def gather_image_b (self : (Tr (List Nat)) → (List (List Nat)) → Mg (Er × (List (List Nat))) (List (List Nat))) (p0 : Tr (List Nat)) (p1 : List (List Nat)) : Mg (Er × (List (List Nat))) (Fl (List (List Nat)) Unit ((List (List Nat)))) :=
  if (!p0.isNil) = true then (((((trL p0).bind fun x1 => (M.ok (())).bind fun x2 => M.ok (!x1.isNil)).bind fun x3 => (M.ok ()).bind fun y4 => M.ok (x3, y4)).bind fun a5 => M.ok ((if a5.1 = true then (1 : Int) else 0))).bind fun x13 => ((M.ok ((2 : Int))).bind fun x11 => ((((trRt p0).bind fun x6 => (M.ok (())).bind fun x7 => M.ok (!x6.isNil)).bind fun x8 => (M.ok ()).bind fun y9 => M.ok (x8, y9)).bind fun a10 => M.ok ((if a10.1 = true then (1 : Int) else 0))).bind fun x12 => M.need ((-(2 ^ 64) < x11 ∧ x11 < 2 ^ 64) ∨ (-(2 ^ 64) < x12 ∧ x12 < 2 ^ 64)) (M.ok (x11 * x12))).bind fun x14 => M.ok (x13 + x14)).bindP (fun e => (e, p1)) fun v15 => ((M.need (v15.natAbs.log2 < 1920 ∧ tOk (strI v15)) (M.ok (strI v15))).bind fun x24 => (((((trK p0).bind fun x18 => ((trA p0).bind fun x16 => (M.ok ()).bind fun y17 => M.ok (x16, y17)).bind fun y19 => M.ok (x18, y19)).bind fun a20 => M.ok [a20.1, a20.2.1]).bind fun x21 => (M.ok ()).bind fun y22 => M.ok (x21, y22)).bind fun a23 => pack_m a23.1).bind fun x25 => M.need (x24.length + x25.length ≤ sizeLine) (M.ok (x24 ++ x25))).bindP (fun e => (e, p1)) fun v26 => M.need (p1.length < sizeLine) ((((trL p0).bind fun x29 => ((M.ok (())).bind fun x27 => (M.ok ()).bind fun y28 => M.ok (x27, y28)).bind fun y30 => M.ok (x29, y30)).bindP (fun e => (e, (p1 ++ [v26]))) fun a31 => (self a31.1 (p1 ++ [v26])).bindP (fun (e34 : Er × (List (List Nat))) => (e34.1, e34.2)) fun r32 => M.ok r32).bind fun z33 => (((trRt p0).bind fun x37 => ((M.ok (())).bind fun x35 => (M.ok ()).bind fun y36 => M.ok (x35, y36)).bind fun y38 => M.ok (x37, y38)).bindP (fun e => (e, z33)) fun a39 => (self a39.1 z33).bindP (fun (e42 : Er × (List (List Nat))) => (e42.1, e42.2)) fun r40 => M.ok r40).bind fun z41 => M.ok (.nx z41)) else M.ok (.nx p1)
def gather_image_f : Nat → (Tr (List Nat)) → (List (List Nat)) → Mg (Er × (List (List Nat))) (List (List Nat))
  | 0 => fun _ _ => none
  | n + 1 => fun p0 p1 => fin (some fun (s : (List (List Nat))) => s) (gather_image_b (gather_image_f n) p0 p1)
def gather_image_m (p0 : Tr (List Nat)) (p1 : List (List Nat)) : Mg (Er × (List (List Nat))) (List (List Nat)) := gather_image_f 205 p0 p1
def tree_image_b (p0 : Tr (List Nat)) : Mg Er (Fl (List Nat) Unit Unit) :=
  (M.ok ([])).bind fun v1 => ((gather_image_m p0 v1).bindP (fun (e6 : Er × (List (List Nat))) => e6.1) fun r4 => M.ok r4).bind fun z5 => (((M.need ((z5.length : Int).natAbs.log2 < 1920 ∧ tOk (strI (z5.length : Int))) (M.ok (strI (z5.length : Int)))).bind fun x7 => (M.ok (([59] : List Nat))).bind fun x8 => M.need (x7.length + x8.length ≤ sizeLine) (M.ok (x7 ++ x8))).bind fun x9 => (M.need ((z5.map List.length).sum + z5.length * ([] : List Nat).length ≤ 16777216 ∧ tOk (joinL ([] : List Nat) z5)) (M.ok (joinL ([] : List Nat) z5))).bind fun x10 => M.need (x9.length + x10.length ≤ sizeLine) (M.ok (x9 ++ x10))).bind fun r11 => M.ok (.ret r11)
def tree_image_m (p0 : Tr (List Nat)) : Mg Er (List Nat) := fin none (tree_image_b p0)
def law_number_b (p0 : List Nat) : Mg Er (Fl (Option (Int)) Unit Unit) :=
  ((M.ok (decide ((p0.length : Int) < (1 : Int)))).bind fun b5 => if b5 = true then M.ok true else (M.ok (decide ((9 : Int) < (p0.length : Int)))).bind fun b4 => if b4 = true then M.ok true else (M.ok (decide ((1 : Int) < (p0.length : Int)))).bind fun b3 => if b3 = true then ((at_ p0 (0 : Int)).bind fun c => M.ok [c]).bind fun x1 => (M.ok (([48] : List Nat))).bind fun x2 => M.ok (decide (x1 = x2)) else M.ok false).bind fun b13 => if b13 = true then M.ok (.ret (none : Option (Int))) else seqF (s1 := Unit) (forL (fun s7 a8 => if (decide (Txt.find (S ([48, 49, 50, 51, 52, 53, 54, 55, 56, 57] : List Nat)) (S a8) < (0 : Int))) = true then M.ok (.ret (none : Option (Int))) else M.ok (.nx ())) (signs p0) ()) fun s10 => ((M.need (p0.length ≤ 640) (intS p0)).bind fun x11 => M.ok (some x11)).bind fun r12 => M.ok (.ret r12)
def law_number_m (p0 : List Nat) : Mg Er (Option (Int)) := fin none (law_number_b p0)
def law_part_b (p0 : List Nat) (p1 : Int) : Mg Er (Fl (Option (((List Nat) × Int))) Unit Unit) :=
  (M.ok (Txt.find3 (S p0) (S ([58] : List Nat)) p1)).bind fun v1 => if (decide (v1 < (0 : Int))) = true then M.ok (.ret (none : Option (((List Nat) × Int)))) else (law_number_m (cut p0 (some p1) (some v1))).bind fun v3 => optC v3 (((M.ok (true)).bind fun b5 => if b5 = true then M.ok true else none).bind fun b7 => if b7 = true then M.ok (.ret (none : Option (((List Nat) × Int)))) else none) fun w4 => if (false || (decide ((p0.length : Int) < (v1 + (1 : Int)) + w4))) = true then M.ok (.ret (none : Option (((List Nat) × Int)))) else M.ok (.ret (some (cut p0 (some (v1 + (1 : Int))) (some ((v1 + (1 : Int)) + w4)), (v1 + (1 : Int)) + w4)))
def law_part_m (p0 : List Nat) (p1 : Int) : Mg Er (Option (((List Nat) × Int))) := fin none (law_part_b p0 p1)
def law_due_b (p0 : Int) (p1 : List Nat) : Mg Er (Fl (((List Nat) ⊕ (Tr (List Nat)))) Unit Unit) :=
  (M.ok (Txt.find (S p1) (S ([59] : List Nat)))).bind fun v1 => ((M.ok (decide (v1 < (0 : Int)))).bind fun b7 => if b7 = true then M.ok true else ((law_number_m (cut p1 (none) (some v1))).bind fun x2 => (M.ok (())).bind fun x3 => M.ok (x2.isNone)).bind fun b6 => if b6 = true then M.ok true else (M.need ((cut p1 (none) (some v1)).length ≤ 640) (intS (cut p1 (none) (some v1)))).bind fun x4 => (M.ok ((200 : Int))).bind fun x5 => M.ok (decide (x5 < x4))).bind fun b53 => if b53 = true then M.ok (.ret (Sum.inl ([110, 111, 110, 101] : List Nat))) else (M.ok ([])).bind fun v9 => (M.ok (v1 + (1 : Int))).bind fun v10 => seqF (s1 := Int × (List ((List Nat) × (List Nat)))) ((M.need ((cut p1 (none) (some v1)).length ≤ 640) (intS (cut p1 (none) (some v1)))).bind fun x52 => M.need (-(2 ^ 62) ≤ x52 ∧ x52 < 2 ^ 62) (forL (fun s12 a13 => (law_part_m p1 (s12.1 + (1 : Int))).bind fun v14 => optC v14 (if true = true then M.ok (.ret (Sum.inl ([110, 111, 110, 101] : List Nat))) else none) fun w15 => if false = true then none else (law_part_m p1 w15.2).bind fun v17 => optC v17 (((M.ok (true)).bind fun b20 => if b20 = true then M.ok true else (M.ok (!((decide ((1 : Int) ≤ (w15.1.length : Int))) && (decide ((w15.1.length : Int) ≤ (40 : Int)))))).bind fun b19 => if b19 = true then M.ok true else none).bind fun b22 => if b22 = true then M.ok (.ret (Sum.inl ([110, 111, 110, 101] : List Nat))) else none) fun w18 => if (false || ((!((decide ((1 : Int) ≤ (w15.1.length : Int))) && (decide ((w15.1.length : Int) ≤ (40 : Int))))) || (decide ((600 : Int) < (w18.1.length : Int))))) = true then M.ok (.ret (Sum.inl ([110, 111, 110, 101] : List Nat))) else (M.ok (w18.1)).bind fun v24 => (M.ok (w15.1)).bind fun k25 => M.need (s12.2.length < sizeLine) ((M.ok (w18.2)).bind fun v26 => M.ok (.nx (v26, (dput s12.2 k25 v24))))) (rngL x52) (v10, v9))) fun s27 => (((M.ok (p0)).bind fun x39 => ((lcL (fun a28 => M.ok (true)) (fun a28 => ((M.ok (a28)).bind fun x33 => (((M.ok (s27.2)).bind fun d29 => (M.ok (a28)).bind fun k30 => oget (dget d29 k30)).bind fun x31 => (M.ok ()).bind fun y32 => M.ok (x31, y32)).bind fun y34 => M.ok (x33, y34)).bind fun a35 => M.ok (a35.1, a35.2.1)) (sortT (s27.2.map (·.1))) []).bind fun x37 => (M.ok ()).bind fun y38 => M.ok (x37, y38)).bind fun y40 => M.ok (x39, y40)).bind fun a41 => law_tree_m a41.1 a41.2.1).bind fun v42 => ((((M.need ((s27.2.length : Int).natAbs.log2 < 1920 ∧ tOk (strI (s27.2.length : Int))) (M.ok (strI (s27.2.length : Int)))).bind fun x43 => (M.ok (([59] : List Nat))).bind fun x44 => M.need (x43.length + x44.length ≤ sizeLine) (M.ok (x43 ++ x44))).bind fun x45 => (law_nodes_m v42).bind fun x46 => M.need (x45.length + x46.length ≤ sizeLine) (M.ok (x45 ++ x46))).bind fun x47 => (M.ok (p1)).bind fun x48 => M.ok (!decide (x47 = x48))).bind fun b51 => if b51 = true then M.ok (.ret (Sum.inl ([110, 111, 110, 101] : List Nat))) else M.ok (.ret (Sum.inr v42))
def law_due_m (p0 : Int) (p1 : List Nat) : Mg Er (((List Nat) ⊕ (Tr (List Nat)))) := fin none (law_due_b p0 p1)
def law_told_b (p0 : Int) (p1 : List Nat) : Mg Er (Fl Bool Unit Unit) :=
  (law_due_m p0 p1).bind fun v1 => (law_read_m p0 p1).bind fun v2 => if (eqSum v1 ([110, 111, 110, 101] : List Nat)) = true then M.ok (.ret (decide (v2.2 = ([114, 101, 102, 117, 115, 101, 100] : List Nat)))) else ((M.ok (v2)).bind fun x9 => ((((M.ok (v1)).bind unR).bind fun x6 => ((M.ok (([114, 101, 97, 100] : List Nat))).bind fun x4 => (M.ok ()).bind fun y5 => M.ok (x4, y5)).bind fun y7 => M.ok (x6, y7)).bind fun a8 => M.ok (a8.1, a8.2.1)).bind fun x10 => M.need (x9.1.dep + 0 ≤ 255) (M.ok (decide (x9 = x10)))).bind fun r11 => M.ok (.ret r11)
def law_told_m (p0 : Int) (p1 : List Nat) : Mg Er Bool := fin none (law_told_b p0 p1)
def law_spoilt_b (p0 : List Nat) (p1 : List (Int)) : Mg Er (Fl (List Nat) Unit Unit) :=
  ((((at_ p1 (1 : Int)).bind fun x1 => (M.ok ()).bind fun y2 => M.ok (x1, y2)).bind fun a3 => M.ok (a3.1)).bind fun x4 => (M.ok ((p0.length : Int) + (1 : Int))).bind fun x5 => M.need (0 < x5) (M.ok (x4 % x5))).bind fun v6 => ((M.ok (([48, 49, 50, 51, 58, 59, 97, 122, 57, 32] : List Nat))).bind fun x11 => ((((at_ p1 (2 : Int)).bind fun x7 => (M.ok ()).bind fun y8 => M.ok (x7, y8)).bind fun a9 => M.ok (a9.1)).bind fun x10 => M.ok (x10 % (10 : Int))).bind fun x12 => (at_ x11 x12).bind fun c => M.ok [c]).bind fun v13 => ((((at_ p1 (0 : Int)).bind fun x14 => (M.ok ()).bind fun y15 => M.ok (x14, y15)).bind fun a16 => M.ok (a16.1)).bind fun x17 => M.ok (x17 % (7 : Int))).bind fun v18 => if (decide (v18 = (0 : Int))) = true then ((M.need ((cut p0 (none) (some v6)).length + v13.length ≤ sizeLine) (M.ok ((cut p0 (none) (some v6)) ++ v13))).bind fun x19 => (M.ok (cut p0 (some (v6 + (1 : Int))) (none))).bind fun x20 => M.need (x19.length + x20.length ≤ sizeLine) (M.ok (x19 ++ x20))).bind fun r21 => M.ok (.ret r21) else if (decide (v18 = (1 : Int))) = true then (M.need ((cut p0 (none) (some v6)).length + (cut p0 (some (v6 + (1 : Int))) (none)).length ≤ sizeLine) (M.ok ((cut p0 (none) (some v6)) ++ (cut p0 (some (v6 + (1 : Int))) (none))))).bind fun r22 => M.ok (.ret r22) else if (decide (v18 = (2 : Int))) = true then ((M.need ((cut p0 (none) (some v6)).length + v13.length ≤ sizeLine) (M.ok ((cut p0 (none) (some v6)) ++ v13))).bind fun x23 => (M.ok (cut p0 (some v6) (none))).bind fun x24 => M.need (x23.length + x24.length ≤ sizeLine) (M.ok (x23 ++ x24))).bind fun r25 => M.ok (.ret r25) else if (decide (v18 = (3 : Int))) = true then M.ok (.ret (cut p0 (some v6) (none))) else if (decide (v18 = (4 : Int))) = true then (M.need (p0.length + (cut p0 (some v6) (none)).length ≤ sizeLine) (M.ok (p0 ++ (cut p0 (some v6) (none))))).bind fun r27 => M.ok (.ret r27) else (M.ok (Txt.find (S p0) (S ([59] : List Nat)))).bind fun v28 => (M.need ((cut p0 (none) (some v28)).length ≤ 640) (intS (cut p0 (none) (some v28)))).bind fun v29 => if (decide (v18 = (5 : Int))) = true then ((M.need ((v29 + (1 : Int)).natAbs.log2 < 1920 ∧ tOk (strI (v29 + (1 : Int)))) (M.ok (strI (v29 + (1 : Int))))).bind fun x30 => (M.ok (cut p0 (some v28) (none))).bind fun x31 => M.need (x30.length + x31.length ≤ sizeLine) (M.ok (x30 ++ x31))).bind fun r32 => M.ok (.ret r32) else ((M.need ((if (v29 - (1 : Int)) > (0 : Int) then (v29 - (1 : Int)) else (0 : Int)).natAbs.log2 < 1920 ∧ tOk (strI (if (v29 - (1 : Int)) > (0 : Int) then (v29 - (1 : Int)) else (0 : Int)))) (M.ok (strI (if (v29 - (1 : Int)) > (0 : Int) then (v29 - (1 : Int)) else (0 : Int))))).bind fun x33 => (M.ok (cut p0 (some v28) (none))).bind fun x34 => M.need (x33.length + x34.length ≤ sizeLine) (M.ok (x33 ++ x34))).bind fun r35 => M.ok (.ret r35)
def law_spoilt_m (p0 : List Nat) (p1 : List (Int)) : Mg Er (List Nat) := fin none (law_spoilt_b p0 p1)
def Order_image_b (p0 : (Int × (Tr (List Nat)) × Int)) : Mg Er (Fl (List Nat) Unit Unit) :=
  (tree_image_m p0.2.1).bind fun r1 => M.ok (.ret r1)
def Order_image_m (p0 : (Int × (Tr (List Nat)) × Int)) : Mg Er (List Nat) := fin none (Order_image_b p0)
def law_great_b (p0 : Int) (p1 : Int) : Mg Er (Fl (List Nat) Unit Unit) :=
  (M.need (-(2 ^ 62) ≤ p1 ∧ p1 < 2 ^ 62) (lcL (fun a1 => M.ok (true)) (fun a1 => (((M.ok (([107] : List Nat))).bind fun x2 => (M.need (((1000 : Int) + a1).natAbs.log2 < 1920 ∧ tOk (strI ((1000 : Int) + a1))) (M.ok (strI ((1000 : Int) + a1)))).bind fun x3 => M.need (x2.length + x3.length ≤ sizeLine) (M.ok (x2 ++ x3))).bind fun x6 => ((M.need (a1.natAbs.log2 < 1920 ∧ tOk (strI a1)) (M.ok (strI a1))).bind fun x4 => (M.ok ()).bind fun y5 => M.ok (x4, y5)).bind fun y7 => M.ok (x6, y7)).bind fun a8 => M.ok (a8.1, a8.2.1)) (rngL p1) [])).bind fun v10 => (((M.need (p1.natAbs.log2 < 1920 ∧ tOk (strI p1)) (M.ok (strI p1))).bind fun x11 => (M.ok (([59] : List Nat))).bind fun x12 => M.need (x11.length + x12.length ≤ sizeLine) (M.ok (x11 ++ x12))).bind fun x16 => (((law_tree_m p0 v10).bind fun x13 => (M.ok ()).bind fun y14 => M.ok (x13, y14)).bind fun a15 => law_nodes_m a15.1).bind fun x17 => M.need (x16.length + x17.length ≤ sizeLine) (M.ok (x16 ++ x17))).bind fun r18 => M.ok (.ret r18)
def law_great_m (p0 : Int) (p1 : Int) : Mg Er (List Nat) := fin none (law_great_b p0 p1)
def Order_init_b (p1 : Int) : Mg Er (Fl ((Int × (Tr (List Nat)) × Int)) Unit ((Int × (Tr (List Nat)) × Int))) :=
  (M.ok (p1)).bind fun v1 => (M.ok (Tr.nil)).bind fun v2 => (M.ok ((0 : Int))).bind fun v3 => M.ok (.nx (v1, v2, v3))
def Order_init_m (p1 : Int) : Mg Er ((Int × (Tr (List Nat)) × Int)) := fin (some fun (s : (Int × (Tr (List Nat)) × Int)) => s) (Order_init_b p1)
def Order_adopt_b (p0 : (Int × (Tr (List Nat)) × Int)) (p1 : Tr (List Nat)) : Mg (Er × (Int × (Tr (List Nat)) × Int)) (Fl ((Int × (Tr (List Nat)) × Int)) Unit ((Int × (Tr (List Nat)) × Int))) :=
  (M.ok (p1)).bindP (fun e => (e, p0)) fun v1 => (((tree_entries_m p1).bind fun x2 => (M.ok ()).bind fun y3 => M.ok (x2, y3)).bind fun a4 => M.ok ((a4.1.length : Int))).bindP (fun e => (e, (p0.1, v1, p0.2.2))) fun v5 => M.ok (.nx (p0.1, v1, v5))
def Order_adopt_m (p0 : (Int × (Tr (List Nat)) × Int)) (p1 : Tr (List Nat)) : Mg (Er × (Int × (Tr (List Nat)) × Int)) ((Int × (Tr (List Nat)) × Int)) := fin (some fun (s : (Int × (Tr (List Nat)) × Int)) => s) (Order_adopt_b p0 p1)
def load_order_b (p0 : Int) (p1 : List Nat) : Mg Er (Fl ((Int × (Tr (List Nat)) × Int)) Unit Unit) :=
  (Order_init_m p0).bind fun v1 => (((tree_from_image_m p0 p1).bind fun x3 => (M.ok ()).bind fun y4 => M.ok (x3, y4)).bind fun a5 => (Order_adopt_m v1 a5.1).bindP (fun (e8 : Er × (Int × (Tr (List Nat)) × Int)) => e8.1) fun r6 => M.ok r6).bind fun z7 => M.ok (.ret z7)
def load_order_m (p0 : Int) (p1 : List Nat) : Mg Er ((Int × (Tr (List Nat)) × Int)) := fin none (load_order_b p0 p1)
def law_size_b (self : (Tr (List Nat)) → Mg Er Int) (p0 : Tr (List Nat)) : Mg Er (Fl Int Unit Unit) :=
  if p0.isNil = true then M.ok (.ret (0 : Int)) else (((M.ok ((1 : Int))).bind fun x5 => (((trL p0).bind fun x2 => (M.ok ()).bind fun y3 => M.ok (x2, y3)).bind fun a4 => self a4.1).bind fun x6 => M.ok (x5 + x6)).bind fun x10 => (((trRt p0).bind fun x7 => (M.ok ()).bind fun y8 => M.ok (x7, y8)).bind fun a9 => self a9.1).bind fun x11 => M.ok (x10 + x11)).bind fun r12 => M.ok (.ret r12)
def law_size_f : Nat → (Tr (List Nat)) → Mg Er Int
  | 0 => fun _ => none
  | n + 1 => fun p0 => fin none (law_size_b (law_size_f n) p0)
def law_size_m (p0 : Tr (List Nat)) : Mg Er Int := law_size_f 205 p0
def law_b (p0 : List (Int)) : Mg Er (Fl Bool Unit Unit) :=
  ((((law_cell_m p0 (0 : Int)).bind fun x1 => (M.ok ()).bind fun y2 => M.ok (x1, y2)).bind fun a3 => M.ok (a3.1)).bind fun x4 => M.ok (x4 % (1000000 : Int))).bind fun v5 => ((M.ok (([97, 98] : List Nat))).bind fun x8 => (((law_cell_m p0 (0 : Int)).bind fun x6 => M.ok (x6 / (1000000 : Int))).bind fun x7 => M.ok (x7 % (2 : Int))).bind fun x9 => (at_ x8 x9).bind fun c => M.ok [c]).bind fun v10 => (M.ok ([])).bind fun v11 => (M.ok ([])).bind fun v12 => seqF (s1 := (List ((List Nat) × (List Nat))) × (List (List (Int)))) ((M.ok ((1 : Int))).bind fun x176 => (M.ok ((if (if (13 : Int) < (p0.length : Int) then (13 : Int) else (p0.length : Int)) > (2 : Int) then (if (13 : Int) < (p0.length : Int) then (13 : Int) else (p0.length : Int)) else (2 : Int)))).bind fun x177 => M.need (-(2 ^ 62) ≤ x176 ∧ x176 < 2 ^ 62 ∧ -(2 ^ 62) ≤ x177 ∧ x177 < 2 ^ 62) (forL (fun s15 a16 => (((law_cell_m p0 a16).bind fun x21 => ((M.ok (a16)).bind fun x19 => ((M.ok ((8 : Int))).bind fun x17 => (M.ok ()).bind fun y18 => M.ok (x17, y18)).bind fun y20 => M.ok (x19, y20)).bind fun y22 => M.ok (x21, y22)).bind fun a23 => law_numbers_m a23.1 a23.2.1 a23.2.2.1).bind fun v24 => (((at_ v24 (1 : Int)).bind fun x25 => (M.ok ()).bind fun y26 => M.ok (x25, y26)).bind fun a27 => law_value_m a27.1).bind fun v33 => (((at_ v24 (0 : Int)).bind fun x30 => ((M.ok (v10)).bind fun x28 => (M.ok ()).bind fun y29 => M.ok (x28, y29)).bind fun y31 => M.ok (x30, y31)).bind fun a32 => law_key_m a32.1 a32.2.1).bind fun k34 => M.need (s15.1.length < sizeLine) ((((at_ v24 (3 : Int)).bind fun x35 => (M.ok ()).bind fun y36 => M.ok (x35, y36)).bind fun a37 => law_value_m a37.1).bind fun v43 => (((at_ v24 (2 : Int)).bind fun x40 => ((M.ok (([109] : List Nat))).bind fun x38 => (M.ok ()).bind fun y39 => M.ok (x38, y39)).bind fun y41 => M.ok (x40, y41)).bind fun a42 => law_key_m a42.1 a42.2.1).bind fun k44 => M.need ((dput s15.1 k34 v33).length < sizeLine) ((M.ok (cut v24 (some (4 : Int)) (some (7 : Int)))).bind fun v45 => M.need (s15.2.length < sizeLine) (M.ok (.nx ((dput (dput s15.1 k34 v33) k44 v43), (s15.2 ++ [v45]))))))) (rng2L x176 x177) (v11, v12))) fun s46 => (M.ok (Tr.nil)).bind fun v47 => seqF (s1 := (Tr (List Nat))) (forL (fun s49 a50 => (((M.ok (v5)).bind fun x59 => ((M.ok (s49)).bind fun x57 => ((M.ok (a50)).bind fun x55 => (((M.ok (s46.1)).bind fun d51 => (M.ok (a50)).bind fun k52 => oget (dget d51 k52)).bind fun x53 => (M.ok ()).bind fun y54 => M.ok (x53, y54)).bind fun y56 => M.ok (x55, y56)).bind fun y58 => M.ok (x57, y58)).bind fun y60 => M.ok (x59, y60)).bind fun a61 => put_entry_m a61.1 a61.2.1 a61.2.2.1 a61.2.2.2.1).bind fun v62 => M.ok (.nx v62)) (s46.1.map (·.1)) v47) fun s63 => (lcL (fun a64 => M.ok (true)) (fun a64 => ((M.ok (a64)).bind fun x69 => (((M.ok (s46.1)).bind fun d65 => (M.ok (a64)).bind fun k66 => oget (dget d65 k66)).bind fun x67 => (M.ok ()).bind fun y68 => M.ok (x67, y68)).bind fun y70 => M.ok (x69, y70)).bind fun a71 => M.ok (a71.1, a71.2.1)) (sortT (s46.1.map (·.1))) []).bind fun v73 => (law_tree_m v5 v73).bind fun v74 => (((M.need ((v73.length : Int).natAbs.log2 < 1920 ∧ tOk (strI (v73.length : Int))) (M.ok (strI (v73.length : Int)))).bind fun x75 => (M.ok (([59] : List Nat))).bind fun x76 => M.need (x75.length + x76.length ≤ sizeLine) (M.ok (x75 ++ x76))).bind fun x77 => (law_nodes_m v74).bind fun x78 => M.need (x77.length + x78.length ≤ sizeLine) (M.ok (x77 ++ x78))).bind fun v79 => (((tree_image_m s63).bind fun x80 => (M.ok (v79)).bind fun x81 => M.ok (!decide (x80 = x81))).bind fun b82 => if b82 = true then M.ok true else M.need (s63.dep + 0 ≤ 256) (M.ok (!decide (s63 = v74)))).bind fun b175 => if b175 = true then M.ok (.ret false) else seqF (s1 := Unit) (forL (fun s84 a85 => ((((M.ok (v5)).bind fun x88 => ((law_spoilt_m v79 a85).bind fun x86 => (M.ok ()).bind fun y87 => M.ok (x86, y87)).bind fun y89 => M.ok (x88, y89)).bind fun a90 => law_told_m a90.1 a90.2.1).bind fun b91 => M.ok (!b91)).bind fun b115 => if b115 = true then M.ok (.ret false) else ((((((((M.ok (v5 + (1 : Int))).bind fun x93 => (at_ a85 (0 : Int)).bind fun x94 => M.ok (x93 + x94)).bind fun x95 => (M.ok ()).bind fun y96 => M.ok (x95, y96)).bind fun a97 => M.ok (a97.1)).bind fun x98 => M.ok (x98 % (1000000 : Int))).bind fun x101 => ((M.ok (v79)).bind fun x99 => (M.ok ()).bind fun y100 => M.ok (x99, y100)).bind fun y102 => M.ok (x101, y102)).bind fun a103 => law_told_m a103.1 a103.2.1).bind fun b104 => M.ok (!b104)).bind fun b114 => if b114 = true then M.ok (.ret false) else (((tree_from_image_m v5 v79).bind fun x106 => (M.ok (v74)).bind fun x107 => M.need (x106.dep + 0 ≤ 256) (M.ok (!decide (x106 = x107)))).bind fun b111 => if b111 = true then M.ok true else ((load_order_m v5 v79).bind fun x108 => Order_image_m x108).bind fun x109 => (M.ok (v79)).bind fun x110 => M.ok (!decide (x109 = x110))).bind fun b113 => if b113 = true then M.ok (.ret false) else M.ok (.nx ())) s46.2 ()) fun s116 => seqF (s1 := Unit) ((((M.ok (v74)).bind fun x124 => ((law_tree_m ((v5 + (7 : Int)) % (1000000 : Int)) (cut v73 (none) (some (3 : Int)))).bind fun x122 => (M.ok ()).bind fun y123 => M.ok (x122, y123)).bind fun y125 => M.ok (x124, y125)).bind fun a126 => law_odd_m a126.1 a126.2.1).bind fun x174 => forL (fun s127 a128 => ((((M.ok (v5)).bind fun x138 => ((((((law_size_m a128).bind fun x129 => (M.ok ()).bind fun y130 => M.ok (x129, y130)).bind fun a131 => M.need (a131.1.natAbs.log2 < 1920 ∧ tOk (strI a131.1)) (M.ok (strI a131.1))).bind fun x132 => (M.ok (([59] : List Nat))).bind fun x133 => M.need (x132.length + x133.length ≤ sizeLine) (M.ok (x132 ++ x133))).bind fun x134 => (law_nodes_m a128).bind fun x135 => M.need (x134.length + x135.length ≤ sizeLine) (M.ok (x134 ++ x135))).bind fun x136 => (M.ok ()).bind fun y137 => M.ok (x136, y137)).bind fun y139 => M.ok (x138, y139)).bind fun a140 => law_told_m a140.1 a140.2.1).bind fun b141 => M.ok (!b141)).bind fun b143 => if b143 = true then M.ok (.ret false) else M.ok (.nx ())) x174 ()) fun s144 => seqF (s1 := Unit) (((((law_cell_m p0 (0 : Int)).bind fun x145 => M.ok (x145 / (2000000 : Int))).bind fun x146 => M.ok (x146 % (16 : Int))).bind fun x147 => (M.ok ((3 : Int))).bind fun x148 => M.ok (decide (x147 = x148))).bind fun b167 => if b167 = true then (((((M.ok (v5)).bind fun x152 => ((law_great_m v5 (200 : Int)).bind fun x150 => (M.ok ()).bind fun y151 => M.ok (x150, y151)).bind fun y153 => M.ok (x152, y153)).bind fun a154 => law_told_m a154.1 a154.2.1).bind fun b155 => M.ok (!b155)).bind fun b164 => if b164 = true then M.ok true else ((((M.ok (v5)).bind fun x158 => ((law_great_m v5 (201 : Int)).bind fun x156 => (M.ok ()).bind fun y157 => M.ok (x156, y157)).bind fun y159 => M.ok (x158, y159)).bind fun a160 => law_read_m a160.1 a160.2.1).bind fun x161 => M.ok (x161.2)).bind fun x162 => (M.ok (([114, 101, 102, 117, 115, 101, 100] : List Nat))).bind fun x163 => M.ok (!decide (x162 = x163))).bind fun b166 => if b166 = true then M.ok (.ret false) else M.ok (.nx ()) else M.ok (.nx ())) fun s149 => (law_read_m v5 ([48, 59] : List Nat)).bind fun v168 => ((M.need (v168.1.dep + 0 ≤ 255) (M.ok (decide (v168 = (Tr.nil, ([114, 101, 97, 100] : List Nat)))))).bind fun b172 => if b172 = true then ((law_read_m v5 ([] : List Nat)).bind fun x169 => M.ok (x169.2)).bind fun x170 => (M.ok (([114, 101, 102, 117, 115, 101, 100] : List Nat))).bind fun x171 => M.ok (decide (x170 = x171)) else M.ok false).bind fun r173 => M.ok (.ret r173)
def law_m (p0 : List (Int)) : Mg Er Bool := fin none (law_b p0)
end Pf
namespace Pf
open PySem L2 LK
theorem wm_nx {ε ρ b s1 s : Type} {m : Mg ε (Fl ρ b s1)} {k : s1 → Mg ε (Fl ρ b s)} {φ : Fl ρ b s → Prop} {ψ : ε → Prop} (P : s1 → Prop) (h : wm m (fun o => ∃ v, o = Fl.nx v ∧ P v) (fun _ => False)) (q : ∀ v, P v → wm (k v) φ ψ) : wm (seqF m k) φ ψ := by
  rw [wm_seq]
  refine wm_by h fun o ⟨v, e, hv⟩ => ?_
  subst e
  exact q v hv
theorem wm_at2 {α : Type} {xs : List α} {k : Nat} (d : α) {φ : α → Prop} {ψ : Er → Prop} (h : k < xs.length) : wm (at_ xs (k : Int)) φ ψ ↔ φ (xs.getD k d) := by
  have : xs[k]? = some (xs.getD k d) := by rw [List.getD_eq_getElem?_getD, List.getElem?_eq_getElem h]; rfl
  rw [at_nat this, wm_ok]
theorem wm_at3 {α : Type} {xs : List α} {i : Int} (d : α) {φ : α → Prop} {ψ : Er → Prop} (h0 : 0 ≤ i) (h : i < (xs.length : Int)) : wm (at_ xs i) φ ψ ↔ φ (xs.getD i.toNat d) := by
  obtain ⟨k, rfl⟩ : ∃ k : Nat, i = (k : Int) := ⟨i.toNat, by omega⟩
  exact wm_at2 d (by omega)
theorem wm_forP {ε α ρ b s : Type} {f : s → α → Mg ε (Fl ρ s s)} {φ : Fl ρ b s → Prop} {ψ : ε → Prop} (P : Nat → s → Prop) {as : List α} {x : s} (h0 : P 0 x) (hs : ∀ j x a, as[j]? = some a → j < as.length → P j x → wm (f x a) (fun o => ∃ y, o = Fl.nx y ∧ P (j + 1) y) (fun _ => False)) (hq : ∀ y, P as.length y → φ (.nx y)) : wm (forL f as x) φ ψ := by
  refine wm_for P (P as.length) (fun _ => False) as 0 x h0 (fun j x a ha _ hj hp => ?_) (fun y hy => by rw [Nat.zero_add] at hy; exact hy) hq (fun v z => z.elim)
  rw [Nat.sub_zero] at ha
  refine wm_by (hs j x a ha (by omega) hp) fun o ⟨y, e, hy⟩ => ?_
  subst e
  exact hy
theorem getD_mem {α : Type} {xs : List α} {i : Int} (d : α) (h0 : 0 ≤ i) (h : i < (xs.length : Int)) : xs.getD i.toNat d ∈ xs := by
  rw [List.getD_eq_getElem?_getD, List.getElem?_eq_getElem (by omega)]
  exact List.getElem_mem _
section
variable {κ α : Type} [DecidableEq κ]
theorem mem_dput {d : List (κ × α)} {k : κ} {v : α} {p : κ × α} : p ∈ dput d k v ↔ p = (k, v) ∨ (p ∈ d ∧ p.1 ≠ k) := by
  unfold dput
  by_cases c : (d.any fun p => decide (p.1 = k)) = true
  · rw [if_pos c, List.mem_map]
    constructor
    · rintro ⟨q, hq, e⟩
      by_cases z : q.1 = k
      · rw [if_pos z, z] at e
        exact .inl e.symm
      · rw [if_neg z] at e
        subst e
        exact .inr ⟨hq, z⟩
    · rintro (rfl | ⟨h, n⟩)
      · obtain ⟨q, hq, e⟩ := List.any_eq_true.mp c
        exact ⟨q, hq, by rw [if_pos (of_decide_eq_true e), of_decide_eq_true e]⟩
      · exact ⟨p, h, if_neg n⟩
  · rw [if_neg c, List.mem_append, List.mem_singleton]
    constructor
    · rintro (h | h)
      · exact .inr ⟨h, fun z => c (List.any_eq_true.mpr ⟨p, h, decide_eq_true z⟩)⟩
      · exact .inl h
    · rintro (h | ⟨h, _⟩)
      · exact .inr h
      · exact .inl h
theorem dput_keysG (d : List (κ × α)) (k : κ) (a : α) : (dput d k a).map (·.1) = if k ∈ d.map (·.1) then d.map (·.1) else d.map (·.1) ++ [k] := by
  unfold dput
  by_cases c : k ∈ d.map (·.1)
  · rw [if_pos c, if_pos (by
      obtain ⟨p, hp, e⟩ := List.mem_map.mp c
      exact List.any_eq_true.mpr ⟨p, hp, decide_eq_true e⟩), List.map_map]
    refine List.map_congr_left fun p _ => ?_
    show (if p.1 = k then (p.1, a) else p).1 = p.1
    split <;> rfl
  · rw [if_neg c, if_neg (by
      intro z
      obtain ⟨p, hp, e⟩ := List.any_eq_true.mp z
      exact c (List.mem_map.mpr ⟨p, hp, of_decide_eq_true e⟩)), List.map_append]
    rfl
theorem dput_nd {d : List (κ × α)} {k : κ} {a : α} (h : (d.map (·.1)).Nodup) : ((dput d k a).map (·.1)).Nodup := by
  rw [dput_keysG]
  split
  · exact h
  · rename_i c
    rw [List.nodup_append]
    exact ⟨h, by simp, fun x hx y hy z => c (by rw [List.mem_singleton.mp hy] at z; exact z ▸ hx)⟩
theorem dput_le {d : List (κ × α)} {k : κ} {a : α} : (dput d k a).length ≤ d.length + 1 := by
  have := congrArg List.length (dput_keysG d k a)
  rw [List.length_map] at this
  rw [this]
  split
  · rw [List.length_map]; omega
  · rw [List.length_append, List.length_map]; exact Nat.le_refl _
theorem dput_new {d : List (κ × α)} {k : κ} {a : α} (h : k ∉ d.map (·.1)) : dput d k a = d ++ [(k, a)] := by
  unfold dput
  rw [if_neg]
  intro z
  obtain ⟨p, hp, e⟩ := List.any_eq_true.mp z
  exact h (List.mem_map.mpr ⟨p, hp, of_decide_eq_true e⟩)
theorem dget_some {d : List (κ × α)} {k : κ} {v : α} (h : dget d k = some v) : (k, v) ∈ d := by
  unfold dget at h
  obtain ⟨p, hp, e⟩ := Option.map_eq_some_iff.mp h
  have h1 := List.find?_some hp
  rw [decide_eq_true_eq] at h1
  have := List.mem_of_find?_eq_some hp
  rw [← e, ← h1]
  exact this
theorem nd_uniq {d : List (κ × α)} (nd : (d.map (·.1)).Nodup) {k : κ} {v w : α} (h1 : (k, v) ∈ d) (h2 : (k, w) ∈ d) : v = w := by
  induction d with
  | nil => cases h1
  | cons p r ih =>
    rw [List.map_cons, List.nodup_cons] at nd
    rcases List.mem_cons.mp h1 with e1 | m1
    · rcases List.mem_cons.mp h2 with e2 | m2
      · rw [← e1] at e2; cases e2; rfl
      · exact (nd.1 (List.mem_map.mpr ⟨(k, w), m2, by rw [← e1]⟩)).elim
    · rcases List.mem_cons.mp h2 with e2 | m2
      · exact (nd.1 (List.mem_map.mpr ⟨(k, v), m1, by rw [← e2]⟩)).elim
      · exact ih nd.2 m1 m2
theorem dget_no {d : List (κ × α)} {k : κ} : dget d k = none ↔ k ∉ d.map (·.1) := by
  unfold dget
  rw [Option.map_eq_none_iff, List.find?_eq_none]
  constructor
  · intro h z
    obtain ⟨p, hp, e⟩ := List.mem_map.mp z
    exact h p hp (decide_eq_true e)
  · intro h p hp z
    exact h (by rw [← of_decide_eq_true z]; exact List.mem_map.mpr ⟨p, hp, rfl⟩)
theorem dget_iff {d : List (κ × α)} (nd : (d.map (·.1)).Nodup) {k : κ} {v : α} : dget d k = some v ↔ (k, v) ∈ d := by
  refine ⟨dget_some, fun h => ?_⟩
  cases e : dget d k with
  | none => exact (dget_no.mp e (List.mem_map.mpr ⟨_, h, rfl⟩)).elim
  | some w => rw [nd_uniq nd h (dget_some e)]
theorem dget_mem {d : List (κ × α)} (nd : (d.map (·.1)).Nodup) {p : κ × α} (h : p ∈ d) : dget d p.1 = some p.2 := (dget_iff nd).mpr h
end
end Pf

namespace Tp
open LK
variable {α : Type}
theorem lt_irr (a : List Nat) : ¬ a < a := List.lt_irrefl a
theorem lt_tr {a b c : List Nat} (h : a < b) (g : b < c) : a < c := List.lt_trans h g
theorem lt_as {a b : List Nat} (h : a < b) (g : b < a) : False := lt_irr a (lt_tr h g)
theorem lt_tot {a b : List Nat} (h : a ≠ b) : a < b ∨ b < a := by
  by_cases h1 : a < b
  · exact .inl h1
  · by_cases h2 : b < a
    · exact .inr h2
    · exact absurd (List.le_antisymm (List.not_lt.mp h2) (List.not_lt.mp h1)) h
variable (h : List Nat → Int)
def bt (k o : List Nat) : Bool := if h k = h o then decide (k < o) else decide (h o < h k)
theorem bt_as {k o : List Nat} (a : bt h k o = true) (b : bt h o k = true) : False := by
  unfold bt at a b
  by_cases e : h k = h o
  · rw [if_pos e, decide_eq_true_eq] at a
    rw [if_pos e.symm, decide_eq_true_eq] at b
    exact lt_as a b
  · rw [if_neg e, decide_eq_true_eq] at a
    rw [if_neg (Ne.symm e), decide_eq_true_eq] at b
    omega
theorem bt_tot {k o : List Nat} (n : k ≠ o) (a : ¬ bt h k o = true) : bt h o k = true := by
  unfold bt at a ⊢
  by_cases e : h k = h o
  · rw [if_pos e, decide_eq_true_eq] at a
    rw [if_pos e.symm, decide_eq_true_eq]
    exact (lt_tot n).resolve_left a
  · rw [if_neg e, decide_eq_true_eq] at a
    rw [if_neg (Ne.symm e), decide_eq_true_eq]
    omega
theorem bt_tr {k o p : List Nat} (a : bt h k o = true) (b : bt h o p = true) : bt h k p = true := by
  unfold bt at a b ⊢
  by_cases e : h k = h o
  · rw [if_pos e, decide_eq_true_eq] at a
    by_cases f : h o = h p
    · rw [if_pos f, decide_eq_true_eq] at b
      rw [if_pos (e.trans f), decide_eq_true_eq]
      exact lt_tr a b
    · rw [if_neg f, decide_eq_true_eq] at b
      rw [if_neg (by omega), decide_eq_true_eq]
      omega
  · rw [if_neg e, decide_eq_true_eq] at a
    by_cases f : h o = h p
    · rw [if_pos f, decide_eq_true_eq] at b
      rw [if_neg (by omega), decide_eq_true_eq]
      omega
    · rw [if_neg f, decide_eq_true_eq] at b
      rw [if_neg (by omega), decide_eq_true_eq]
      omega
abbrev Row (α : Type) := List Nat × α
def toL : Tr α → List (Row α)
  | .nil => []
  | .node k a l r => toL l ++ (k, a) :: toL r
def TO : Tr α → Prop
  | .nil => True
  | .node k _ l r => (∀ p ∈ toL l, bt h k p.1 = true) ∧ (∀ p ∈ toL r, bt h k p.1 = true) ∧ TO l ∧ TO r
def Srt (l : List (Row α)) : Prop := l.Pairwise fun p q => p.1 < q.1
theorem dep_le : ∀ t : Tr α, t.dep ≤ (toL t).length
  | .nil => Nat.le_refl _
  | .node k a l r => by
    have := dep_le l
    have := dep_le r
    show max l.dep r.dep + 1 ≤ (toL l ++ (k, a) :: toL r).length
    rw [List.length_append, List.length_cons]
    omega
theorem srt_node {k : List Nat} {a : α} {L R : List (Row α)} : Srt (L ++ (k, a) :: R) ↔ Srt L ∧ Srt R ∧ (∀ p ∈ L, p.1 < k) ∧ (∀ p ∈ R, k < p.1) := by
  unfold Srt
  rw [List.pairwise_append, List.pairwise_cons]
  constructor
  · rintro ⟨h1, ⟨h2, h3⟩, h4⟩
    exact ⟨h1, h3, fun p hp => h4 p hp _ List.mem_cons_self, h2⟩
  · rintro ⟨h1, h2, h3, h4⟩
    refine ⟨h1, ⟨h4, h2⟩, fun p hp q hq => ?_⟩
    rcases List.mem_cons.mp hq with rfl | hq
    · exact h3 p hp
    · exact lt_tr (h3 p hp) (h4 q hq)
def lo (k : List Nat) (l : List (Row α)) : List (Row α) := l.filter fun p => decide (p.1 < k)
def up (k : List Nat) (l : List (Row α)) : List (Row α) := l.filter fun p => !decide (p.1 < k)
def hi (k : List Nat) (l : List (Row α)) : List (Row α) := l.filter fun p => decide (k < p.1)
theorem lo_all {k : List Nat} {l : List (Row α)} (a : ∀ p ∈ l, p.1 < k) : lo k l = l := List.filter_eq_self.mpr fun p hp => decide_eq_true (a p hp)
theorem lo_none {k : List Nat} {l : List (Row α)} (a : ∀ p ∈ l, ¬ p.1 < k) : lo k l = [] := List.filter_eq_nil_iff.mpr fun p hp => by rw [decide_eq_true_eq]; exact a p hp
theorem up_all {k : List Nat} {l : List (Row α)} (a : ∀ p ∈ l, ¬ p.1 < k) : up k l = l := List.filter_eq_self.mpr fun p hp => by rw [decide_eq_false (a p hp)]; rfl
theorem up_none {k : List Nat} {l : List (Row α)} (a : ∀ p ∈ l, p.1 < k) : up k l = [] := List.filter_eq_nil_iff.mpr fun p hp => by rw [decide_eq_true (a p hp)]; exact Bool.false_ne_true
theorem hi_all {k : List Nat} {l : List (Row α)} (a : ∀ p ∈ l, k < p.1) : hi k l = l := List.filter_eq_self.mpr fun p hp => decide_eq_true (a p hp)
theorem hi_none {k : List Nat} {l : List (Row α)} (a : ∀ p ∈ l, ¬ k < p.1) : hi k l = [] := List.filter_eq_nil_iff.mpr fun p hp => by rw [decide_eq_true_eq]; exact a p hp
theorem lo_mid {k : List Nat} {a : α} {L R : List (Row α)} (s : Srt (L ++ (k, a) :: R)) : lo k (L ++ (k, a) :: R) = L ∧ hi k (L ++ (k, a) :: R) = R := by
  obtain ⟨_, _, h3, h4⟩ := srt_node.mp s
  constructor
  · have e1 : lo k (L ++ (k, a) :: R) = lo k L ++ lo k ((k, a) :: R) := List.filter_append ..
    rw [e1, lo_all h3, lo_none fun p hp => ?_, List.append_nil]
    rcases List.mem_cons.mp hp with rfl | hp
    · exact lt_irr _
    · exact fun z => lt_as z (h4 p hp)
  · have e1 : hi k (L ++ (k, a) :: R) = hi k L ++ hi k ((k, a) :: R) := List.filter_append ..
    have e2 : hi k ((k, a) :: R) = hi k R := by unfold hi; rw [List.filter_cons, if_neg (by rw [decide_eq_true_eq]; exact lt_irr _)]
    rw [e1, e2, hi_all h4, hi_none fun p hp => fun z => lt_as z (h3 p hp), List.nil_append]
theorem uniq : ∀ {t u : Tr α}, TO h t → TO h u → toL t = toL u → Srt (toL t) → t = u
  | .nil, .nil, _, _, _, _ => rfl
  | .nil, .node k a l r, _, _, e, _ => by simp [toL] at e
  | .node k a l r, .nil, _, _, e, _ => by simp [toL] at e
  | .node k a l r, .node k' a' l' r', ⟨h1, h2, h3, h4⟩, ⟨g1, g2, g3, g4⟩, e, s => by
    have e : toL l ++ (k, a) :: toL r = toL l' ++ (k', a') :: toL r' := e
    have s : Srt (toL l ++ (k, a) :: toL r) := s
    have hk : k = k' := by
      refine Classical.byContradiction fun n => ?_
      have m1 : (k', a') ∈ toL l ++ (k, a) :: toL r := by rw [e]; simp
      have m2 : (k, a) ∈ toL l' ++ (k', a') :: toL r' := by rw [← e]; simp
      have b1 : bt h k k' = true := by
        rcases List.mem_append.mp m1 with m | m
        · exact h1 _ m
        · rcases List.mem_cons.mp m with m | m
          · exact absurd (congrArg Prod.fst m).symm n
          · exact h2 _ m
      have b2 : bt h k' k = true := by
        rcases List.mem_append.mp m2 with m | m
        · exact g1 _ m
        · rcases List.mem_cons.mp m with m | m
          · exact absurd (congrArg Prod.fst m) n
          · exact g2 _ m
      exact bt_as h b1 b2
    subst hk
    obtain ⟨f1, f2⟩ := lo_mid s
    have s' := s
    rw [e] at s'
    obtain ⟨f3, f4⟩ := lo_mid s'
    rw [e, f3] at f1
    rw [e, f4] at f2
    obtain ⟨q1, q2, _⟩ := srt_node.mp s
    rw [f1, f2] at e
    have e2 := List.append_cancel_left e
    injection e2 with e3 _
    injection e3 with _ e4
    subst e4
    rw [uniq h3 g3 f1.symm q1, uniq h4 g4 f2.symm q2]
def splitP : Tr α → List Nat → Tr α × Tr α
  | .nil, _ => (.nil, .nil)
  | .node k a l r, x => if k < x then (.node k a l (splitP r x).1, (splitP r x).2) else ((splitP l x).1, .node k a (splitP l x).2 r)
theorem split_toL : ∀ (t : Tr α) (x : List Nat), Srt (toL t) → toL (splitP t x).1 = lo x (toL t) ∧ toL (splitP t x).2 = up x (toL t)
  | .nil, x, _ => ⟨rfl, rfl⟩
  | .node k a l r, x, s => by
    obtain ⟨s1, s2, s3, s4⟩ := srt_node.mp s
    have el : lo x (toL l ++ (k, a) :: toL r) = lo x (toL l) ++ lo x ((k, a) :: toL r) := List.filter_append ..
    have eu : up x (toL l ++ (k, a) :: toL r) = up x (toL l) ++ up x ((k, a) :: toL r) := List.filter_append ..
    show toL (splitP (.node k a l r) x).1 = lo x (toL l ++ (k, a) :: toL r) ∧ toL (splitP (.node k a l r) x).2 = up x (toL l ++ (k, a) :: toL r)
    rw [el, eu]
    unfold splitP
    by_cases c : k < x
    · rw [if_pos c]
      obtain ⟨i1, i2⟩ := split_toL r x s2
      have a1 : lo x (toL l) = toL l := lo_all fun p hp => lt_tr (s3 p hp) c
      have a2 : up x (toL l) = [] := up_none fun p hp => lt_tr (s3 p hp) c
      have a3 : lo x ((k, a) :: toL r) = (k, a) :: lo x (toL r) := by unfold lo; rw [List.filter_cons, if_pos (decide_eq_true c)]
      have a4 : up x ((k, a) :: toL r) = up x (toL r) := by unfold up; rw [List.filter_cons, if_neg (by rw [decide_eq_true c]; exact Bool.false_ne_true)]
      rw [a1, a2, a3, a4]
      exact ⟨by show toL l ++ (k, a) :: toL (splitP r x).1 = _; rw [i1], by rw [i2, List.nil_append]⟩
    · rw [if_neg c]
      obtain ⟨i1, i2⟩ := split_toL l x s1
      have nr : ∀ p ∈ toL r, ¬ p.1 < x := fun p hp z => c (lt_tr (s4 p hp) z)
      have a1 : lo x ((k, a) :: toL r) = [] := lo_none fun p hp => by
        rcases List.mem_cons.mp hp with rfl | hp
        · exact c
        · exact nr p hp
      have a2 : up x ((k, a) :: toL r) = (k, a) :: toL r := up_all fun p hp => by
        rcases List.mem_cons.mp hp with rfl | hp
        · exact c
        · exact nr p hp
      rw [a1, a2, List.append_nil]
      exact ⟨i1, by show toL (splitP l x).2 ++ (k, a) :: toL r = _; rw [i2]⟩
theorem split_mem : ∀ (t : Tr α) (x : List Nat) (p : Row α), (p ∈ toL (splitP t x).1 → p ∈ toL t) ∧ (p ∈ toL (splitP t x).2 → p ∈ toL t)
  | .nil, x, p => ⟨fun z => z, fun z => z⟩
  | .node k a l r, x, p => by
    have e : toL (.node k a l r) = toL l ++ (k, a) :: toL r := rfl
    rw [e]
    unfold splitP
    by_cases c : k < x
    · rw [if_pos c]
      obtain ⟨i1, i2⟩ := split_mem r x p
      refine ⟨fun z => ?_, fun z => ?_⟩
      · rcases List.mem_append.mp (show p ∈ toL l ++ (k, a) :: toL (splitP r x).1 from z) with z | z
        · exact List.mem_append_left _ z
        · rcases List.mem_cons.mp z with z | z
          · rw [z]; simp
          · exact List.mem_append_right _ (List.mem_cons_of_mem _ (i1 z))
      · exact List.mem_append_right _ (List.mem_cons_of_mem _ (i2 z))
    · rw [if_neg c]
      obtain ⟨i1, i2⟩ := split_mem l x p
      refine ⟨fun z => List.mem_append_left _ (i1 z), fun z => ?_⟩
      rcases List.mem_append.mp (show p ∈ toL (splitP l x).2 ++ (k, a) :: toL r from z) with z | z
      · exact List.mem_append_left _ (i2 z)
      · exact List.mem_append_right _ z
theorem split_TO : ∀ (t : Tr α) (x : List Nat), TO h t → TO h (splitP t x).1 ∧ TO h (splitP t x).2
  | .nil, x, _ => ⟨trivial, trivial⟩
  | .node k a l r, x, ⟨h1, h2, h3, h4⟩ => by
    unfold splitP
    by_cases c : k < x
    · rw [if_pos c]
      obtain ⟨i1, i2⟩ := split_TO r x h4
      exact ⟨⟨h1, fun p hp => h2 p ((split_mem r x p).1 hp), h3, i1⟩, i2⟩
    · rw [if_neg c]
      obtain ⟨i1, i2⟩ := split_TO l x h3
      exact ⟨i1, fun p hp => h1 p ((split_mem l x p).2 hp), h2, i2, h4⟩
def putP (t : Tr α) (x : List Nat) (v : α) : Tr α := match t with
  | .nil => .node x v .nil .nil
  | .node k a l r => if x = k then .node x v l r else if bt h x k = true then .node x v (splitP (.node k a l r) x).1 (splitP (.node k a l r) x).2 else if x < k then .node k a (putP l x v) r else .node k a l (putP r x v)
end Tp

namespace Tp
open LK
variable {α : Type} (h : List Nat → Int)
def ins (x : List Nat) (v : α) (l : List (Row α)) : List (Row α) := lo x l ++ (x, v) :: hi x l
theorem lo_app {x : List Nat} {L R : List (Row α)} : lo x (L ++ R) = lo x L ++ lo x R := List.filter_append ..
theorem hi_app {x : List Nat} {L R : List (Row α)} : hi x (L ++ R) = hi x L ++ hi x R := List.filter_append ..
theorem up_hi {x : List Nat} {l : List (Row α)} (n : ∀ p ∈ l, p.1 ≠ x) : up x l = hi x l := by
  unfold up hi
  refine List.filter_congr fun p hp => ?_
  by_cases c : x < p.1
  · rw [decide_eq_true c, decide_eq_false (fun z => lt_as z c)]; rfl
  · rw [decide_eq_false c, decide_eq_true ((lt_tot (n p hp)).resolve_right c)]; rfl
theorem put_toL : ∀ (t : Tr α) (x : List Nat) (v : α), TO h t → Srt (toL t) → toL (putP h t x v) = ins x v (toL t)
  | .nil, x, v, _, _ => rfl
  | .node k a l r, x, v, ht, s => by
    obtain ⟨h1, h2, h3, h4⟩ := id ht
    obtain ⟨s1, s2, s3, s4⟩ := srt_node.mp s
    have e : toL (.node k a l r) = toL l ++ (k, a) :: toL r := rfl
    unfold putP
    by_cases c : x = k
    · rw [if_pos c, e]
      subst c
      obtain ⟨f1, f2⟩ := lo_mid s
      unfold ins
      rw [f1, f2]
      rfl
    · rw [if_neg c]
      by_cases b : bt h x k = true
      · rw [if_pos b]
        obtain ⟨i1, i2⟩ := split_toL (.node k a l r) x s
        show toL (splitP (.node k a l r) x).1 ++ (x, v) :: toL (splitP (.node k a l r) x).2 = _
        rw [i1, i2, up_hi]
        · rfl
        · intro p hp q
          rw [e] at hp
          rcases List.mem_append.mp hp with hp | hp
          · exact bt_as h b (q ▸ h1 p hp)
          · rcases List.mem_cons.mp hp with rfl | hp
            · exact c q.symm
            · exact bt_as h b (q ▸ h2 p hp)
      · rw [if_neg b]
        by_cases d : x < k
        · rw [if_pos d]
          show toL (putP h l x v) ++ (k, a) :: toL r = _
          rw [put_toL l x v h3 s1, e]
          unfold ins
          have r1 : lo x ((k, a) :: toL r) = [] := lo_none fun p hp => by
            rcases List.mem_cons.mp hp with rfl | hp
            · exact fun z => lt_as d z
            · exact fun z => lt_as (lt_tr d (s4 p hp)) z
          have r2 : hi x ((k, a) :: toL r) = (k, a) :: toL r := hi_all fun p hp => by
            rcases List.mem_cons.mp hp with rfl | hp
            · exact d
            · exact lt_tr d (s4 p hp)
          rw [lo_app, hi_app, r1, r2]
          simp
        · rw [if_neg d]
          have d' : k < x := (lt_tot c).resolve_left d
          show toL l ++ (k, a) :: toL (putP h r x v) = _
          rw [put_toL r x v h4 s2, e]
          unfold ins
          have r1 : lo x (toL l) = toL l := lo_all fun p hp => lt_tr (s3 p hp) d'
          have r2 : hi x (toL l) = [] := hi_none fun p hp z => lt_as (lt_tr (s3 p hp) d') z
          have r3 : lo x ((k, a) :: toL r) = (k, a) :: lo x (toL r) := by unfold lo; rw [List.filter_cons, if_pos (decide_eq_true d')]
          have r4 : hi x ((k, a) :: toL r) = hi x (toL r) := by unfold hi; rw [List.filter_cons, if_neg (by rw [decide_eq_true_eq]; exact d)]
          rw [lo_app, hi_app, r1, r2, r3, r4]
          simp
theorem mem_ins {x : List Nat} {v : α} {l : List (Row α)} {p : Row α} (hp : p ∈ ins x v l) : p = (x, v) ∨ p ∈ l := by
  rcases List.mem_append.mp hp with hp | hp
  · exact .inr (List.mem_filter.mp hp).1
  · rcases List.mem_cons.mp hp with hp | hp
    · exact .inl hp
    · exact .inr (List.mem_filter.mp hp).1
theorem put_TO : ∀ (t : Tr α) (x : List Nat) (v : α), TO h t → Srt (toL t) → TO h (putP h t x v)
  | .nil, x, v, _, _ => ⟨fun _ z => (nomatch z), fun _ z => (nomatch z), trivial, trivial⟩
  | .node k a l r, x, v, ht, s => by
    obtain ⟨h1, h2, h3, h4⟩ := id ht
    obtain ⟨s1, s2, s3, s4⟩ := srt_node.mp s
    have e : toL (.node k a l r) = toL l ++ (k, a) :: toL r := rfl
    unfold putP
    by_cases c : x = k
    · rw [if_pos c]
      subst c
      exact ⟨h1, h2, h3, h4⟩
    · rw [if_neg c]
      by_cases b : bt h x k = true
      · rw [if_pos b]
        have all : ∀ p ∈ toL (.node k a l r), bt h x p.1 = true := fun p hp => by
          rw [e] at hp
          rcases List.mem_append.mp hp with hp | hp
          · exact bt_tr h b (h1 p hp)
          · rcases List.mem_cons.mp hp with rfl | hp
            · exact b
            · exact bt_tr h b (h2 p hp)
        obtain ⟨i1, i2⟩ := split_TO h (.node k a l r) x ht
        exact ⟨fun p hp => all p ((split_mem _ x p).1 hp), fun p hp => all p ((split_mem _ x p).2 hp), i1, i2⟩
      · rw [if_neg b]
        have b' : bt h k x = true := bt_tot h c b
        by_cases d : x < k
        · rw [if_pos d]
          refine ⟨fun p hp => ?_, h2, put_TO l x v h3 s1, h4⟩
          rw [put_toL h l x v h3 s1] at hp
          rcases mem_ins hp with rfl | hp
          · exact b'
          · exact h1 p hp
        · rw [if_neg d]
          refine ⟨h1, fun p hp => ?_, h3, put_TO r x v h4 s2⟩
          rw [put_toL h r x v h4 s2] at hp
          rcases mem_ins hp with rfl | hp
          · exact b'
          · exact h2 p hp
theorem srt_ins {x : List Nat} {v : α} {l : List (Row α)} (s : Srt l) : Srt (ins x v l) := by
  unfold ins
  rw [srt_node]
  exact ⟨List.Pairwise.filter _ s, List.Pairwise.filter _ s, fun p hp => of_decide_eq_true (List.mem_filter.mp hp).2, fun p hp => of_decide_eq_true (List.mem_filter.mp hp).2⟩
theorem mem_ins_iff {x : List Nat} {v : α} {l : List (Row α)} {p : Row α} : p ∈ ins x v l ↔ p = (x, v) ∨ (p ∈ l ∧ p.1 ≠ x) := by
  constructor
  · intro hp
    rcases List.mem_append.mp hp with hp | hp
    · obtain ⟨m, c⟩ := List.mem_filter.mp hp
      exact .inr ⟨m, fun z => lt_irr _ (z ▸ of_decide_eq_true c)⟩
    · rcases List.mem_cons.mp hp with hp | hp
      · exact .inl hp
      · obtain ⟨m, c⟩ := List.mem_filter.mp hp
        exact .inr ⟨m, fun z => lt_irr _ (z ▸ of_decide_eq_true c)⟩
  · rintro (rfl | ⟨m, c⟩)
    · simp [ins]
    · rcases lt_tot c with d | d
      · exact List.mem_append_left _ (List.mem_filter.mpr ⟨m, decide_eq_true d⟩)
      · exact List.mem_append_right _ (List.mem_cons_of_mem _ (List.mem_filter.mpr ⟨m, decide_eq_true d⟩))
theorem srt_ext {l m : List (Row α)} (s : Srt l) (t : Srt m) (e : ∀ p, p ∈ l ↔ p ∈ m) : l = m := by
  have key : ∀ {l m : List (Row α)}, Srt l → Srt m → (∀ p, p ∈ l ↔ p ∈ m) → l = m := by
    intro l
    induction l with
    | nil =>
      intro m _ _ e
      cases m with
      | nil => rfl
      | cons q r => exact absurd ((e q).mpr List.mem_cons_self) (by simp)
    | cons p l ih =>
      intro m s t e
      cases m with
      | nil => exact absurd ((e p).mp List.mem_cons_self) (by simp)
      | cons q r =>
        obtain ⟨s1, s2⟩ := List.pairwise_cons.mp s
        obtain ⟨t1, t2⟩ := List.pairwise_cons.mp t
        have hpq : p = q := by
          rcases List.mem_cons.mp ((e p).mp List.mem_cons_self) with z | z
          · exact z
          · rcases List.mem_cons.mp ((e q).mpr List.mem_cons_self) with w | w
            · exact w.symm
            · exact (lt_as (t1 p z) (s1 q w)).elim
        subst hpq
        refine congrArg (p :: ·) (ih s2 t2 fun x => ?_)
        have := e x
        constructor
        · intro hx
          rcases List.mem_cons.mp (this.mp (List.mem_cons_of_mem _ hx)) with z | z
          · subst z; exact (lt_irr _ (s1 x hx)).elim
          · exact z
        · intro hx
          rcases List.mem_cons.mp (this.mpr (List.mem_cons_of_mem _ hx)) with z | z
          · subst z; exact (lt_irr _ (t1 x hx)).elim
          · exact z
  exact key s t e
end Tp


namespace Tp
open LK
variable {α : Type} (h : List Nat → Int)
def chk (k : List Nat) : Tr α → Bool
  | .nil => true
  | .node k' _ _ _ => bt h k k'
def heapB : Tr α → Bool
  | .nil => true
  | .node k _ l r => (chk h k l && chk h k r) && (heapB l && heapB r)
theorem chk_all {k : List Nat} : ∀ {t : Tr α}, chk h k t = true → TO h t → ∀ p ∈ toL t, bt h k p.1 = true
  | .nil, _, _, p, hp => nomatch hp
  | .node k' a l r, c, ⟨o1, o2, _, _⟩, p, hp => by
    have c : bt h k k' = true := c
    rcases List.mem_append.mp (show p ∈ toL l ++ (k', a) :: toL r from hp) with z | z
    · exact bt_tr h c (o1 p z)
    · rcases List.mem_cons.mp z with z | z
      · subst z; exact c
      · exact bt_tr h c (o2 p z)
theorem heap_TO : ∀ t : Tr α, heapB h t = true ↔ TO h t
  | .nil => ⟨fun _ => trivial, fun _ => rfl⟩
  | .node k a l r => by
    show ((chk h k l && chk h k r) && (heapB h l && heapB h r)) = true ↔ _
    rw [Bool.and_eq_true, Bool.and_eq_true, Bool.and_eq_true, heap_TO l, heap_TO r]
    constructor
    · rintro ⟨⟨c1, c2⟩, o1, o2⟩
      exact ⟨chk_all h c1 o1, chk_all h c2 o2, o1, o2⟩
    · rintro ⟨o1, o2, o3, o4⟩
      refine ⟨⟨?_, ?_⟩, o3, o4⟩
      · cases l with
        | nil => rfl
        | node k' a' l' r' => exact o1 (k', a') (List.mem_append.mpr (.inr List.mem_cons_self))
      · cases r with
        | nil => rfl
        | node k' a' l' r' => exact o2 (k', a') (List.mem_append.mpr (.inr List.mem_cons_self))
end Tp

namespace Pf
open PySem L2 LK Tp
def coinL (a b : Int) (t : List Nat) : Int := (t.foldl (fun h (c : Nat) => (h * 16807 + (c : Int) + 1) % 2147483647) ((a * 48271 + b * 69621 + 1) % 2147483647) * 48271 + (t.length : Int)) % 2147483647
theorem coin_ok (a b : Int) (t : List Nat) : coin_m a b t = M.ok (coinL a b t) := by
  unfold coin_m coin_b
  rw [M.bind_ok]
  have h := (forL_fold (ε := Er) (b := Unit) (ρ := Int) (f := fun (s2 : Int) (a3 : List Nat) => ((((M.ok (s2 * (16807 : Int))).bind fun x4 => (M.need (a3.length = 1) (M.ok ((a3.getD 0 0 : Nat) : Int))).bind fun x5 => M.ok (x4 + x5)).bind fun x6 => (M.ok ((1 : Int))).bind fun x7 => M.ok (x6 + x7)).bind fun x8 => M.ok (x8 % (2147483647 : Int))).bind fun v9 => M.ok (.nx v9))
    (fun s c => (s * 16807 + ((c.getD 0 0 : Nat) : Int) + 1) % 2147483647) (fun _ => True) (signs t) ((a * 48271 + b * 69621 + 1) % 2147483647) trivial fun x c hc _ => ⟨?_, trivial⟩).1
  · rw [h, seqF_nx, LK.fin_ret]
    unfold coinL signs
    rw [List.foldl_map]
    rfl
  · obtain ⟨d, _, rfl⟩ := List.mem_map.mp hc
    rfl
def hg (seed : Int) (k : List Nat) : Int := coinL seed 3 k
theorem above_ok (seed : Int) (k o : List Nat) : above_m seed k o = M.ok (bt (hg seed) k o) := by
  unfold above_m above_b bt
  rw [coin_ok, coin_ok, M.bind_ok, M.bind_ok]
  show fin none (if decide (hg seed k = hg seed o) = true then _ else _) = _
  by_cases e : hg seed k = hg seed o
  · rw [if_pos e, if_pos (decide_eq_true e)]; rfl
  · rw [if_neg e, if_neg (by rw [decide_eq_true_eq]; exact e)]; rfl

abbrev TT := Tr (List Nat)
abbrev Dc := List (List Nat × List Nat)
abbrev RG := rg_split_tree_f
theorem split_f_ok : ∀ (n : Nat) (t : TT) (x : List Nat), t.dep < n → (RG n).1 t x = M.ok (splitP t x)
  | 0, _, _, c => by omega
  | n + 1, .nil, x, _ => rfl
  | n + 1, .node k a l r, x, c => by
    have c : max l.dep r.dep + 1 < n + 1 := c
    show fin none (split_tree_b (RG n).1 (RG n).2 (.node k a l r) x) = _
    unfold split_tree_b splitP
    refine wm_val (wm_fin ?_)
    simp only [Tr.isNil, trK, trA, trL, trRt, Bool.false_eq_true, if_false, wm_bind, wm_ok, wm_ite, decide_eq_true_eq, fnw_ret, split_f_ok n r x (by omega), split_f_ok n l x (by omega)]
    refine ⟨fun d => ?_, fun d => ?_⟩
    · rw [if_pos d]; rfl
    · rw [if_neg d]; rfl
theorem put_f_ok (seed : Int) : ∀ (n : Nat) (t : TT) (x v : List Nat), t.dep + 1 < n → (RG n).2 seed t x v = M.ok (putP (hg seed) t x v)
  | 0, _, _, _, c => by omega
  | n + 1, .nil, x, v, _ => rfl
  | n + 1, .node k a l r, x, v, c => by
    have c' : max l.dep r.dep + 1 + 1 < n + 1 := c
    have cs : (Tr.node k a l r).dep < n := by show max l.dep r.dep + 1 < n; omega
    show fin none (put_entry_b (RG n).1 (RG n).2 seed (.node k a l r) x v) = _
    unfold put_entry_b putP
    refine wm_val (wm_fin ?_)
    simp only [Tr.isNil, trK, trA, trL, trRt, Bool.false_eq_true, if_false, wm_bind, wm_ok, wm_ite, decide_eq_true_eq, fnw_ret, above_ok, split_f_ok n _ x cs, put_f_ok seed n l x v (by omega), put_f_ok seed n r x v (by omega)]
    refine ⟨fun d => ?_, fun d => ⟨fun e => ?_, fun e => ⟨fun g => ?_, fun g => ?_⟩⟩⟩
    · rw [if_pos d]; rfl
    · rw [if_neg d, if_pos e]; rfl
    · rw [if_neg d, if_neg e, if_pos g]; rfl
    · rw [if_neg d, if_neg e, if_neg g]; rfl
theorem put_ok {seed : Int} {t : TT} {x v : List Nat} (c : (toL t).length ≤ 200) : put_entry_m seed t x v = M.ok (putP (hg seed) t x v) := put_f_ok seed 205 t x v (by have := dep_le t; omega)
theorem gather_f_ok : ∀ (n : Nat) (t : TT) (acc : Dc), t.dep < n → acc.length + (toL t).length < 1000 → gather_f n t acc = M.ok (acc ++ toL t)
  | 0, _, _, c, _ => by omega
  | n + 1, .nil, acc, _, _ => by
    show M.ok acc = M.ok (acc ++ [])
    rw [List.append_nil]
  | n + 1, .node k a l r, acc, c, b => by
    have c : max l.dep r.dep + 1 < n + 1 := c
    have e1 : toL (.node k a l r) = toL l ++ (k, a) :: toL r := rfl
    rw [e1] at b ⊢
    simp only [List.length_append, List.length_cons] at b
    have hsz : sizeLine = 16777216 := rfl
    show fin (some fun (s : Dc) => s) (gather_b (gather_f n) (.node k a l r) acc) = _
    unfold gather_b
    refine wm_val (wm_fin ?_)
    have g1 := gather_f_ok n l acc (by omega) (by omega)
    have g2 := gather_f_ok n r (acc ++ toL l ++ [(k, a)]) (by omega) (by simp only [List.length_append, List.length_cons, List.length_nil]; omega)
    simp only [Tr.isNil, trK, trA, trL, trRt, Bool.not_false, if_true, wm_bind, wm_ok, wm_need, g1, g2, fnw_nx, List.length_append]
    refine ⟨by omega, ?_⟩
    simp
theorem entries_ok {t : TT} (b : (toL t).length ≤ 200) : tree_entries_m t = M.ok (toL t) := by
  unfold tree_entries_m tree_entries_b
  refine wm_val (wm_fin ?_)
  have g : gather_m t [] = M.ok ([] ++ toL t) := gather_f_ok 205 t [] (by have := dep_le t; omega) (by show 0 + _ < 1000; omega)
  simp only [wm_bind, wm_ok, g, fnw_ret, List.nil_append]
end Pf

namespace Pf
open PySem L2 LK Tp
def rowsOf (d : Dc) : Dc := (sortT (d.map (·.1))).map fun k => (k, (dget d k).getD [])
theorem rows_mem {d : Dc} (nd : (d.map (·.1)).Nodup) (p : List Nat × List Nat) : p ∈ rowsOf d ↔ p ∈ d := by
  unfold rowsOf
  rw [List.mem_map]
  constructor
  · rintro ⟨k, hk, rfl⟩
    obtain ⟨q, hq, rfl⟩ := List.mem_map.mp ((sortT_perm _).mem_iff.mp hk)
    rw [dget_mem nd hq]
    exact hq
  · intro hp
    exact ⟨p.1, (sortT_perm _).mem_iff.mpr (List.mem_map.mpr ⟨p, hp, rfl⟩), by rw [dget_mem nd hp]; rfl⟩
theorem rows_srt {d : Dc} (nd : (d.map (·.1)).Nodup) : Srt (rowsOf d) := by
  unfold Srt rowsOf
  rw [List.pairwise_map]
  have n2 : (sortT (d.map (·.1))).Nodup := (sortT_perm _).nodup_iff.mpr nd
  refine List.Pairwise.imp₂ (fun a b h1 h2 => ?_) (sortT_pw (d.map (·.1))) n2
  exact (lt_tot h2).resolve_right fun z => by
    have := leT_iff.mp h1
    exact (List.not_lt.mpr this) z
theorem rows_len {d : Dc} : (rowsOf d).length = d.length := by
  unfold rowsOf
  rw [List.length_map, (sortT_perm _).length_eq, List.length_map]
structure Good (seed : Int) (t : TT) (d : Dc) : Prop where
  ok : (d.map (·.1)).Nodup
  to : TO (hg seed) t
  rows : toL t = rowsOf d
theorem Good.srt {seed : Int} {t : TT} {d : Dc} (g : Good seed t d) : Srt (toL t) := by rw [g.rows]; exact rows_srt g.ok
theorem Good.len {seed : Int} {t : TT} {d : Dc} (g : Good seed t d) : (toL t).length = d.length := by rw [g.rows, rows_len]
theorem Good.dep {seed : Int} {t : TT} {d : Dc} (g : Good seed t d) : t.dep ≤ d.length := by have := dep_le t; rw [g.len] at this; exact this
theorem good_put {seed : Int} {t : TT} {d : Dc} {k v : List Nat} (g : Good seed t d) : Good seed (putP (hg seed) t k v) (dput d k v) := by
  have d1 : ((dput d k v).map (·.1)).Nodup := dput_nd g.ok
  refine ⟨d1, put_TO (hg seed) t k v g.to g.srt, ?_⟩
  have h1 := put_toL (hg seed) t k v g.to g.srt
  refine srt_ext (by rw [h1]; exact srt_ins g.srt) (rows_srt d1) fun p => ?_
  rw [h1, mem_ins_iff, rows_mem d1, g.rows, rows_mem g.ok]
  unfold dput
  by_cases c : (d.any fun p => decide (p.1 = k)) = true
  · rw [if_pos c, List.mem_map]
    constructor
    · rintro (rfl | ⟨h, n⟩)
      · obtain ⟨q, hq, e⟩ := List.any_eq_true.mp c
        exact ⟨q, hq, by rw [if_pos (of_decide_eq_true e), of_decide_eq_true e]⟩
      · exact ⟨p, h, if_neg n⟩
    · rintro ⟨q, hq, e⟩
      by_cases z : q.1 = k
      · rw [if_pos z, z] at e
        exact .inl e.symm
      · rw [if_neg z] at e
        subst e
        exact .inr ⟨hq, z⟩
  · rw [if_neg c, List.mem_append, List.mem_singleton]
    constructor
    · rintro (h | ⟨h, _⟩)
      · exact .inr h
      · exact .inl h
    · rintro (h | h)
      · exact .inr ⟨h, fun z => c (List.any_eq_true.mpr ⟨p, h, decide_eq_true z⟩)⟩
      · exact .inl h
end Pf

namespace Pf
open PySem L2 LK NumText
def ASC (t : List Nat) : Prop := ∀ c ∈ t, c < 128
theorem asc_tok {t : List Nat} (h : ASC t) (hl : t.length ≤ 1000000) : tOk t := tOk.mk (by show _ ≤ 2 ^ 24; omega) fun c hc => by have := h c hc; omega
theorem dig_all : ∀ c < 128, Unicode.isDigit c = true → 48 ≤ c ∧ c ≤ 57 := by decide +kernel
theorem dig_yes : ∀ c < 58, 48 ≤ c → Unicode.isDigit c = true := by decide +kernel
theorem isdigit_S (m : List Nat) : Txt.isdigit (S m) = (decide (m.length > 0) && m.all Unicode.isDigit) := by
  unfold Txt.isdigit
  rw [show (S m).length = m.length from S_len m]
  congr 1
  show Array.all _ _ = _
  simp [S]
def isD (c : Nat) : Bool := decide (48 ≤ c) && decide (c ≤ 57)
theorem isD_iff {c : Nat} : isD c = true ↔ 48 ≤ c ∧ c ≤ 57 := by unfold isD; rw [Bool.and_eq_true, decide_eq_true_eq, decide_eq_true_eq]
def lead0 : List Nat → Bool
  | c :: _ :: _ => decide (c = 48)
  | _ => false
def nv (m : List Nat) : Option Int := if m.length < 1 ∨ 9 < m.length then none else if m.all isD = false then none else if lead0 m = true then none else some ((digitsVal m : Nat) : Int)
theorem number_nv {m : List Nat} (ha : ASC m) : number_of_m m = match nv m with | none => M.err .badForm | some n => M.ok n := by
  unfold number_of_m number_of_b
  by_cases hl : m.length < 1 ∨ 9 < m.length
  · have e : nv m = none := if_pos hl
    rw [e, isdigit_S]
    have : (!(decide (m.length > 0) && m.all Unicode.isDigit) || decide ((9 : Int) < (m.length : Int))) = true := by
      rcases hl with h | h
      · rw [decide_eq_false (by omega : ¬ m.length > 0)]; rfl
      · rw [decide_eq_true (by omega : (9 : Int) < (m.length : Int)), Bool.or_true]
    rw [if_pos this]
    rfl
  · have hd : m.all Unicode.isDigit = m.all isD := by
      rw [Bool.eq_iff_iff, List.all_eq_true, List.all_eq_true]
      constructor
      · intro h c hc; exact isD_iff.mpr (dig_all c (ha c hc) (h c hc))
      · intro h c hc; have := isD_iff.mp (h c hc); exact dig_yes c (by omega) this.1
    have h0 : decide (m.length > 0) = true := decide_eq_true (by omega)
    have h9 : decide ((9 : Int) < (m.length : Int)) = false := decide_eq_false (by omega)
    rw [isdigit_S, hd, h0, h9, Bool.true_and, Bool.or_false]
    unfold nv
    rw [if_neg hl]
    cases hall : m.all isD with
    | false => rfl
    | true =>
      rw [if_neg (by decide : ¬ ((!true) = true)), if_neg (by decide : ¬ (true = false))]
      have had : AllDigits m := fun c hc => isD_iff.mp (List.all_eq_true.mp hall c hc)
      cases m with
      | nil => exact absurd h0 (by decide)
      | cons c r =>
        have hat : at_ (c :: r) 0 = M.ok c := at_nat (i := 0) rfl
        have hint : intS (c :: r) = M.ok ((digitsVal (c :: r) : Nat) : Int) := by
          unfold intS
          have := intText_digits (x := S (c :: r)) (by rw [S_cps]; exact had) (by rw [S_cps]; exact List.cons_ne_nil _ _) (by rw [show (S (c :: r)).length = (c :: r).length from S_len _]; omega)
          rw [this, S_cps]
        rw [hat]
        simp only [M.bind_ok]
        cases r with
        | nil =>
          rw [show lead0 [c] = false from rfl, if_neg Bool.false_ne_true, show decide ((1 : Int) < (([c] : List Nat).length : Int)) = false from rfl]
          have : ∀ x : Bool, (if x = true then (M.ok false : M Bool) else M.ok false) = M.ok false := fun x => by cases x <;> rfl
          rw [this, M.bind_ok, if_neg Bool.false_ne_true, M.need_pos (by omega), hint]
          rfl
        | cons d r =>
          rw [show lead0 (c :: d :: r) = decide (c = 48) from rfl, show decide ((1 : Int) < ((c :: d :: r).length : Int)) = true from decide_eq_true (by simp; omega)]
          by_cases hc : c = 48
          · rw [decide_eq_true hc, if_pos rfl, if_pos (decide_eq_true (by rw [hc]))]
            rfl
          · rw [decide_eq_false hc, if_neg Bool.false_ne_true, if_neg (by rw [decide_eq_true_eq]; intro z; injection z with z; exact hc z), M.bind_ok, if_neg Bool.false_ne_true, M.need_pos (by omega), hint]
            rfl
theorem nv_nn {m : List Nat} {k : Int} (h : nv m = some k) : 0 ≤ k := by
  unfold nv at h
  split at h
  · cases h
  · split at h
    · cases h
    · split at h
      · cases h
      · injection h with h
        omega
theorem find_no {t A rest : List Nat} (ht : t = A ++ rest) (h : 58 ∉ rest) : Txt.find3 (S t) (S [58]) (A.length : Int) = -1 := by
  rw [find3_one]
  have : posC t 58 A.length = none := by
    unfold posC
    rw [List.find?_eq_none]
    intro k hk
    rw [List.mem_range'_1] at hk
    simp only [decide_eq_true_eq]
    intro e
    rw [ht, List.getElem?_append_right hk.1] at e
    exact h (List.mem_of_getElem? e)
  rw [this]
structure Spl (t A rest m q : List Nat) : Prop where
  ht : t = A ++ (m ++ 58 :: q)
  hr : rest = m ++ 58 :: q
  no : 58 ∉ m
theorem Spl.find {t A rest m q : List Nat} (s : Spl t A rest m q) : Txt.find3 (S t) (S [58]) (A.length : Int) = ((A.length + m.length : Nat) : Int) :=
  find3_hit (m := m) (r := q) (by rw [s.ht, List.drop_left' rfl]) s.no
theorem Spl.cut {t A rest m q : List Nat} (s : Spl t A rest m q) : cut t (some (A.length : Int)) (some ((A.length + m.length : Nat) : Int)) = m := cut_mid (C := 58 :: q) s.ht rfl rfl
theorem Spl.len {t A rest m q : List Nat} (s : Spl t A rest m q) : t.length = A.length + m.length + 1 + q.length := by rw [s.ht]; simp only [List.length_append, List.length_cons]; omega
theorem Spl.cut2 {t A rest m q : List Nat} (s : Spl t A rest m q) {k : Int} (h0 : 0 ≤ k) (hk : k.toNat ≤ q.length) : LK.cut t (some (((A.length + m.length : Nat) : Int) + 1)) (some (((A.length + m.length : Nat) : Int) + 1 + k)) = q.take k.toNat := by
  have hp : (q.take k.toNat).length = k.toNat := by rw [List.length_take]; omega
  exact cut_mid (A := A ++ (m ++ [58])) (C := q.drop k.toNat) (by rw [s.ht, List.take_append_drop]; simp) (by simp only [List.length_append, List.length_cons, List.length_nil]; omega) (by simp only [List.length_append, List.length_cons, List.length_nil, hp]; omega)
theorem Spl.next {t A rest m q : List Nat} (s : Spl t A rest m q) {k : Int} (h0 : 0 ≤ k) (hk : k.toNat ≤ q.length) : t = (A ++ (m ++ 58 :: q.take k.toNat)) ++ q.drop k.toNat ∧ ((A ++ (m ++ 58 :: q.take k.toNat)).length : Int) = ((A.length + m.length : Nat) : Int) + 1 + k := by
  have hp : (q.take k.toNat).length = k.toNat := by rw [List.length_take]; omega
  refine ⟨?_, ?_⟩
  · rw [s.ht]
    simp [List.take_append_drop]
  · simp only [List.length_append, List.length_cons, hp]
    omega
theorem split {t A rest : List Nat} (ht : t = A ++ rest) : rest = [] ∨ (rest ≠ [] ∧ 58 ∉ rest) ∨ ∃ m q, Spl t A rest m q := by
  by_cases h0 : rest = []
  · exact .inl h0
  · by_cases h : 58 ∈ rest
    · obtain ⟨m, q, e, hm⟩ := List.eq_append_cons_of_mem h
      exact .inr (.inr ⟨m, q, by rw [ht, e], e, hm⟩)
    · exact .inr (.inl ⟨h0, h⟩)
theorem val_split : ∀ (cs : List Nat) (a : Nat), cs.foldl (fun acc c => acc * 10 + (c - 48)) a = a * 10 ^ cs.length + digitsVal cs
  | [], a => by simp [digitsVal]
  | c :: cs, a => by
    rw [List.foldl_cons, val_split cs, show digitsVal (c :: cs) = cs.foldl (fun acc c => acc * 10 + (c - 48)) (0 * 10 + (c - 48)) from rfl, val_split cs (0 * 10 + (c - 48)), List.length_cons, Nat.pow_succ]
    rw [Nat.add_mul, Nat.zero_mul, Nat.zero_add, Nat.mul_assoc, Nat.mul_comm 10, Nat.add_assoc]
theorem val_cons (c : Nat) (cs : List Nat) : digitsVal (c :: cs) = (c - 48) * 10 ^ cs.length + digitsVal cs := by
  rw [show digitsVal (c :: cs) = cs.foldl (fun acc c => acc * 10 + (c - 48)) (0 * 10 + (c - 48)) from rfl, val_split, Nat.zero_mul, Nat.zero_add]
theorem val_lt : ∀ (cs : List Nat), AllDigits cs → digitsVal cs < 10 ^ cs.length
  | [], _ => by decide
  | c :: cs, h => by
    have h1 := h.head
    have h2 := val_lt cs h.tail
    rw [val_cons, List.length_cons, Nat.pow_succ]
    have : (c - 48) * 10 ^ cs.length ≤ 9 * 10 ^ cs.length := Nat.mul_le_mul_right _ (by omega)
    omega
theorem val_inj : ∀ (a b : List Nat), a.length = b.length → AllDigits a → AllDigits b → digitsVal a = digitsVal b → a = b
  | [], [], _, _, _, _ => rfl
  | [], _ :: _, h, _, _, _ => by cases h
  | _ :: _, [], h, _, _, _ => by cases h
  | c :: a, d :: b, h, ha, hb, hv => by
    have hl : a.length = b.length := by simpa using h
    have h1 := ha.head
    have h2 := hb.head
    have h3 := val_lt a ha.tail
    have h4 := val_lt b hb.tail
    rw [val_cons, val_cons, hl] at hv
    rw [hl] at h3
    have hp : 0 < 10 ^ b.length := Nat.pow_pos (by decide)
    have e1 : c - 48 = d - 48 := by
      have q1 : ((c - 48) * 10 ^ b.length + digitsVal a) / 10 ^ b.length = c - 48 := by
        rw [Nat.add_comm, Nat.add_mul_div_right _ _ hp, Nat.div_eq_of_lt h3, Nat.zero_add]
      have q2 : ((d - 48) * 10 ^ b.length + digitsVal b) / 10 ^ b.length = d - 48 := by
        rw [Nat.add_comm, Nat.add_mul_div_right _ _ hp, Nat.div_eq_of_lt h4, Nat.zero_add]
      rw [← q1, ← q2, hv]
    have e2 : digitsVal a = digitsVal b := by
      rw [e1] at hv
      omega
    rw [val_inj a b hl ha.tail hb.tail e2, show c = d from by omega]
def dec (n : Nat) : List Nat := (Nat.toDigits 10 n).map Char.toNat
theorem strI_nat (n : Nat) : strI (n : Int) = dec n := PySem.W.KIN.signs_num n
theorem dec_all (n : Nat) : AllDigits (dec n) := by
  intro c hc
  obtain ⟨ch, hch, e⟩ := List.mem_map.mp hc
  have r := PyProof.Rows.digit_range (Nat.isDigit_of_mem_toDigits (by decide) (by decide) hch)
  rw [← e]
  exact r
theorem dec_val (n : Nat) : digitsVal (dec n) = n := PySem.W.KIN.val_back n
theorem dec_le {k n : Nat} (hk : 1 ≤ k) (h : n < 10 ^ k) : (dec n).length ≤ k := by
  unfold dec
  rw [List.length_map]
  exact PyProof.Rows.digits10_le hk h
theorem dec_ge {k n : Nat} (h : 10 ^ k ≤ n) : k + 1 ≤ (dec n).length := by
  unfold dec
  rw [List.length_map]
  exact PyProof.Rows.digits10_ge h
theorem log_small {n : Nat} (h : n < 10 ^ 15) : n.log2 < 1920 := by
  by_cases h0 : n = 0
  · subst h0; decide
  · exact Nat.lt_of_lt_of_le (Nat.log2_lt h0 |>.mpr (Nat.lt_trans h (by decide : 10 ^ 15 < 2 ^ 60))) (by decide)
theorem dec_tok {n : Nat} (h : n < 10 ^ 15) : tOk (dec n) := tOk.mk (by have := dec_le (k := 15) (by decide) h; show _ ≤ 2 ^ 24; omega) fun c hc => by have := dec_all n c hc; omega
theorem str_need {n : Nat} (h : n < 10 ^ 15) : ((n : Int).natAbs.log2 < 1920 ∧ tOk (strI (n : Int))) ∧ strI (n : Int) = dec n := by
  rw [strI_nat]
  exact ⟨⟨log_small h, dec_tok h⟩, rfl⟩
theorem dec_ne (n : Nat) : dec n ≠ [] := by
  intro h
  have := dec_ge (k := 0) (n := n + 1) (by simp)
  unfold dec at h
  have h1 : Nat.toDigits 10 n = [] := List.map_eq_nil_iff.mp h
  have h2 := PyProof.Rows.tDigits_len_ge 10 n
  rw [h1] at h2
  exact absurd h2 (by decide)
theorem dec_pos (n : Nat) : 1 ≤ (dec n).length := by
  cases h : dec n with
  | nil => exact absurd h (dec_ne n)
  | cons c r => simp
theorem dec_nv {n : Nat} (h : n < 10 ^ 9) : nv (dec n) = some ((n : Nat) : Int) := by
  have h1 := dec_pos n
  have h2 := dec_le (k := 9) (by decide) h
  unfold nv
  rw [if_neg (by omega), if_neg, if_neg, dec_val]
  · intro hz
    have hv := dec_val n
    have hl := fun k (hk : 1 ≤ k) (q : n < 10 ^ k) => dec_le hk q
    have ha := dec_all n
    generalize dec n = m at hz hv hl ha
    match m with
    | [] => cases hz
    | [_] => cases hz
    | c :: d :: r =>
      have hc : c = 48 := of_decide_eq_true hz
      subst hc
      rw [val_cons, Nat.sub_self, Nat.zero_mul, Nat.zero_add] at hv
      have := val_lt (d :: r) ha.tail
      rw [hv] at this
      have := hl (d :: r).length (by simp) this
      simp only [List.length_cons] at this
      omega
  · intro hz
    have : (dec n).all isD = true := List.all_eq_true.mpr fun c hc => isD_iff.mpr (dec_all n c hc)
    rw [this] at hz
    cases hz
theorem nv_dec {m : List Nat} {k : Int} (h : nv m = some k) : m = dec k.toNat ∧ 0 ≤ k ∧ k < 10 ^ 9 := by
  unfold nv at h
  split at h
  · cases h
  rename_i hl
  split at h
  · cases h
  rename_i hd
  split at h
  · cases h
  rename_i hz
  injection h with h
  have ha : AllDigits m := fun c hc => isD_iff.mp (List.all_eq_true.mp (by simpa using hd) c hc)
  have hlt := val_lt m ha
  have hpw : (10 : Nat) ^ m.length ≤ 10 ^ 9 := Nat.pow_le_pow_right (by decide) (by omega)
  have hk : k.toNat = digitsVal m := by omega
  refine ⟨?_, by omega, by omega⟩
  rw [hk]
  refine val_inj m _ ?_ ha (dec_all _) (dec_val _).symm
  have h1 := dec_le (n := digitsVal m) (k := m.length) (by omega) hlt
  refine Nat.le_antisymm ?_ h1
  match m with
  | [] => simp
  | [c] => exact dec_pos _
  | c :: d :: r =>
    have hc : c ≠ 48 := fun e => hz (decide_eq_true e)
    have hc2 := ha.head
    have : 10 ^ (d :: r).length ≤ digitsVal (c :: d :: r) := by
      rw [val_cons]
      have : 1 * 10 ^ (d :: r).length ≤ (c - 48) * 10 ^ (d :: r).length := Nat.mul_le_mul_right _ (by omega)
      omega
    have := dec_ge this
    simpa using this
theorem dec_no58 (n : Nat) : 58 ∉ dec n := fun h => by have := dec_all n 58 h; omega
theorem dec_asc (n : Nat) : ASC (dec n) := fun c hc => by have := dec_all n c hc; omega
def encP (p : List Nat) : List Nat := dec p.length ++ 58 :: p
def Pk (xs : List (List Nat)) : List Nat := (xs.map encP).flatten
theorem Pk_cons (p : List Nat) (xs : List (List Nat)) : Pk (p :: xs) = dec p.length ++ 58 :: (p ++ Pk xs) := by
  unfold Pk encP
  simp
theorem Pk_asc {xs : List (List Nat)} (h : ∀ p ∈ xs, ASC p) : ASC (Pk xs) := by
  intro c hc
  obtain ⟨x, hx, hc⟩ := List.mem_flatten.mp hc
  obtain ⟨p, hp, rfl⟩ := List.mem_map.mp hx
  rcases List.mem_append.mp hc with z | z
  · exact dec_asc _ c z
  · rcases List.mem_cons.mp z with z | z
    · omega
    · exact h p hp c z
theorem Pk_len (xs : List (List Nat)) : (Pk xs).length = ((xs.map encP).map List.length).sum := by
  unfold Pk
  rw [List.length_flatten]
theorem Pk_ge : ∀ xs : List (List Nat), xs.length ≤ (Pk xs).length
  | [] => Nat.zero_le _
  | p :: xs => by
    have := Pk_ge xs
    rw [Pk_cons]
    simp only [List.length_append, List.length_cons]
    omega
theorem Pk_mem {xs : List (List Nat)} {p : List Nat} (h : p ∈ xs) : p.length < (Pk xs).length := by
  induction xs with
  | nil => exact nomatch h
  | cons q r ih =>
    rw [Pk_cons]
    simp only [List.length_append, List.length_cons]
    rcases List.mem_cons.mp h with rfl | h
    · omega
    · have := ih h
      omega
theorem enc_ok {xs : List (List Nat)} (ha : ASC (Pk xs)) (hl : (Pk xs).length ≤ 1000000) {p : List Nat} (hp : p ∈ xs) : (((p.length : Nat) : Int).natAbs.log2 < 1920 ∧ tOk (strI ((p.length : Nat) : Int))) ∧ strI ((p.length : Nat) : Int) = dec p.length ∧ (dec p.length).length + (p.length + 1) ≤ 1000000 := by
  have h1 := Pk_mem hp
  obtain ⟨a, b⟩ := str_need (n := p.length) (by omega)
  refine ⟨a, b, ?_⟩
  have : (encP p).length ≤ (Pk xs).length := by
    clear h1 a b ha hl
    induction xs with
    | nil => exact nomatch hp
    | cons q r ih =>
      have e : Pk (q :: r) = encP q ++ Pk r := rfl
      rw [e, List.length_append]
      rcases List.mem_cons.mp hp with rfl | h
      · omega
      · have := ih h
        omega
  unfold encP at this
  simp only [List.length_append, List.length_cons] at this
  omega
theorem pack_ok {xs : List (List Nat)} (ha : ASC (Pk xs)) (hl : (Pk xs).length ≤ 1000000) : pack_m xs = M.ok (Pk xs) := by
  have hg := Pk_ge xs
  have hsz : sizeLine = 16777216 := rfl
  unfold pack_m pack_b
  rw [M.bind_ok, lcL_map encP xs [] (fun p hp => by
    obtain ⟨a, b, c⟩ := enc_ok ha hl hp
    rw [M.need_pos a, b]
    unfold encP joinM
    rw [M.bind_ok, M.need_pos (by rw [hsz]; simp only [List.length_append, List.length_cons, List.length_nil]; omega)]
    unfold joinM
    rw [M.bind_ok, M.need_pos (by rw [hsz]; simp only [List.length_append, List.length_cons, List.length_nil]; omega)]
    unfold joinM
    rw [M.bind_ok, M.need_pos (by rw [hsz]; simp only [List.length_append, List.length_cons, List.length_nil]; omega)]
    unfold joinM
    simp) (by rw [hsz]; simp; omega)]
  rw [M.bind_ok, M.bind_ok, M.bind_ok, List.nil_append, joinL_eq, inter_nil]
  have := Pk_len xs
  show fin none ((M.need (((xs.map encP).map List.length).sum + _ ≤ _ ∧ tOk (Pk xs)) (M.ok (Pk xs))).bind _) = _
  rw [M.need_pos ⟨by simp only [List.length_nil, Nat.mul_zero]; omega, asc_tok ha hl⟩]
  rfl
end Pf

namespace Pf
open PySem L2 LK Tp
theorem heap_f_ok (seed : Int) : ∀ (n : Nat) (t : TT), t.dep < n → heaped_f n seed t = M.ok (heapB (hg seed) t)
  | 0, _, c => by omega
  | n + 1, .nil, _ => rfl
  | n + 1, .node k a l r, c => by
    have c : max l.dep r.dep + 1 < n + 1 := c
    show fin none (heaped_b (heaped_f n) seed (.node k a l r)) = _
    unfold heaped_b
    refine wm_val (wm_fin ?_)
    simp only [Tr.isNil, trK, trA, trL, trRt, Bool.false_eq_true, if_false, wm_bind, wm_ok, wm_seq]
    have step : ∀ (u : TT) (φ : Fl Bool Unit Unit → Prop), ((chk (hg seed) k u = true → φ (.nx ())) ∧ (chk (hg seed) k u = false → φ (.ret false))) →
        wm (((M.ok (!u.isNil)).bind fun b18 => if b18 = true then (((M.ok (seed)).bind fun x14 => ((M.ok k).bind fun x12 => ((trK u).bind fun x10 => (M.ok ()).bind fun y11 => M.ok (x10, y11)).bind fun y13 => M.ok (x12, y13)).bind fun y15 => M.ok (x14, y15)).bind fun a16 => above_m a16.1 a16.2.1 a16.2.2.1).bind fun b17 => M.ok (!b17) else M.ok false).bind fun b20 => if b20 = true then M.ok (.ret false) else M.ok (.nx ())) φ (fun _ => False) := by
      intro u φ ⟨h1, h2⟩
      cases u with
      | nil =>
        simp only [Tr.isNil, Bool.not_true, wm_bind, wm_ok, Bool.false_eq_true, if_false]
        exact h1 rfl
      | node k' a' l' r' =>
        simp only [Tr.isNil, Bool.not_false, trK, wm_bind, wm_ok, if_true, above_ok, wm_ite, Bool.not_eq_true', true_implies, not_true_eq_false, false_implies, and_true]
        refine ⟨fun e => h2 e, fun e => h1 ?_⟩
        cases q : bt (hg seed) k k' with
        | true => exact q
        | false => exact absurd q e
    have hfin : wm (forL (b := Unit) (fun (s8 : Unit) (a9 : TT) => ((M.ok (!a9.isNil)).bind fun b18 => if b18 = true then (((M.ok (seed)).bind fun x14 => ((M.ok k).bind fun x12 => ((trK a9).bind fun x10 => (M.ok ()).bind fun y11 => M.ok (x10, y11)).bind fun y13 => M.ok (x12, y13)).bind fun y15 => M.ok (x14, y15)).bind fun a16 => above_m a16.1 a16.2.1 a16.2.2.1).bind fun b17 => M.ok (!b17) else M.ok false).bind fun b20 => if b20 = true then M.ok (.ret false) else M.ok (.nx ())) [l, r] ())
        (fun o => (o = .nx () ∧ (chk (hg seed) k l && chk (hg seed) k r) = true) ∨ (o = .ret false ∧ (chk (hg seed) k l && chk (hg seed) k r) = false)) (fun _ => False) := by
      show wm (Mg.bind _ _) _ _
      rw [wm_bind]
      refine step l _ ⟨fun e => ?_, fun e => ?_⟩
      · show wm (Mg.bind _ _) _ _
        rw [wm_bind]
        refine step r _ ⟨fun e2 => ?_, fun e2 => ?_⟩
        · show wm (M.ok _) _ _
          rw [wm_ok, e, e2]
          exact .inl ⟨rfl, rfl⟩
        · show wm (M.ok _) _ _
          rw [wm_ok, e, e2]
          exact .inr ⟨rfl, rfl⟩
      · show wm (M.ok _) _ _
        rw [wm_ok, e]
        exact .inr ⟨rfl, rfl⟩
    refine wm_mono hfin (fun o ho => ?_) fun _ z => z.elim
    have hB : heapB (hg seed) (.node k a l r) = ((chk (hg seed) k l && chk (hg seed) k r) && (heapB (hg seed) l && heapB (hg seed) r)) := rfl
    rcases ho with ⟨rfl, e⟩ | ⟨rfl, e⟩
    · simp only [flw_nx, wm_bind, wm_ok, wm_ite, heap_f_ok seed n l (by omega), heap_f_ok seed n r (by omega), fnw_ret, hB, e, Bool.true_and]
      exact ⟨fun z => by rw [z]; rfl, fun z => by rw [Bool.eq_false_iff.mpr z]; rfl⟩
    · simp only [flw_ret, fnw_ret, hB, e, Bool.false_and]
theorem rise_ok (rows : Dc) (b : rows.length < 1000) (φ : Fl Bool Unit Unit → Prop) (h : (Srt rows → φ (.nx ())) ∧ (¬ Srt rows → φ (.ret false))) :
    wm (forL (fun (s2 : Unit) (a3 : Int) => (((at_ rows (a3 - (1 : Int))).bind fun x4 => M.ok (x4.1)).bind fun x6 => ((at_ rows a3).bind fun x5 => M.ok (x5.1)).bind fun x7 => M.ok (!decide (x6 < x7))).bind fun b9 => if b9 = true then M.ok (.ret false) else M.ok (.nx ())) (rng2L 1 (rows.length : Int)) ()) φ (fun _ => False) := by
  by_cases hs : ∃ j : Nat, ∃ hj : j + 1 < rows.length, ¬ (rows[j]'(by omega)).1 < (rows[j + 1]'hj).1
  · have hn : ¬ Srt rows := fun s => by
      obtain ⟨j, hj, n⟩ := hs
      exact n (List.pairwise_iff_getElem.mp s j (j + 1) (by omega) hj (by omega))
    have hall : wm (forL (b := Unit) (fun (s2 : Unit) (a3 : Int) => (((at_ rows (a3 - (1 : Int))).bind fun x4 => M.ok (x4.1)).bind fun x6 => ((at_ rows a3).bind fun x5 => M.ok (x5.1)).bind fun x7 => M.ok (!decide (x6 < x7))).bind fun b9 => if b9 = true then M.ok (.ret false) else M.ok (.nx ())) (rng2L 1 (rows.length : Int)) ()) (fun o => o = .ret false) (fun _ => False) := by
      refine wm_for (fun j (_ : Unit) => ∀ i : Nat, i < j → ∀ hi : i + 1 < rows.length, (rows[i]'(by omega)).1 < (rows[i + 1]'hi).1) (fun _ => False) (fun v => v = false) _ 0 _ (fun i hi => by omega) ?_ ?_ ?_ ?_
      · intro j x a ha _ hj hp
        rw [rng2L_len] at hj
        have ha' : a = ((j + 1 : Nat) : Int) := by
          have := rng2L_get (a := 1) (b := (rows.length : Int)) (i := j) (by omega)
          rw [show j - 0 = j from rfl, this] at ha
          have := Option.some.inj ha
          omega
        subst ha'
        have hj1 : j + 1 < rows.length := by omega
        have e0 : at_ rows (((j + 1 : Nat) : Int) - 1) = M.ok (rows[j]'(by omega)) := by
          rw [show ((j + 1 : Nat) : Int) - 1 = (j : Int) from by omega]
          exact at_nat (List.getElem?_eq_getElem (by omega))
        simp only [wm_bind, wm_ok, e0, at_nat (List.getElem?_eq_getElem hj1), wm_ite, trn_ret, trn_nx, Bool.not_eq_true', decide_eq_false_iff_not]
        refine ⟨fun _ => trivial, fun e i hi hi' => ?_⟩
        by_cases q : i = j
        · subst q; exact Decidable.not_not.mp e
        · exact hp i (by omega) hi'
      · intro y hy
        rw [rng2L_len] at hy
        obtain ⟨j, hj, n⟩ := hs
        exact n (hy j (by omega) hj)
      · exact fun _ z => z.elim
      · exact fun v e => by rw [e]
    exact wm_mono hall (fun o e => by rw [e]; exact h.2 hn) fun _ z => z
  · have hr : ∀ j : Nat, ∀ hj : j + 1 < rows.length, (rows[j]'(by omega)).1 < (rows[j + 1]'hj).1 := fun j hj => Decidable.not_not.mp fun n => hs ⟨j, hj, n⟩
    have hsrt : Srt rows := by
      refine List.pairwise_iff_getElem.mpr fun i j hi hj hij => ?_
      have key : ∀ d : Nat, ∀ hd : i + d + 1 < rows.length, (rows[i]'hi).1 < (rows[i + d + 1]'hd).1 := by
        intro d
        induction d with
        | zero => intro hd; exact hr i hd
        | succ d ih => intro hd; exact lt_tr (ih (by omega)) (hr (i + d + 1) (by omega))
      have := key (j - i - 1) (by omega)
      have e : i + (j - i - 1) + 1 = j := by omega
      simp only [e] at this
      exact this
    have : forL (b := Unit) (fun (s2 : Unit) (a3 : Int) => (((at_ rows (a3 - (1 : Int))).bind fun x4 => M.ok (x4.1)).bind fun x6 => ((at_ rows a3).bind fun x5 => M.ok (x5.1)).bind fun x7 => M.ok (!decide (x6 < x7))).bind fun b9 => if b9 = true then M.ok (Fl.ret (ρ := Bool) (s := Unit) false) else M.ok (.nx ())) (rng2L 1 (rows.length : Int)) () = (M.ok (.nx ()) : Mg Er (Fl Bool Unit Unit)) := by
      refine forL_all _ () fun a ha => ?_
      obtain ⟨j, hj, ej⟩ := List.getElem_of_mem ha
      rw [rng2L_len] at hj
      have := rng2L_get (a := 1) (b := (rows.length : Int)) (i := j) (by omega)
      rw [List.getElem?_eq_getElem (by rw [rng2L_len]; exact hj), ej] at this
      have ha' : a = ((j + 1 : Nat) : Int) := by
        have := Option.some.inj this
        omega
      subst ha'
      have hj1 : j + 1 < rows.length := by omega
      have e0 : at_ rows (((j + 1 : Nat) : Int) - 1) = M.ok (rows[j]'(by omega)) := by
        rw [show ((j + 1 : Nat) : Int) - 1 = (j : Int) from by omega]
        exact at_nat (List.getElem?_eq_getElem (by omega))
      refine wm_val ?_
      simp only [wm_bind, wm_ok, e0, at_nat (List.getElem?_eq_getElem hj1), decide_eq_true (hr j hj1), Bool.not_true, Bool.false_eq_true, if_false]
    rw [this, wm_ok]
    exact h.1 hsrt
noncomputable def goodB (seed : Int) (t : TT) : Bool := @decide (Srt (toL t) ∧ TO (hg seed) t) (Classical.propDecidable _)
theorem goodB_iff {seed : Int} {t : TT} : goodB seed t = true ↔ (Srt (toL t) ∧ TO (hg seed) t) := by
  unfold goodB
  rw [@decide_eq_true_eq _ (Classical.propDecidable _)]
theorem goodB_not {seed : Int} {t : TT} (h : ¬ Srt (toL t)) : goodB seed t = false := Bool.eq_false_iff.mpr fun z => h (goodB_iff.mp z).1
theorem shaped_ok {seed : Int} {t : TT} (b : (toL t).length ≤ 200) : is_shaped_m seed t = M.ok (goodB seed t) := by
  unfold is_shaped_m is_shaped_b
  refine wm_val (wm_fin ?_)
  have hp : heaped_m seed t = M.ok (heapB (hg seed) t) := heap_f_ok seed 205 t (by have := dep_le t; omega)
  simp only [wm_bind, wm_ok, entries_ok b, wm_seq, wm_need]
  refine ⟨by omega, rise_ok _ (by omega) _ ⟨fun s => ?_, fun s => ?_⟩⟩
  · simp only [flw_nx, wm_bind, hp, wm_ok, fnw_ret]
    rw [Bool.eq_iff_iff, goodB_iff, heap_TO]
    exact ⟨fun o => ⟨s, o⟩, fun o => o.2⟩
  · simp only [flw_ret, fnw_ret]
    rw [goodB_not s]
end Pf

namespace Pf
open PySem L2 LK Tp NumText
def markN (l r : TT) : Nat := (if l.isNil = true then 0 else 1) + 2 * (if r.isNil = true then 0 else 1)
def nodeT (k a : List Nat) (l r : TT) : List Nat := (48 + markN l r) :: Pk [k, a]
def preT : TT → List (List Nat)
  | .nil => []
  | .node k a l r => nodeT k a l r :: (preT l ++ preT r)
structure KV (p : List Nat × List Nat) : Prop where
  k1 : 1 ≤ p.1.length
  k2 : p.1.length ≤ 40
  v2 : p.2.length ≤ 600
  ka : ASC p.1
  va : ASC p.2
def KVT (t : TT) : Prop := ∀ p ∈ toL t, KV p
theorem KVT.l {k a : List Nat} {l r : TT} (h : KVT (.node k a l r)) : KVT l := fun p hp => h p (List.mem_append_left _ hp)
theorem KVT.r {k a : List Nat} {l r : TT} (h : KVT (.node k a l r)) : KVT r := fun p hp => h p (List.mem_append_right _ (List.mem_cons_of_mem _ hp))
theorem KVT.n {k a : List Nat} {l r : TT} (h : KVT (.node k a l r)) : KV (k, a) := h (k, a) (List.mem_append_right _ List.mem_cons_self)
theorem pk2_asc {k a : List Nat} (h : KV (k, a)) : ASC (Pk [k, a]) := Pk_asc fun p hp => by
  rcases List.mem_cons.mp hp with rfl | hp
  · exact h.ka
  · rw [List.mem_singleton.mp hp]; exact h.va
theorem pk2_len {k a : List Nat} (h : KV (k, a)) : (Pk [k, a]).length ≤ 650 := by
  have h1 : k.length ≤ 40 := h.k2
  have h2 : a.length ≤ 600 := h.v2
  have d1 := dec_le (k := 3) (n := k.length) (by decide) (by omega)
  have d2 := dec_le (k := 3) (n := a.length) (by decide) (by omega)
  rw [Pk_cons, Pk_cons]
  simp only [List.length_append, List.length_cons, show (Pk []).length = 0 from rfl]
  omega
theorem pack2 {k a : List Nat} (h : KV (k, a)) : pack_m [k, a] = M.ok (Pk [k, a]) := pack_ok (pk2_asc h) (by have := pk2_len h; omega)
theorem mark_str (n : Nat) (h : n < 4) : (((n : Int).natAbs.log2 < 1920 ∧ tOk (strI (n : Int))) ∧ strI (n : Int) = [48 + n]) := by
  have := str_need (n := n) (by omega)
  refine ⟨this.1, ?_⟩
  have : n = 0 ∨ n = 1 ∨ n = 2 ∨ n = 3 := by omega
  rcases this with rfl | rfl | rfl | rfl <;> decide +kernel
theorem isNil_iff (t : TT) : t.isNil = true ∨ t.isNil = false := by cases t.isNil <;> simp
theorem gi_f_ok : ∀ (n : Nat) (t : TT) (acc : List (List Nat)), t.dep < n → acc.length + (toL t).length < 1000 → KVT t → gather_image_f n t acc = M.ok (acc ++ preT t)
  | 0, _, _, c, _, _ => by omega
  | n + 1, .nil, acc, _, _, _ => by
    show M.ok acc = M.ok (acc ++ [])
    rw [List.append_nil]
  | n + 1, .node k a l r, acc, c, b, h => by
    have c : max l.dep r.dep + 1 < n + 1 := c
    have e1 : toL (.node k a l r) = toL l ++ (k, a) :: toL r := rfl
    rw [e1] at b
    simp only [List.length_append, List.length_cons] at b
    have hsz : sizeLine = 16777216 := rfl
    have hp := pack2 h.n
    have hpl := pk2_len h.n
    have e2 : preT (.node k a l r) = nodeT k a l r :: (preT l ++ preT r) := rfl
    have pl : ∀ t : TT, (preT t).length = (toL t).length := by
      intro t
      induction t with
      | nil => rfl
      | node k a l r i1 i2 =>
        show (nodeT k a l r :: (preT l ++ preT r)).length = (toL l ++ (k, a) :: toL r).length
        simp only [List.length_cons, List.length_append, i1, i2]
        omega
    have g1 := fun v : List Nat => gi_f_ok n l (acc ++ [v]) (by omega) (by simp only [List.length_append, List.length_cons, List.length_nil]; omega) h.l
    have g2 := fun v : List Nat => gi_f_ok n r (acc ++ [v] ++ preT l) (by omega) (by simp only [List.length_append, List.length_cons, List.length_nil, pl]; omega) h.r
    have hm : markN l r < 4 := by unfold markN; split <;> split <;> omega
    obtain ⟨m1, m2⟩ := mark_str (markN l r) hm
    have hmk : ((if (!l.isNil) = true then (1 : Int) else 0) + 2 * (if (!r.isNil) = true then (1 : Int) else 0)) = ((markN l r : Nat) : Int) := by
      unfold markN
      rcases isNil_iff l with e | e <;> rcases isNil_iff r with e' | e' <;> rw [e, e'] <;> rfl
    show fin (some fun (s : List (List Nat)) => s) (gather_image_b (gather_image_f n) (.node k a l r) acc) = _
    unfold gather_image_b
    refine wm_val (wm_fin ?_)
    have hn : (Tr.node k a l r).isNil = false := rfl
    simp only [hn, trK, trA, trL, trRt, Bool.not_false, if_true, wm_bind, wm_ok, wm_need, hmk]
    refine ⟨.inl (by decide), m1, ?_⟩
    simp only [m2, hp, wm_bind, wm_ok, wm_need, g1, g2, fnw_nx, List.length_cons, List.length_nil]
    refine ⟨by omega, by omega, ?_⟩
    rw [e2]
    simp [nodeT]
theorem preT_len : ∀ t : TT, (preT t).length = (toL t).length := by
  intro t
  induction t with
  | nil => rfl
  | node k a l r i1 i2 =>
    show (nodeT k a l r :: (preT l ++ preT r)).length = (toL l ++ (k, a) :: toL r).length
    simp only [List.length_cons, List.length_append, i1, i2]
    omega
theorem preT_mem : ∀ {t : TT}, KVT t → ∀ x ∈ preT t, ASC x ∧ x.length ≤ 651
  | .nil, _, x, h => nomatch h
  | .node k a l r, hk, x, h => by
    rcases List.mem_cons.mp h with rfl | h
    · have hm : markN l r < 4 := by unfold markN; split <;> split <;> omega
      refine ⟨fun c hc => ?_, ?_⟩
      · rcases List.mem_cons.mp hc with rfl | hc
        · omega
        · exact pk2_asc hk.n c hc
      · have := pk2_len hk.n
        show (Pk [k, a]).length + 1 ≤ 651
        omega
    · rcases List.mem_append.mp h with h | h
      · exact preT_mem hk.l x h
      · exact preT_mem hk.r x h
theorem flat_le {xs : List (List Nat)} {n : Nat} (h : ∀ x ∈ xs, x.length ≤ n) : xs.flatten.length ≤ n * xs.length := by
  induction xs with
  | nil => simp
  | cons x r ih =>
    rw [List.flatten_cons, List.length_append, List.length_cons, Nat.mul_succ]
    have := ih fun y hy => h y (List.mem_cons_of_mem _ hy)
    have := h x List.mem_cons_self
    omega
theorem flat_asc {xs : List (List Nat)} (h : ∀ x ∈ xs, ASC x) : ASC xs.flatten := fun c hc => by
  obtain ⟨x, hx, hc⟩ := List.mem_flatten.mp hc
  exact h x hx c hc
def imgT (t : TT) : List Nat := dec (toL t).length ++ 59 :: (preT t).flatten
theorem preT_fl {t : TT} (h : KVT t) (b : (toL t).length ≤ 200) : (preT t).flatten.length ≤ 130200 ∧ ASC (preT t).flatten := by
  have h1 := flat_le (n := 651) fun x hx => (preT_mem h x hx).2
  rw [preT_len] at h1
  have h2 : 651 * (toL t).length ≤ 651 * 200 := Nat.mul_le_mul_left _ b
  exact ⟨by omega, flat_asc fun x hx => (preT_mem h x hx).1⟩
theorem imgT_asc {t : TT} (h : KVT t) (b : (toL t).length ≤ 200) : ASC (imgT t) ∧ (imgT t).length ≤ 130210 := by
  obtain ⟨h1, h2⟩ := preT_fl h b
  have d1 := dec_le (k := 3) (n := (toL t).length) (by decide) (by omega)
  refine ⟨fun c hc => ?_, ?_⟩
  · rcases List.mem_append.mp hc with z | z
    · exact dec_asc _ c z
    · rcases List.mem_cons.mp z with z | z
      · omega
      · exact h2 c z
  · unfold imgT
    simp only [List.length_append, List.length_cons]
    omega
theorem timg_ok {t : TT} (h : KVT t) (b : (toL t).length ≤ 200) : tree_image_m t = M.ok (imgT t) := by
  have hsz : sizeLine = 16777216 := rfl
  obtain ⟨h1, h2⟩ := preT_fl h b
  have d1 := dec_le (k := 3) (n := (toL t).length) (by decide) (by omega)
  have g : gather_image_m t [] = M.ok ([] ++ preT t) := gi_f_ok 205 t [] (by have := dep_le t; omega) (by simp; omega) h
  obtain ⟨q1, q2⟩ := str_need (n := (toL t).length) (by omega)
  have hj : joinL [] (preT t) = (preT t).flatten := by rw [joinL_eq, inter_nil]
  have hs : ((preT t).map List.length).sum = (preT t).flatten.length := by rw [List.length_flatten]
  unfold tree_image_m tree_image_b
  refine wm_val (wm_fin ?_)
  simp only [wm_bind, wm_ok, g, List.nil_append, wm_need, preT_len, q2, hj, hs, List.length_nil, Nat.mul_zero, Nat.add_zero, List.length_append, List.length_cons, fnw_ret]
  refine ⟨?_, by omega, ⟨by omega, asc_tok h2 (by omega)⟩, by omega, ?_⟩
  · have := q1
    rw [q2] at this
    exact this
  · unfold imgT
    simp
end Pf

namespace Pf
open PySem L2 LK Tp NumText
abbrev Nd := Nat × List Nat × List Nat
def ndI (x : Nd) : Int × List Nat × List Nat := ((x.1 : Int), x.2.1, x.2.2)
def prt (rest : List Nat) : Option (List Nat × List Nat) := match rest.dropWhile (· != 58) with
  | [] => none
  | _ :: q => match nv (rest.takeWhile (· != 58)) with
    | none => none
    | some k => if q.length < k.toNat then none else some (q.take k.toNat, q.drop k.toNat)
theorem tw {m q : List Nat} (h : 58 ∉ m) : (m ++ 58 :: q).takeWhile (· != 58) = m ∧ (m ++ 58 :: q).dropWhile (· != 58) = 58 :: q := by
  have hp : ∀ a ∈ m, (a != 58) = true := fun a ha => by
    rw [bne_iff_ne]
    rintro rfl
    exact h ha
  constructor
  · rw [List.takeWhile_append_of_pos hp]; simp
  · rw [List.dropWhile_append_of_pos hp]; simp
theorem dw {rest : List Nat} (h : 58 ∉ rest) : rest.dropWhile (· != 58) = [] := by
  rw [← List.append_nil rest, List.dropWhile_append_of_pos fun a ha => by
    rw [bne_iff_ne]
    rintro rfl
    exact h ha]
  rfl
theorem prt_no {rest : List Nat} (h : 58 ∉ rest) : prt rest = none := by unfold prt; rw [dw h]
theorem prt_yes {m q : List Nat} (h : 58 ∉ m) : prt (m ++ 58 :: q) = match nv m with
    | none => none
    | some k => if q.length < k.toNat then none else some (q.take k.toNat, q.drop k.toNat) := by
  unfold prt
  rw [(tw h).1, (tw h).2]
theorem prt_enc {p q : List Nat} (h : p.length < 10 ^ 9) : prt (dec p.length ++ 58 :: (p ++ q)) = some (p, q) := by
  rw [prt_yes (dec_no58 _), dec_nv h]
  show (if (p ++ q).length < p.length then none else some ((p ++ q).take p.length, (p ++ q).drop p.length)) = _
  rw [if_neg (by rw [List.length_append]; omega), List.take_left, List.drop_left]
theorem prt_sub {rest p q : List Nat} (h : prt rest = some (p, q)) : (∀ c ∈ p, c ∈ rest) ∧ (∀ c ∈ q, c ∈ rest) := by
  by_cases hc : 58 ∈ rest
  · obtain ⟨m, r, rfl, hm⟩ := List.eq_append_cons_of_mem hc
    rw [prt_yes hm] at h
    cases hv : nv m with
    | none => rw [hv] at h; cases h
    | some k =>
      rw [hv] at h
      have h : (if r.length < k.toNat then none else some (r.take k.toNat, r.drop k.toNat)) = some (p, q) := h
      split at h
      · cases h
      · cases h
        exact ⟨fun c hc => List.mem_append_right _ (List.mem_cons_of_mem _ (List.mem_of_mem_take hc)), fun c hc => List.mem_append_right _ (List.mem_cons_of_mem _ (List.mem_of_mem_drop hc))⟩
  · rw [prt_no hc] at h
    cases h
theorem part_ok {t A rest : List Nat} (ha : ASC t) (ht : t = A ++ rest) : match prt rest with
    | none => read_part_m t (A.length : Int) = M.err .badForm
    | some (p, r2) => ∃ A2, t = A2 ++ r2 ∧ read_part_m t (A.length : Int) = M.ok (p, (A2.length : Int)) := by
  by_cases hc : 58 ∈ rest
  · obtain ⟨m, q, e, hm⟩ := List.eq_append_cons_of_mem hc
    have s : Spl t A rest m q := ⟨by rw [ht, e], e, hm⟩
    have ham : ASC m := fun c hc => ha c (by rw [s.ht]; exact List.mem_append_right _ (List.mem_append_left _ hc))
    have hR : read_part_m t (A.length : Int) = match nv m with
        | none => M.err .badForm
        | some k => if q.length < k.toNat then M.err .badForm else M.ok (q.take k.toNat, ((A ++ (m ++ 58 :: q.take k.toNat)).length : Int)) := by
      unfold read_part_m read_part_b
      rw [M.bind_ok, s.find, if_neg (by rw [decide_eq_true_eq]; omega), M.bind_ok, s.cut, number_nv ham]
      cases hv : nv m with
      | none => rfl
      | some k =>
        have hk0 := nv_nn hv
        have h3 := s.len
        show fin none (if (decide ((t.length : Int) < ((A.length + m.length : Nat) : Int) + 1 + k)) = true then _ else _) = if q.length < k.toNat then _ else _
        by_cases hk : q.length < k.toNat
        · rw [if_pos (by rw [decide_eq_true_eq]; omega), if_pos hk]
          rfl
        · rw [if_neg (by rw [decide_eq_true_eq]; omega), if_neg hk, s.cut2 hk0 (by omega), (s.next hk0 (by omega)).2]
          rfl
    rw [e, prt_yes hm, hR]
    cases hv : nv m with
    | none => rfl
    | some k =>
      have hk0 := nv_nn hv
      by_cases hk : q.length < k.toNat
      · show match (if q.length < k.toNat then none else some (q.take k.toNat, q.drop k.toNat)) with | none => _ | some (p, r2) => _
        rw [if_pos hk]
        show (if q.length < k.toNat then _ else _) = _
        rw [if_pos hk]
      · show match (if q.length < k.toNat then none else some (q.take k.toNat, q.drop k.toNat)) with | none => _ | some (p, r2) => _
        rw [if_neg hk]
        refine ⟨_, (s.next hk0 (by omega)).1, ?_⟩
        show (if q.length < k.toNat then _ else _) = _
        rw [if_neg hk]
  · rw [prt_no hc]
    show read_part_m t (A.length : Int) = _
    unfold read_part_m read_part_b
    rw [find_no ht hc]
    rfl
def mkB (c : Nat) : Bool := decide (48 ≤ c) && decide (c ≤ 51)
def szB (k a : List Nat) : Bool := (decide ((1 : Int) ≤ (k.length : Int)) && decide ((k.length : Int) ≤ (40 : Int))) && !(decide ((600 : Int) < (a.length : Int)))
def prs : Nat → List Nat → Option (List Nd)
  | 0, rest => if rest = [] then some [] else none
  | _ + 1, [] => none
  | n + 1, c :: r => if mkB c = true then match prt r with
      | none => none
      | some (k, r1) => match prt r1 with
        | none => none
        | some (a, r2) => if szB k a = true then (prs n r2).map ((c - 48, k, a) :: ·) else none
    else none
theorem occIn_one (a : List Nat) (c : Nat) : occIn [c] a = true ↔ c ∈ a := by
  unfold occIn
  rw [occ1]
  have e1 : (S [c]).length = 1 := S_len _
  have e2 : (S a).length = a.length := S_len _
  rw [e1, e2]
  have key : (!(((List.range' 0 (a.length + 1 - 0)).find? fun i => decide (i + 1 ≤ a.length) && Builtin.Str.subAt (S a) (S [c]) i).toList.isEmpty)) = ((List.range' 0 (a.length + 1 - 0)).find? fun i => decide (i + 1 ≤ a.length) && Builtin.Str.subAt (S a) (S [c]) i).isSome := by
    cases ((List.range' 0 (a.length + 1 - 0)).find? fun i => decide (i + 1 ≤ a.length) && Builtin.Str.subAt (S a) (S [c]) i) <;> rfl
  rw [key, List.find?_isSome]
  constructor
  · rintro ⟨i, _, h⟩
    rw [Bool.and_eq_true, subAt_one, decide_eq_true_eq, decide_eq_true_eq] at h
    exact List.mem_of_getElem? h.2
  · intro h
    obtain ⟨i, hi, e⟩ := List.getElem_of_mem h
    refine ⟨i, by rw [List.mem_range'_1]; omega, ?_⟩
    rw [Bool.and_eq_true, subAt_one, decide_eq_true_eq, decide_eq_true_eq]
    exact ⟨by omega, by rw [List.getElem?_eq_getElem hi, e]⟩
theorem occ_mark (c : Nat) : occIn [c] ([48, 49, 50, 51] : List Nat) = mkB c := by
  rw [Bool.eq_iff_iff, occIn_one]
  unfold mkB
  rw [Bool.and_eq_true, decide_eq_true_eq, decide_eq_true_eq]
  simp only [List.mem_cons, List.mem_nil_iff, or_false]
  omega
theorem int_mark {c : Nat} (h : mkB c = true) : intS [c] = M.ok (((c - 48 : Nat)) : Int) := by
  unfold mkB at h
  rw [Bool.and_eq_true, decide_eq_true_eq, decide_eq_true_eq] at h
  have hd : AllDigits [c] := fun x hx => by rw [List.mem_singleton.mp hx]; omega
  have := intText_digits (x := S [c]) (by rw [S_cps]; exact hd) (by rw [S_cps]; exact List.cons_ne_nil _ _) (by rw [show (S [c]).length = [c].length from S_len _]; show 1 ≤ _; decide)
  unfold intS
  rw [this, S_cps]
  show (M.ok ((digitsVal [c] : Nat) : Int) : M Int) = _
  have e : digitsVal [c] = c - 48 := by show 0 * 10 + (c - 48) = c - 48; omega
  rw [e]
theorem cut1 {t A rest : List Nat} (ht : t = A ++ rest) : cut t (some (A.length : Int)) (some ((A.length : Int) + 1)) = rest.take 1 := by
  rw [show ((A.length : Int) + 1) = ((A.length + 1 : Nat) : Int) from by omega, cut_nat, ht, List.drop_left, show A.length + 1 - A.length = 1 from by omega]
theorem nodes_ok {t A rest0 : List Nat} (ha : ASC t) (ht : t = A ++ rest0) {cnt : Nat} (hc : cnt ≤ 200) : wm (read_nodes_m t (A.length : Int) (cnt : Int)) (fun ns => ∃ xs, prs cnt rest0 = some xs ∧ ns = xs.map ndI) (fun e => e = .badForm ∧ prs cnt rest0 = none) := by
  have hsz : sizeLine = 16777216 := rfl
  unfold read_nodes_m read_nodes_b
  refine wm_fin ?_
  simp only [wm_bind, wm_ok, wm_seq]
  refine wm_while (fun n (s : Int × List (Int × List Nat × List Nat)) => ∃ A rest xs, t = A ++ rest ∧ s.1 = (A.length : Int) ∧ s.2 = xs.map ndI ∧ xs.length + n = cnt ∧ prs cnt rest0 = (prs n rest).map (xs ++ ·)) ?_ 210 cnt _ ⟨A, rest0, [], ht, rfl, rfl, by simp, by cases prs cnt rest0 <;> rfl⟩ (by omega)
  rintro n ⟨s1, s2⟩ ⟨A, rest, xs, ht, e1, e2, hn, hp⟩
  have e1 : s1 = (A.length : Int) := e1
  have e2 : s2 = xs.map ndI := e2
  subst e1 e2
  rw [wm_ok]
  refine ⟨fun h => ?_, fun h => ?_⟩
  · rw [decide_eq_true_eq, List.length_map] at h
    obtain ⟨m, rfl⟩ : ∃ m, n = m + 1 := ⟨n - 1, by omega⟩
    cases rest with
    | nil =>
      have hN : prs cnt rest0 = none := by rw [hp]; rfl
      simp only [wm_bind, wm_ok, cut1 ht, List.take_nil, decide_true, Bool.true_or, if_true, wm_err]
      exact ⟨trivial, hN⟩
    | cons c r =>
      have ht2 : t = (A ++ [c]) ++ r := by rw [ht]; simp
      have hA2 : ((A ++ [c]).length : Int) = (A.length : Int) + 1 := by simp
      simp only [wm_bind, wm_ok, cut1 ht, List.take_succ_cons, List.take_zero, occ_mark, show decide ([c] = ([] : List Nat)) = false from rfl, Bool.false_or, wm_ite, Bool.not_eq_true']
      have hp : prs cnt rest0 = (if mkB c = true then match prt r with
        | none => none
        | some (k, r1) => match prt r1 with
          | none => none
          | some (a, r2) => if szB k a = true then (prs m r2).map ((c - 48, k, a) :: ·) else none
        else none).map (xs ++ ·) := hp
      refine ⟨fun hm => ?_, fun hm => ?_⟩
      · rw [wm_err, hp, if_neg (by rw [hm]; exact Bool.false_ne_true)]
        exact ⟨rfl, rfl⟩
      · have hm : mkB c = true := by
          cases q : mkB c with
          | true => rfl
          | false => exact absurd q hm
        rw [if_pos hm] at hp
        have p1 := part_ok ha ht2
        rw [hA2] at p1
        cases q1 : prt r with
        | none =>
          rw [q1] at p1 hp
          have p1 : read_part_m t ((A.length : Int) + 1) = M.err .badForm := p1
          simp only [p1, wm_err]
          exact ⟨trivial, hp⟩
        | some z1 =>
          obtain ⟨k, r1⟩ := z1
          rw [q1] at p1 hp
          obtain ⟨A2, ht3, p1⟩ := p1
          have p2 := part_ok ha ht3
          simp only [p1, wm_ok]
          cases q2 : prt r1 with
          | none =>
            rw [q2] at p2
            have hp : prs cnt rest0 = (match prt r1 with
              | none => none
              | some (a, r2) => if szB k a = true then (prs m r2).map ((c - 48, k, a) :: ·) else none).map (xs ++ ·) := hp
            rw [q2] at hp
            have p2 : read_part_m t (A2.length : Int) = M.err .badForm := p2
            simp only [p2, wm_err]
            exact ⟨trivial, hp⟩
          | some z2 =>
            obtain ⟨a, r2⟩ := z2
            have hp : prs cnt rest0 = (match prt r1 with
              | none => none
              | some (a, r2) => if szB k a = true then (prs m r2).map ((c - 48, k, a) :: ·) else none).map (xs ++ ·) := hp
            rw [q2] at p2 hp
            obtain ⟨A3, ht4, p2⟩ := p2
            have hp : prs cnt rest0 = (if szB k a = true then (prs m r2).map ((c - 48, k, a) :: ·) else none).map (xs ++ ·) := hp
            simp only [p2, wm_ok]
            have hsb : ((!((decide ((1 : Int) ≤ (k.length : Int))) && (decide ((k.length : Int) ≤ (40 : Int))))) || (decide ((600 : Int) < (a.length : Int)))) = !szB k a := by
              unfold szB
              cases (decide ((1 : Int) ≤ (k.length : Int)) && decide ((k.length : Int) ≤ (40 : Int))) <;> cases decide ((600 : Int) < (a.length : Int)) <;> rfl
            refine ⟨fun hz => ?_, fun hz => ?_⟩
            · rw [hsb, Bool.not_eq_true'] at hz
              rw [if_neg (by rw [hz]; exact Bool.false_ne_true)] at hp
              rw [wm_err]
              exact ⟨rfl, hp⟩
            · have hz : szB k a = true := by
                cases q : szB k a with
                | true => rfl
                | false => exact absurd (by rw [hsb, q]; rfl) hz
              rw [if_pos hz] at hp
              simp only [wm_bind, wm_need, int_mark hm, wm_ok, trn_nx, List.length_cons, List.length_nil, List.length_map]
              refine ⟨by omega, by omega, m, by omega, A3, r2, xs ++ [(c - 48, k, a)], ht4, rfl, by simp [ndI], by simp; omega, ?_⟩
              rw [hp]
              cases prs m r2 with
              | none => rfl
              | some ys => simp
  · rw [decide_eq_false_iff_not, List.length_map] at h
    have hn0 : n = 0 := by omega
    subst hn0
    simp only [flw_nx, wm_ite, Bool.not_eq_true', decide_eq_false_iff_not]
    have hlen : ((A.length : Int) = (t.length : Int)) ↔ rest = [] := by
      rw [ht, List.length_append]
      constructor
      · intro z; exact List.eq_nil_of_length_eq_zero (by omega)
      · rintro rfl; simp
    refine ⟨fun z => ?_, fun z => ?_⟩
    · rw [wm_err]
      refine ⟨rfl, ?_⟩
      have hr : rest ≠ [] := fun q => z (hlen.mpr q)
      rw [hp]
      unfold prs
      rw [if_neg hr]
      rfl
    · have hr : rest = [] := hlen.mp (Decidable.not_not.mp z)
      rw [wm_ok, fnw_ret]
      refine ⟨xs, ?_, rfl⟩
      rw [hp, hr]
      simp [prs]
def stp (nd : Nd) (st : List TT) : Option (List TT) :=
  if st.length < nd.1 % 2 + nd.1 / 2 then none else
    let p1 : TT × List TT := if nd.1 % 2 = 1 then (st.headD .nil, st.tail) else (.nil, st)
    let p2 : TT × List TT := if nd.1 / 2 = 1 then (p1.2.headD .nil, p1.2.tail) else (.nil, p1.2)
    some (.node nd.2.1 nd.2.2 p1.1 p2.1 :: p2.2)
def bld : List Nd → Option (List TT)
  | [] => some []
  | nd :: rest => (bld rest).bind (stp nd)
def bldT (ns : List Nd) : Option TT := match bld ns with
  | some [] => some .nil
  | some [t] => some t
  | _ => none
theorem bld_none {p l : List Nd} (h : bld l = none) : bld (p ++ l) = none := by
  induction p with
  | nil => exact h
  | cons x r ih =>
    show (bld (r ++ l)).bind _ = none
    rw [ih]
    rfl
theorem pop_rev (x : TT) (st : List TT) : popL (x :: st).reverse = M.ok (x, st.reverse) := by
  unfold popL
  rw [List.reverse_cons, List.length_append, List.length_singleton, Nat.add_sub_cancel, List.getElem?_append_right (Nat.le_refl _)]
  simp
theorem stp0 (k v : List Nat) (st : List TT) : stp (0, k, v) st = some (.node k v .nil .nil :: st) := by unfold stp; rw [if_neg (by simp)]; simp
theorem stp1 (k v : List Nat) (x : TT) (st : List TT) : stp (1, k, v) (x :: st) = some (.node k v x .nil :: st) := by unfold stp; rw [if_neg (by simp)]; simp
theorem stp2 (k v : List Nat) (x : TT) (st : List TT) : stp (2, k, v) (x :: st) = some (.node k v .nil x :: st) := by unfold stp; rw [if_neg (by simp)]; simp
theorem stp3 (k v : List Nat) (x y : TT) (st : List TT) : stp (3, k, v) (x :: y :: st) = some (.node k v x y :: st) := by unfold stp; rw [if_neg (by simp)]; simp
theorem tree_ok {ns : List Nd} (hl : ns.length ≤ 200) (hm : ∀ x ∈ ns, x.1 < 4) : wm (tree_of_nodes_m (ns.map ndI)) (fun t => bldT ns = some t) (fun e => e = .badForm ∧ bldT ns = none) := by
  have hsz : sizeLine = 16777216 := rfl
  unfold tree_of_nodes_m tree_of_nodes_b
  refine wm_fin ?_
  simp only [wm_bind, wm_ok, wm_seq]
  refine wm_for (ψ := fun e : Er => e = Er.badForm ∧ bldT ns = none) (fun j (s : List TT) => ∃ st, bld (ns.drop (ns.length - j)) = some st ∧ s = st.reverse ∧ st.length ≤ j) (fun s => ∃ st, bld ns = some st ∧ s = st.reverse) (fun _ => False) _ 0 _ ⟨[], by rw [Nat.sub_zero, List.drop_length]; rfl, rfl, Nat.le_refl _⟩ ?_ ?_ ?_ (fun _ z => z.elim)
  · rintro j s a haj _ hj ⟨st, hb, rfl, hsl⟩
    rw [List.length_reverse, List.length_map, Nat.zero_add] at hj
    rw [Nat.sub_zero, List.getElem?_reverse (by rw [List.length_map]; exact hj), List.length_map, List.getElem?_map] at haj
    obtain ⟨nd, hnd, rfl⟩ := Option.map_eq_some_iff.mp haj
    have hi : ns.length - 1 - j < ns.length := by omega
    have hdrop : ns.drop (ns.length - (j + 1)) = nd :: ns.drop (ns.length - j) := by
      have e := List.drop_eq_getElem_cons (l := ns) (i := ns.length - 1 - j) hi
      rw [List.getElem?_eq_getElem hi] at hnd
      rw [Option.some.inj hnd] at e
      rw [show ns.length - (j + 1) = ns.length - 1 - j from by omega, e, show ns.length - 1 - j + 1 = ns.length - j from by omega]
    have hstep : bld (ns.drop (ns.length - (j + 1))) = stp nd st := by rw [hdrop]; show (bld _).bind _ = _; rw [hb]; rfl
    have hm4 : nd.1 < 4 := hm nd (List.mem_of_getElem? hnd)
    obtain ⟨m, k, v⟩ := nd
    have hm4 : m < 4 := hm4
    have hf : stp (m, k, v) st = none → bldT ns = none := fun z => by
      have : bld ns = none := by
        rw [← List.take_append_drop (ns.length - (j + 1)) ns]
        exact bld_none (hstep.trans z)
      unfold bldT
      rw [this]
    have hcase : m = 0 ∨ m = 1 ∨ m = 2 ∨ m = 3 := by omega
    simp only [ndI, wm_bind, wm_ok, wm_ite, wm_err, List.length_reverse, decide_eq_true_eq]
    rcases hcase with rfl | rfl | rfl | rfl
    · refine ⟨fun z => absurd z (by simp), fun _ => ?_⟩
      simp only [decide_eq_true_eq, wm_seq, wm_ite, wm_bind, wm_ok, flw_nx, show ((0 : Nat) : Int) % 2 = 1 ↔ False from by simp, show ((0 : Nat) : Int) / 2 = 1 ↔ False from by simp, false_implies, not_false_eq_true, true_implies, true_and, wm_need, trn_nx, List.length_reverse]
      refine ⟨by omega, Tr.node k v .nil .nil :: st, hstep.trans (stp0 k v st), by simp [trN], by simp; omega⟩
    · refine ⟨fun z => ⟨trivial, hf (if_pos (by first | (show st.length < 1 % 2 + 1 / 2; omega) | (show st.length < 2 % 2 + 2 / 2; omega) | (show st.length < 3 % 2 + 3 / 2; omega)))⟩, fun z => ?_⟩
      have z : ¬ st.length < 1 := fun q => z (by omega)
      cases st with
      | nil => simp at z
      | cons x st =>
        simp only [decide_eq_true_eq, wm_seq, wm_ite, wm_bind, wm_ok, flw_nx, pop_rev, show ((1 : Nat) : Int) % 2 = 1 ↔ True from by simp, show ((1 : Nat) : Int) / 2 = 1 ↔ False from by simp, false_implies, not_false_eq_true, not_true_eq_false, true_implies, true_and, and_true, wm_need, trn_nx, List.length_reverse]
        simp only [List.length_cons] at hsl
        refine ⟨by omega, Tr.node k v x .nil :: st, hstep.trans (stp1 k v x st), by simp [trN], by simp; omega⟩
    · refine ⟨fun z => ⟨trivial, hf (if_pos (by first | (show st.length < 1 % 2 + 1 / 2; omega) | (show st.length < 2 % 2 + 2 / 2; omega) | (show st.length < 3 % 2 + 3 / 2; omega)))⟩, fun z => ?_⟩
      have z : ¬ st.length < 1 := fun q => z (by omega)
      cases st with
      | nil => simp at z
      | cons x st =>
        simp only [decide_eq_true_eq, wm_seq, wm_ite, wm_bind, wm_ok, flw_nx, pop_rev, show ((2 : Nat) : Int) % 2 = 1 ↔ False from by simp, show ((2 : Nat) : Int) / 2 = 1 ↔ True from by simp, false_implies, not_false_eq_true, not_true_eq_false, true_implies, true_and, and_true, wm_need, trn_nx, List.length_reverse]
        simp only [List.length_cons] at hsl
        refine ⟨by omega, Tr.node k v .nil x :: st, hstep.trans (stp2 k v x st), by simp [trN], by simp; omega⟩
    · refine ⟨fun z => ⟨trivial, hf (if_pos (by first | (show st.length < 1 % 2 + 1 / 2; omega) | (show st.length < 2 % 2 + 2 / 2; omega) | (show st.length < 3 % 2 + 3 / 2; omega)))⟩, fun z => ?_⟩
      have z : ¬ st.length < 2 := fun q => z (by omega)
      match st, hb, hsl, z, hstep with
      | [], _, _, z, _ => simp at z
      | [_], _, _, z, _ => simp at z
      | x :: y :: st, hb, hsl, z, hstep =>
        simp only [decide_eq_true_eq, wm_seq, wm_ite, wm_bind, wm_ok, flw_nx, pop_rev, show ((3 : Nat) : Int) % 2 = 1 ↔ True from by simp, show ((3 : Nat) : Int) / 2 = 1 ↔ True from by simp, false_implies, not_false_eq_true, not_true_eq_false, true_implies, true_and, and_true, wm_need, trn_nx, List.length_reverse]
        simp only [List.length_cons] at hsl
        refine ⟨by omega, Tr.node k v x y :: st, hstep.trans (stp3 k v x y st), by simp [trN], by simp; omega⟩
  · rintro y ⟨st, hb, e, _⟩
    rw [List.length_reverse, List.length_map, Nat.zero_add, Nat.sub_self, List.drop_zero] at hb
    exact ⟨st, hb, e⟩
  · rintro y ⟨st, hb, rfl⟩
    simp only [flw_nx, wm_ite, wm_err, wm_bind, wm_ok, List.length_reverse, decide_eq_true_eq, fnw_ret]
    unfold bldT
    rw [hb]
    match st with
    | [] => exact ⟨fun z => absurd z (by simp), fun _ => ⟨fun _ => rfl, fun z => absurd (by simp) z⟩⟩
    | [t] =>
      refine ⟨fun z => absurd z (by simp), fun _ => ⟨fun z => absurd z (by simp), fun _ => ?_⟩⟩
      have : at_ [t].reverse (0 : Int) = M.ok t := at_nat (i := 0) rfl
      rw [this, wm_ok]
    | t :: u :: r => exact ⟨fun _ => ⟨trivial, rfl⟩, fun z => absurd (by simp; omega) z⟩
end Pf

namespace Pf
open PySem L2 LK Tp NumText
theorem szB_kv {k a : List Nat} (h : szB k a = true) (hk : ASC k) (ha : ASC a) : KV (k, a) := by
  unfold szB at h
  rw [Bool.and_eq_true, Bool.and_eq_true, decide_eq_true_eq, decide_eq_true_eq, Bool.not_eq_true', decide_eq_false_iff_not] at h
  obtain ⟨⟨h1, h2⟩, h3⟩ := h
  exact ⟨by show 1 ≤ k.length; omega, by show k.length ≤ 40; omega, by show a.length ≤ 600; omega, hk, ha⟩
theorem kv_szB {k a : List Nat} (h : KV (k, a)) : szB k a = true := by
  have h1 : 1 ≤ k.length := h.k1
  have h2 : k.length ≤ 40 := h.k2
  have h3 : a.length ≤ 600 := h.v2
  unfold szB
  rw [decide_eq_true (by omega), decide_eq_true (by omega), decide_eq_false (by omega)]
  rfl
theorem prs_inv : ∀ (n : Nat) (rest : List Nat) (ns : List Nd), ASC rest → prs n rest = some ns → ns.length = n ∧ ∀ x ∈ ns, x.1 < 4 ∧ KV x.2
  | 0, rest, ns, _, h => by
    unfold prs at h
    split at h
    · cases h; exact ⟨rfl, fun x hx => nomatch hx⟩
    · cases h
  | n + 1, [], ns, _, h => by cases h
  | n + 1, c :: r, ns, ha, h => by
    have h : (if mkB c = true then match prt r with
        | none => none
        | some (k, r1) => match prt r1 with
          | none => none
          | some (a, r2) => if szB k a = true then (prs n r2).map ((c - 48, k, a) :: ·) else none
        else none) = some ns := h
    split at h
    · rename_i hm
      have har : ASC r := fun x hx => ha x (List.mem_cons_of_mem _ hx)
      cases q1 : prt r with
      | none => rw [q1] at h; cases h
      | some z1 =>
        obtain ⟨k, r1⟩ := z1
        obtain ⟨s1, s2⟩ := prt_sub q1
        rw [q1] at h
        have h : (match prt r1 with
          | none => none
          | some (a, r2) => if szB k a = true then (prs n r2).map ((c - 48, k, a) :: ·) else none) = some ns := h
        cases q2 : prt r1 with
        | none => rw [q2] at h; cases h
        | some z2 =>
          obtain ⟨a, r2⟩ := z2
          obtain ⟨s3, s4⟩ := prt_sub q2
          rw [q2] at h
          have h : (if szB k a = true then (prs n r2).map ((c - 48, k, a) :: ·) else none) = some ns := h
          split at h
          · rename_i hz
            cases q3 : prs n r2 with
            | none => rw [q3] at h; cases h
            | some ys =>
              rw [q3] at h
              cases h
              obtain ⟨i1, i2⟩ := prs_inv n r2 ys (fun x hx => har x (s2 x (s4 x hx))) q3
              refine ⟨by rw [List.length_cons, i1], fun x hx => ?_⟩
              rcases List.mem_cons.mp hx with rfl | hx
              · refine ⟨?_, szB_kv hz (fun x hx => har x (s1 x hx)) (fun x hx => har x (s2 x (s3 x hx)))⟩
                unfold mkB at hm
                rw [Bool.and_eq_true, decide_eq_true_eq, decide_eq_true_eq] at hm
                show c - 48 < 4
                omega
              · exact i2 x hx
          · cases h
    · cases h
theorem kvt_node {k a : List Nat} {l r : TT} (h : KV (k, a)) (hl : KVT l) (hr : KVT r) : KVT (.node k a l r) := fun p hp => by
  rcases List.mem_append.mp hp with hp | hp
  · exact hl p hp
  · rcases List.mem_cons.mp hp with rfl | hp
    · exact h
    · exact hr p hp
theorem kvt_nil : KVT .nil := fun p hp => nomatch hp
theorem stp1n (k v : List Nat) : stp (1, k, v) [] = none := by unfold stp; rw [if_pos (by simp)]
theorem stp2n (k v : List Nat) : stp (2, k, v) [] = none := by unfold stp; rw [if_pos (by simp)]
theorem stp3n (k v : List Nat) : stp (3, k, v) [] = none := by unfold stp; rw [if_pos (by simp)]
theorem stp3m (k v : List Nat) (x : TT) : stp (3, k, v) [x] = none := by unfold stp; rw [if_pos (by simp)]
theorem bld_inv : ∀ (ns : List Nd) (st : List TT), (∀ x ∈ ns, x.1 < 4 ∧ KV x.2) → bld ns = some st → (∀ t ∈ st, KVT t) ∧ (st.map fun t => (toL t).length).sum = ns.length
  | [], st, _, h => by cases h; exact ⟨(fun t ht => nomatch ht), rfl⟩
  | nd :: rest, st, hx, h => by
    have h : (bld rest).bind (stp nd) = some st := h
    cases q : bld rest with
    | none => rw [q] at h; cases h
    | some s1 =>
      obtain ⟨i1, i2⟩ := bld_inv rest s1 (fun x hx' => hx x (List.mem_cons_of_mem _ hx')) q
      rw [q] at h
      have h : stp nd s1 = some st := h
      obtain ⟨m, k, v⟩ := nd
      obtain ⟨h4, hkv⟩ := hx (m, k, v) List.mem_cons_self
      have h4 : m < 4 := h4
      have hkv : KV (k, v) := hkv
      have nl : ∀ l r : TT, (toL (.node k v l r)).length = (toL l).length + (toL r).length + 1 := fun l r => by
        show (toL l ++ (k, v) :: toL r).length = _
        simp only [List.length_append, List.length_cons]
        omega
      have hcase : m = 0 ∨ m = 1 ∨ m = 2 ∨ m = 3 := by omega
      rcases hcase with rfl | rfl | rfl | rfl
      · rw [stp0] at h
        cases h
        refine ⟨fun t ht => ?_, ?_⟩
        · rcases List.mem_cons.mp ht with rfl | ht
          · exact kvt_node hkv kvt_nil kvt_nil
          · exact i1 t ht
        · rw [List.map_cons, List.sum_cons, nl, i2, List.length_cons]
          show 0 + 0 + 1 + _ = _
          omega
      · cases s1 with
        | nil => rw [stp1n] at h; cases h
        | cons x s1 =>
          rw [stp1] at h
          cases h
          rw [List.map_cons, List.sum_cons] at i2
          refine ⟨fun t ht => ?_, ?_⟩
          · rcases List.mem_cons.mp ht with rfl | ht
            · exact kvt_node hkv (i1 x List.mem_cons_self) kvt_nil
            · exact i1 t (List.mem_cons_of_mem _ ht)
          · rw [List.map_cons, List.sum_cons, nl, List.length_cons]
            show (toL x).length + 0 + 1 + _ = _
            omega
      · cases s1 with
        | nil => rw [stp2n] at h; cases h
        | cons x s1 =>
          rw [stp2] at h
          cases h
          rw [List.map_cons, List.sum_cons] at i2
          refine ⟨fun t ht => ?_, ?_⟩
          · rcases List.mem_cons.mp ht with rfl | ht
            · exact kvt_node hkv kvt_nil (i1 x List.mem_cons_self)
            · exact i1 t (List.mem_cons_of_mem _ ht)
          · rw [List.map_cons, List.sum_cons, nl, List.length_cons]
            show 0 + (toL x).length + 1 + _ = _
            omega
      · match s1, h, i1, i2 with
        | [], h, _, _ => rw [stp3n] at h; cases h
        | [_], h, _, _ => rw [stp3m] at h; cases h
        | x :: y :: s1, h, i1, i2 =>
          rw [stp3] at h
          cases h
          rw [List.map_cons, List.map_cons, List.sum_cons, List.sum_cons] at i2
          refine ⟨fun t ht => ?_, ?_⟩
          · rcases List.mem_cons.mp ht with rfl | ht
            · exact kvt_node hkv (i1 x List.mem_cons_self) (i1 y (List.mem_cons_of_mem _ List.mem_cons_self))
            · exact i1 t (List.mem_cons_of_mem _ (List.mem_cons_of_mem _ ht))
          · rw [List.map_cons, List.sum_cons, nl, List.length_cons]
            omega
theorem bldT_inv {ns : List Nd} {t : TT} (hx : ∀ x ∈ ns, x.1 < 4 ∧ KV x.2) (h : bldT ns = some t) : KVT t ∧ (toL t).length = ns.length := by
  unfold bldT at h
  cases q : bld ns with
  | none => rw [q] at h; cases h
  | some st =>
    obtain ⟨i1, i2⟩ := bld_inv ns st hx q
    rw [q] at h
    match st, h, i1, i2 with
    | [], h, i1, i2 => cases h; exact ⟨kvt_nil, i2⟩
    | [u], h, i1, i2 => cases h; exact ⟨i1 _ List.mem_cons_self, by simpa using i2⟩
    | _ :: _ :: _, h, _, _ => cases h
def nodesT : TT → List Nd
  | .nil => []
  | .node k a l r => (markN l r, k, a) :: (nodesT l ++ nodesT r)
def pushT : TT → List TT → List TT
  | .nil, st => st
  | t, st => t :: st
theorem stp_push (k a : List Nat) (l r : TT) (st : List TT) : stp (markN l r, k, a) (pushT l (pushT r st)) = some (.node k a l r :: st) := by
  cases l with
  | nil =>
    cases r with
    | nil => exact stp0 k a st
    | node k2 a2 l2 r2 => exact stp2 k a _ st
  | node k1 a1 l1 r1 =>
    cases r with
    | nil => exact stp1 k a _ st
    | node k2 a2 l2 r2 => exact stp3 k a _ _ st
theorem bld_nodes : ∀ (t : TT) (rest : List Nd), bld (nodesT t ++ rest) = (bld rest).map (pushT t)
  | .nil, rest => by
    show bld rest = (bld rest).map (fun st => st)
    cases bld rest <;> rfl
  | .node k a l r, rest => by
    show (bld (nodesT l ++ nodesT r ++ rest)).bind (stp (markN l r, k, a)) = _
    rw [List.append_assoc, bld_nodes l, bld_nodes r]
    cases bld rest with
    | none => rfl
    | some st => exact stp_push k a l r st
theorem bldT_nodes (t : TT) : bldT (nodesT t) = some t := by
  have h := bld_nodes t []
  rw [List.append_nil] at h
  unfold bldT
  rw [h]
  cases t <;> rfl
theorem nodes_len : ∀ t : TT, (nodesT t).length = (toL t).length := by
  intro t
  induction t with
  | nil => rfl
  | node k a l r i1 i2 =>
    show ((markN l r, k, a) :: (nodesT l ++ nodesT r)).length = (toL l ++ (k, a) :: toL r).length
    simp only [List.length_cons, List.length_append, i1, i2]
    omega
def encN (x : Nd) : List Nat := (48 + x.1) :: Pk [x.2.1, x.2.2]
theorem pre_nodes : ∀ t : TT, preT t = (nodesT t).map encN
  | .nil => rfl
  | .node k a l r => by
    show nodeT k a l r :: (preT l ++ preT r) = encN (markN l r, k, a) :: (nodesT l ++ nodesT r).map encN
    rw [pre_nodes l, pre_nodes r, List.map_append]
    rfl
theorem nodes_kv : ∀ {t : TT}, KVT t → ∀ x ∈ nodesT t, x.1 < 4 ∧ KV x.2
  | .nil, _, x, h => nomatch h
  | .node k a l r, hk, x, h => by
    rcases List.mem_cons.mp h with rfl | h
    · refine ⟨?_, hk.n⟩
      show markN l r < 4
      unfold markN; split <;> split <;> omega
    · rcases List.mem_append.mp h with h | h
      · exact nodes_kv hk.l x h
      · exact nodes_kv hk.r x h
theorem prs_enc : ∀ (ns : List Nd), (∀ x ∈ ns, x.1 < 4 ∧ KV x.2) → prs ns.length (ns.map encN).flatten = some ns
  | [], _ => rfl
  | (m, k, a) :: ns, h => by
    obtain ⟨h4, hkv⟩ := h (m, k, a) List.mem_cons_self
    have h4 : m < 4 := h4
    have hkv : KV (k, a) := hkv
    have h1 : k.length ≤ 40 := hkv.k2
    have h2 : a.length ≤ 600 := hkv.v2
    have e : (((m, k, a) :: ns).map encN).flatten = (48 + m) :: (dec k.length ++ 58 :: (k ++ (dec a.length ++ 58 :: (a ++ (ns.map encN).flatten)))) := by
      rw [List.map_cons, List.flatten_cons]
      unfold encN
      rw [Pk_cons, Pk_cons]
      simp [Pk]
    rw [e]
    have hm : mkB (48 + m) = true := by unfold mkB; rw [decide_eq_true (by omega), decide_eq_true (by omega)]; rfl
    show (if mkB (48 + m) = true then match prt (dec k.length ++ 58 :: (k ++ (dec a.length ++ 58 :: (a ++ (ns.map encN).flatten)))) with
        | none => none
        | some (k, r1) => match prt r1 with
          | none => none
          | some (a, r2) => if szB k a = true then (prs ns.length r2).map ((48 + m - 48, k, a) :: ·) else none
        else none) = _
    rw [if_pos hm, prt_enc (by omega)]
    show (match prt (dec a.length ++ 58 :: (a ++ (ns.map encN).flatten)) with
          | none => none
          | some (a, r2) => if szB k a = true then (prs ns.length r2).map ((48 + m - 48, k, a) :: ·) else none) = _
    rw [prt_enc (by omega)]
    show (if szB k a = true then (prs ns.length (ns.map encN).flatten).map ((48 + m - 48, k, a) :: ·) else none) = _
    rw [if_pos (kv_szB hkv), prs_enc ns fun x hx => h x (List.mem_cons_of_mem _ hx), Nat.add_sub_cancel_left]
    rfl
def rdI (t : List Nat) : Option TT := match t.dropWhile (· != 59) with
  | [] => none
  | _ :: q => match nv (t.takeWhile (· != 59)) with
    | none => none
    | some k => if 200 < k then none else (prs k.toNat q).bind bldT
theorem tw59 {m q : List Nat} (h : 59 ∉ m) : (m ++ 59 :: q).takeWhile (· != 59) = m ∧ (m ++ 59 :: q).dropWhile (· != 59) = 59 :: q := by
  have hp : ∀ a ∈ m, (a != 59) = true := fun a ha => by
    rw [bne_iff_ne]
    rintro rfl
    exact h ha
  constructor
  · rw [List.takeWhile_append_of_pos hp]; simp
  · rw [List.dropWhile_append_of_pos hp]; simp
theorem dw59 {rest : List Nat} (h : 59 ∉ rest) : rest.dropWhile (· != 59) = [] := by
  rw [← List.append_nil rest, List.dropWhile_append_of_pos fun a ha => by
    rw [bne_iff_ne]
    rintro rfl
    exact h ha]
  rfl
theorem rdI_no {t : List Nat} (h : 59 ∉ t) : rdI t = none := by unfold rdI; rw [dw59 h]
theorem rdI_yes {m q : List Nat} (h : 59 ∉ m) : rdI (m ++ 59 :: q) = match nv m with
    | none => none
    | some k => if 200 < k then none else (prs k.toNat q).bind bldT := by
  unfold rdI
  rw [(tw59 h).1, (tw59 h).2]
theorem find59 {m q : List Nat} (h : 59 ∉ m) : Txt.find (S (m ++ 59 :: q)) (S [59]) = (m.length : Int) := by
  have e : Txt.find (S (m ++ 59 :: q)) (S [59]) = Txt.find3 (S (m ++ 59 :: q)) (S [59]) ((0 : Nat) : Int) := rfl
  rw [e, find3_hit (m := m) (r := q) rfl h, Nat.zero_add]
theorem find59_no {t : List Nat} (h : 59 ∉ t) : Txt.find (S t) (S [59]) = -1 := by
  have e : Txt.find (S t) (S [59]) = Txt.find3 (S t) (S [59]) ((0 : Nat) : Int) := rfl
  rw [e, find3_one]
  have : posC t 59 0 = none := by
    unfold posC
    rw [List.find?_eq_none]
    intro k hk
    simp only [decide_eq_true_eq]
    intro z
    exact h (List.mem_of_getElem? z)
  rw [this]
theorem tfi_ok {seed : Int} {t : List Nat} (ha : ASC t) : wm (tree_from_image_m seed t) (fun tr => rdI t = some tr ∧ Srt (toL tr) ∧ TO (hg seed) tr) (fun e => e = .badForm ∧ ∀ tr, rdI t = some tr → ¬ (Srt (toL tr) ∧ TO (hg seed) tr)) := by
  unfold tree_from_image_m tree_from_image_b
  refine wm_fin ?_
  by_cases hc : 59 ∈ t
  · obtain ⟨m, q, rfl, hm⟩ := List.eq_append_cons_of_mem hc
    have ham : ASC m := fun c hc => ha c (List.mem_append_left _ hc)
    have haq : ASC q := fun c hc => ha c (List.mem_append_right _ (List.mem_cons_of_mem _ hc))
    have ecut : cut (m ++ 59 :: q) none (some (m.length : Int)) = m := by rw [cut_to, List.take_left]
    rw [rdI_yes hm]
    simp only [wm_bind, wm_ok, find59 hm, wm_ite, decide_eq_true_eq, ecut, number_nv ham]
    refine ⟨fun z => by omega, fun _ => ?_⟩
    cases hv : nv m with
    | none =>
      rw [wm_err]
      exact ⟨rfl, fun tr z => nomatch z⟩
    | some k =>
      have hk0 := nv_nn hv
      rw [wm_ok]
      dsimp only
      refine ⟨fun z => ?_, fun z => ?_⟩
      · rw [wm_err, if_pos z]
        exact ⟨rfl, fun tr z => nomatch z⟩
      · rw [if_neg z]
        obtain ⟨c, rfl⟩ : ∃ c : Nat, k = (c : Int) := ⟨k.toNat, by omega⟩
        have hn := nodes_ok ha (t := m ++ 59 :: q) (A := m ++ [59]) (rest0 := q) (by simp) (cnt := c) (by omega)
        have hA : (((m ++ [59] : List Nat).length : Nat) : Int) = (m.length : Int) + 1 := by simp
        rw [hA] at hn
        have hC : ((c : Nat) : Int).toNat = c := rfl
        rw [hC]
        refine wm_mono hn (fun ns hns => ?_) (fun e he => ⟨he.1, fun tr z => by rw [he.2] at z; cases z⟩)
        obtain ⟨xs, hp, rfl⟩ := hns
        obtain ⟨i1, i2⟩ := prs_inv c q xs haq hp
        rw [hp]
        show wm _ _ _
        refine wm_mono (tree_ok (ns := xs) (by omega) fun x hx => (i2 x hx).1) (fun tr htr => ?_) (fun e he => ⟨he.1, fun tr z => by
          have z : bldT xs = some tr := z
          rw [he.2] at z; cases z⟩)
        obtain ⟨b1, b2⟩ := bldT_inv i2 htr
        have hb : (some xs).bind bldT = some tr := htr
        rw [shaped_ok (by omega), wm_ok]
        refine ⟨fun z => ?_, fun z => ?_⟩
        · rw [wm_err]
          refine ⟨rfl, fun tr' z' => ?_⟩
          rw [hb] at z'
          cases z'
          intro g
          rw [goodB_iff.mpr g] at z
          cases z
        · rw [fnw_ret]
          refine ⟨hb, goodB_iff.mp ?_⟩
          cases q : goodB seed tr with
          | true => rfl
          | false => exact absurd (by rw [q]; rfl) z
  · rw [rdI_no hc, find59_no hc]
    simp only [wm_bind, wm_ok, wm_ite, decide_eq_true_eq, wm_err]
    exact ⟨fun _ => ⟨trivial, fun tr z => nomatch z⟩, fun z => absurd (by decide) z⟩
theorem rdI_kv {t : List Nat} {tr : TT} (ha : ASC t) (h : rdI t = some tr) : KVT tr ∧ (toL tr).length ≤ 200 := by
  by_cases hc : 59 ∈ t
  · obtain ⟨m, q, rfl, hm⟩ := List.eq_append_cons_of_mem hc
    have haq : ASC q := fun c hc => ha c (List.mem_append_right _ (List.mem_cons_of_mem _ hc))
    rw [rdI_yes hm] at h
    cases hv : nv m with
    | none => rw [hv] at h; cases h
    | some k =>
      rw [hv] at h
      have h : (if 200 < k then none else (prs k.toNat q).bind bldT) = some tr := h
      split at h
      · cases h
      · cases hp : prs k.toNat q with
        | none => rw [hp] at h; cases h
        | some xs =>
          rw [hp] at h
          have h : bldT xs = some tr := h
          obtain ⟨i1, i2⟩ := prs_inv _ q xs haq hp
          obtain ⟨b1, b2⟩ := bldT_inv i2 h
          exact ⟨b1, by omega⟩
  · rw [rdI_no hc] at h; cases h
theorem dec_no59 (n : Nat) : 59 ∉ dec n := fun h => by have := dec_all n 59 h; omega
theorem rdI_img {t : TT} (h : KVT t) (b : (toL t).length ≤ 200) : rdI (imgT t) = some t := by
  unfold imgT
  rw [rdI_yes (dec_no59 _), dec_nv (by omega)]
  show (if (200 : Int) < ((toL t).length : Int) then none else (prs (toL t).length (preT t).flatten).bind bldT) = _
  rw [if_neg (by omega), pre_nodes, ← nodes_len, prs_enc _ (nodes_kv h)]
  exact bldT_nodes t
theorem tfi_img {seed : Int} {t : TT} (h : KVT t) (b : (toL t).length ≤ 200) (s : Srt (toL t)) (o : TO (hg seed) t) : tree_from_image_m seed (imgT t) = M.ok t := by
  have hr := rdI_img h b
  refine wm_val (wm_mono (tfi_ok (seed := seed) (imgT_asc h b).1) (fun tr htr => ?_) fun e he => he.2 t hr ⟨s, o⟩)
  rw [hr] at htr
  exact (Option.some.inj htr.1).symm
end Pf

namespace Pf
open PySem L2 LK Tp NumText
theorem prt_inv {rest p q : List Nat} (h : prt rest = some (p, q)) : rest = dec p.length ++ 58 :: (p ++ q) := by
  by_cases hc : 58 ∈ rest
  · obtain ⟨m, r, rfl, hm⟩ := List.eq_append_cons_of_mem hc
    rw [prt_yes hm] at h
    cases hv : nv m with
    | none => rw [hv] at h; cases h
    | some k =>
      rw [hv] at h
      have h : (if r.length < k.toNat then none else some (r.take k.toNat, r.drop k.toNat)) = some (p, q) := h
      split at h
      · cases h
      · rename_i hl
        cases h
        obtain ⟨e, _, _⟩ := nv_dec hv
        have hp : (r.take k.toNat).length = k.toNat := by rw [List.length_take]; omega
        rw [hp, ← e, List.take_append_drop]
  · rw [prt_no hc] at h
    cases h
theorem prs_back : ∀ (n : Nat) (rest : List Nat) (ns : List Nd), prs n rest = some ns → rest = (ns.map encN).flatten
  | 0, rest, ns, h => by
    unfold prs at h
    split at h
    · rename_i e
      cases h
      exact e
    · cases h
  | n + 1, [], ns, h => by cases h
  | n + 1, c :: r, ns, h => by
    unfold prs at h
    split at h
    · rename_i hm
      split at h
      · cases h
      · rename_i k r1 e1
        split at h
        · cases h
        · rename_i a r2 e2
          split at h
          · cases hp : prs n r2 with
            | none => rw [hp] at h; cases h
            | some ns' =>
              rw [hp] at h
              have h : some ((c - 48, k, a) :: ns') = some ns := h
              cases h
              have ih := prs_back n r2 ns' hp
              unfold mkB at hm
              rw [Bool.and_eq_true, decide_eq_true_eq, decide_eq_true_eq] at hm
              rw [List.map_cons, List.flatten_cons, ← ih, prt_inv e1, prt_inv e2]
              unfold encN
              rw [Pk_cons, Pk_cons]
              have : 48 + (c - 48) = c := by omega
              simp only [this]
              simp [Pk]
          · cases h
    · cases h
theorem stp_inv {m : Nat} {k v : List Nat} {st st' : List TT} (hm : m < 4) (hn : ∀ t ∈ st, t.isNil = false) (h : stp (m, k, v) st = some st') : ∃ l r s2, st' = .node k v l r :: s2 ∧ st.flatMap nodesT = nodesT l ++ (nodesT r ++ s2.flatMap nodesT) ∧ m = markN l r ∧ ∀ t ∈ s2, t.isNil = false := by
  have hm4 : m = 0 ∨ m = 1 ∨ m = 2 ∨ m = 3 := by omega
  rcases hm4 with rfl | rfl | rfl | rfl
  · rw [stp0] at h
    exact ⟨.nil, .nil, st, (Option.some.inj h).symm, rfl, rfl, hn⟩
  · cases st with
    | nil => rw [stp1n] at h; cases h
    | cons x s =>
      rw [stp1] at h
      have hx := hn x List.mem_cons_self
      refine ⟨x, .nil, s, (Option.some.inj h).symm, rfl, ?_, fun t ht => hn t (List.mem_cons_of_mem _ ht)⟩
      unfold markN
      rw [hx]
      rfl
  · cases st with
    | nil => rw [stp2n] at h; cases h
    | cons x s =>
      rw [stp2] at h
      have hx := hn x List.mem_cons_self
      refine ⟨.nil, x, s, (Option.some.inj h).symm, rfl, ?_, fun t ht => hn t (List.mem_cons_of_mem _ ht)⟩
      unfold markN
      rw [hx]
      rfl
  · match st, hn, h with
    | [], _, h => rw [stp3n] at h; cases h
    | [x], _, h => rw [stp3m] at h; cases h
    | x :: y :: s, hn, h =>
      rw [stp3] at h
      have hx := hn x List.mem_cons_self
      have hy := hn y (List.mem_cons_of_mem _ List.mem_cons_self)
      refine ⟨x, y, s, (Option.some.inj h).symm, rfl, ?_, fun t ht => hn t (List.mem_cons_of_mem _ (List.mem_cons_of_mem _ ht))⟩
      unfold markN
      rw [hx, hy]
      rfl
theorem bld_back : ∀ (ns : List Nd) (st : List TT), (∀ x ∈ ns, x.1 < 4) → bld ns = some st → (∀ t ∈ st, t.isNil = false) ∧ ns = st.flatMap nodesT
  | [], st, _, h => by
    cases h
    exact ⟨fun t ht => (nomatch ht), rfl⟩
  | nd :: rest, st, hx, h => by
    have h : (bld rest).bind (stp nd) = some st := h
    cases hb : bld rest with
    | none => rw [hb] at h; cases h
    | some s0 =>
      rw [hb] at h
      have h : stp nd s0 = some st := h
      obtain ⟨h1, h2⟩ := bld_back rest s0 (fun x hx' => hx x (List.mem_cons_of_mem _ hx')) hb
      obtain ⟨m, k, v⟩ := nd
      obtain ⟨l, r, s2, e1, e2, e3, e4⟩ := stp_inv (hx (m, k, v) List.mem_cons_self) h1 h
      subst e1
      refine ⟨fun t ht => ?_, ?_⟩
      · rcases List.mem_cons.mp ht with rfl | ht
        · rfl
        · exact e4 t ht
      · rw [List.flatMap_cons, h2, e2]
        show (m, k, v) :: _ = (markN l r, k, v) :: (nodesT l ++ nodesT r) ++ _
        have e3 : m = markN l r := e3
        rw [← e3]
        simp
theorem bldT_back {ns : List Nd} {t : TT} (hx : ∀ x ∈ ns, x.1 < 4) (h : bldT ns = some t) : nodesT t = ns := by
  unfold bldT at h
  split at h
  · rename_i hb
    cases h
    obtain ⟨_, e⟩ := bld_back ns _ hx hb
    rw [e]
    rfl
  · rename_i u hb
    cases h
    obtain ⟨_, e⟩ := bld_back ns _ hx hb
    rw [e]
    simp
  · cases h
theorem rdI_inv {t : List Nat} {tr : TT} (ha : ASC t) (h : rdI t = some tr) : imgT tr = t := by
  by_cases hc : 59 ∈ t
  · obtain ⟨m, q, rfl, hm⟩ := List.eq_append_cons_of_mem hc
    rw [rdI_yes hm] at h
    cases hv : nv m with
    | none => rw [hv] at h; cases h
    | some k =>
      rw [hv] at h
      have h : (if 200 < k then none else (prs k.toNat q).bind bldT) = some tr := h
      split at h
      · cases h
      · cases hp : prs k.toNat q with
        | none => rw [hp] at h; cases h
        | some ns =>
          rw [hp] at h
          have h : bldT ns = some tr := h
          have hq : ASC q := fun c hc => ha c (List.mem_append_right _ (List.mem_cons_of_mem _ hc))
          obtain ⟨h1, h2⟩ := prs_inv _ _ _ hq hp
          have hn := bldT_back (fun x hx => (h2 x hx).1) h
          obtain ⟨e, _, _⟩ := nv_dec hv
          unfold imgT
          rw [pre_nodes, hn, ← prs_back _ _ _ hp, ← nodes_len, hn, h1, ← e]
  · rw [rdI_no hc] at h
    cases h
structure GT (seed : Int) (tr : TT) : Prop where
  s : Srt (toL tr)
  o : TO (hg seed) tr
  k : KVT tr
  n : (toL tr).length ≤ 200
theorem read_iff (seed : Int) {t : List Nat} (ha : ASC t) : (∃ tr, tree_from_image_m seed t = M.ok tr ∧ GT seed tr ∧ imgT tr = t) ∨ (tree_from_image_m seed t = M.err .badForm ∧ ∀ tr, GT seed tr → imgT tr ≠ t) := by
  rcases tfi_ok (seed := seed) ha with ⟨tr, e, h1, h2, h3⟩ | ⟨er, e, rfl, hn⟩
  · obtain ⟨kv, b⟩ := rdI_kv ha h1
    exact .inl ⟨tr, e, ⟨h2, h3, kv, b⟩, rdI_inv ha h1⟩
  · refine .inr ⟨e, fun tr g z => ?_⟩
    have := rdI_img g.k g.n
    rw [z] at this
    exact hn tr this ⟨g.s, g.o⟩
end Pf

namespace Pf
open PySem L2 LK Tp NumText
theorem lcoin_ok (a b : Int) (t : List Nat) : law_coin_m a b t = M.ok (coinL a b t) := by
  unfold law_coin_m law_coin_b
  rw [M.bind_ok]
  have h := (forL_fold (ε := Er) (b := Unit) (ρ := Int) (f := fun (s2 : Int) (a3 : List Nat) => ((((((M.ok (s2 * (16807 : Int))).bind fun x4 => (M.need (a3.length = 1) (M.ok ((a3.getD 0 0 : Nat) : Int))).bind fun x5 => M.ok (x4 + x5)).bind fun x6 => (M.ok ((1 : Int))).bind fun x7 => M.ok (x6 + x7)).bind fun x8 => (M.ok ()).bind fun y9 => M.ok (x8, y9)).bind fun a10 => M.ok (a10.1)).bind fun x11 => M.ok (x11 % (2147483647 : Int))).bind fun v12 => M.ok (.nx v12))
    (fun s c => (s * 16807 + ((c.getD 0 0 : Nat) : Int) + 1) % 2147483647) (fun _ => True) (signs t) ((a * 48271 + b * 69621 + 1) % 2147483647) trivial fun x c hc _ => ⟨?_, trivial⟩).1
  · rw [h, seqF_nx, LK.fin_ret]
    unfold coinL signs
    rw [List.foldl_map]
    rfl
  · obtain ⟨d, _, rfl⟩ := List.mem_map.mp hc
    rfl
abbrev Rw3 := List Nat × List Nat × Int
def r2 (p : Rw3) : List Nat × List Nat := (p.1, p.2.1)
theorem shape_f_ok (seed : Int) : ∀ (n : Nat) (l : List Rw3), l.length < n → l.length ≤ 1000 → (∀ p ∈ l, p.2.2 = hg seed p.1) → Srt (l.map r2) → ∃ t, law_shape_f n l = M.ok t ∧ TO (hg seed) t ∧ toL t = l.map r2
  | 0, _, c, _, _, _ => by omega
  | n + 1, l, c, c2, hh, s => by
    show ∃ t, fin none (law_shape_b (law_shape_f n) l) = M.ok t ∧ _
    unfold law_shape_b
    refine wm_ex (wm_fin ?_)
    rw [wm_ite]
    simp only [decide_eq_true_eq]
    refine ⟨fun e => ?_, fun e => ?_⟩
    · rw [wm_ok]
      have : l = [] := List.eq_nil_of_length_eq_zero (by omega)
      subst this
      exact ⟨trivial, rfl⟩
    · simp only [wm_bind, wm_ok, wm_seq, wm_need]
      refine ⟨by omega, ?_⟩
      have lt_of : ∀ i j : Nat, i < j → ∀ (hi : i < l.length) (hj : j < l.length), (l[i]'hi).1 < (l[j]'hj).1 := fun i j hij hi hj => by
        have := List.pairwise_iff_getElem.mp s i j (by rw [List.length_map]; exact hi) (by rw [List.length_map]; exact hj) hij
        simpa [r2] using this
      refine wm_for (fun j (s : Int) => ∃ m : Nat, s = (m : Int) ∧ m < l.length ∧ m ≤ j ∧ (∀ i : Nat, i ≤ j → ∀ hi : i < l.length, ∀ hm : m < l.length, (l[i]'hi).2.2 ≤ (l[m]'hm).2.2 ∧ (i < m → (l[i]'hi).2.2 < (l[m]'hm).2.2))) (fun s => ∃ m : Nat, s = (m : Int) ∧ ∃ hm : m < l.length, ∀ i : Nat, ∀ hi : i < l.length, i ≠ m → bt (hg seed) (l[m]'hm).1 (l[i]'hi).1 = true) (fun _ => False) _ 0 _ ⟨0, rfl, by omega, Nat.le_refl _, fun i h0 hi hm => ?_⟩ ?_ ?_ ?_ ?_
      · have : i = 0 := by omega
        subst this
        exact ⟨Int.le_refl _, fun z => absurd z (Nat.lt_irrefl _)⟩
      · rintro j x a ha _ hj ⟨m, rfl, hm, hmj, inv⟩
        rw [rng2L_len] at hj
        have ha' : a = ((j + 1 : Nat) : Int) := by
          have := rng2L_get (a := 1) (b := (l.length : Int)) (i := j) (by omega)
          rw [show j - 0 = j from rfl, this] at ha
          have := Option.some.inj ha
          omega
        subst ha'
        have hj1 : j + 1 < l.length := by omega
        simp only [wm_bind, wm_ok, wm_ite, at_nat (List.getElem?_eq_getElem hj1), at_nat (List.getElem?_eq_getElem hm), decide_eq_true_eq, trn_nx]
        refine ⟨fun d => ⟨j + 1, rfl, hj1, Nat.le_refl _, fun i h0 hi hm' => ?_⟩, fun d => ⟨m, rfl, hm, by omega, fun i h0 hi hm' => ?_⟩⟩
        · by_cases q : i = j + 1
          · subst q
            exact ⟨Int.le_refl _, fun z => absurd z (Nat.lt_irrefl _)⟩
          · have := (inv i (by omega) hi hm).1
            exact ⟨by omega, fun _ => by omega⟩
        · by_cases q : i = j + 1
          · subst q
            exact ⟨by omega, fun z => by omega⟩
          · exact inv i (by omega) hi hm'
      · rintro x ⟨m, rfl, hm, hmj, inv⟩
        rw [rng2L_len] at hmj inv
        refine ⟨m, rfl, hm, fun i hi ne => ?_⟩
        obtain ⟨i1, i2⟩ := inv i (by omega) hi hm
        have e1 := hh _ (List.getElem_mem hi)
        have e2 := hh _ (List.getElem_mem hm)
        unfold bt
        by_cases q : hg seed (l[m]'hm).1 = hg seed (l[i]'hi).1
        · rw [if_pos q, decide_eq_true_eq]
          rcases Nat.lt_or_gt_of_ne ne with z | z
          · have := i2 z
            omega
          · exact lt_of m i z hm hi
        · rw [if_neg q, decide_eq_true_eq]
          omega
      · rintro x ⟨m, rfl, hm, top⟩
        have el : l = l.take m ++ l[m] :: l.drop (m + 1) := by
          rw [List.getElem_cons_drop, List.take_append_drop]
        have c1 : cut l none (some (m : Int)) = l.take m := cut_to l m
        have c2' : cut l (some ((m : Int) + 1)) none = l.drop (m + 1) := by
          rw [show ((m : Int) + 1) = ((m + 1 : Nat) : Int) from by omega]
          exact cut_nat' l (m + 1)
        have sm : (l.map r2) = (l.take m).map r2 ++ r2 l[m] :: (l.drop (m + 1)).map r2 := by
          have := congrArg (List.map r2) el
          rwa [List.map_append, List.map_cons] at this
        have s' := s
        rw [sm] at s'
        obtain ⟨q1, q2, q3, q4⟩ := srt_node (k := (r2 l[m]).1) (a := (r2 l[m]).2).mp s'
        obtain ⟨tl, el1, tl2, tl3⟩ := shape_f_ok seed n (l.take m) (by rw [List.length_take]; omega) (by rw [List.length_take]; omega) (fun p hp => hh p (List.mem_of_mem_take hp)) q1
        obtain ⟨tr, er1, tr2, tr3⟩ := shape_f_ok seed n (l.drop (m + 1)) (by rw [List.length_drop]; omega) (by rw [List.length_drop]; omega) (fun p hp => hh p (List.mem_of_mem_drop hp)) q2
        simp only [flw_nx, wm_bind, wm_ok, at_nat (List.getElem?_eq_getElem hm), c1, c2', el1, er1, fnw_ret]
        refine ⟨⟨fun p hp => ?_, fun p hp => ?_, tl2, tr2⟩, ?_⟩
        · rw [tl3] at hp
          obtain ⟨z, hz, rfl⟩ := List.mem_map.mp hp
          obtain ⟨i, hi, rfl⟩ := List.getElem_of_mem hz
          rw [List.length_take] at hi
          rw [List.getElem_take]
          exact top i (by omega) (by omega)
        · rw [tr3] at hp
          obtain ⟨z, hz, rfl⟩ := List.mem_map.mp hp
          obtain ⟨i, hi, rfl⟩ := List.getElem_of_mem hz
          rw [List.length_drop] at hi
          rw [List.getElem_drop]
          exact top (m + 1 + i) (by omega) (by omega)
        · show toL tl ++ ((r2 l[m]).1, (r2 l[m]).2) :: toL tr = _
          rw [tl3, tr3, sm]
      · exact fun _ z => z.elim
theorem ltree_ok (seed : Int) (rows : List (List Nat × List Nat)) (c : rows.length ≤ 201) (s : Srt rows) : ∃ t, law_tree_m seed rows = M.ok t ∧ TO (hg seed) t ∧ toL t = rows := by
  unfold law_tree_m law_tree_b
  refine wm_ex (wm_fin ?_)
  have e : ∀ a ∈ rows, ((M.ok (a.1)).bind fun x6 => ((M.ok (a.2)).bind fun x4 => ((law_coin_m seed (3 : Int) a.1).bind fun x2 => (M.ok ()).bind fun y3 => M.ok (x2, y3)).bind fun y5 => M.ok (x4, y5)).bind fun y7 => M.ok (x6, y7)).bind (fun a8 => M.ok (a8.1, a8.2.1, a8.2.2.1)) = M.ok (a.1, a.2, hg seed a.1) := fun a _ => by
    simp only [lcoin_ok, M.bind_ok]
    rfl
  have e2 := lcL_map (fun a : List Nat × List Nat => ((a.1, a.2, hg seed a.1) : Rw3)) rows [] e (by show 0 + _ ≤ 2 ^ 24; omega)
  have em : (rows.map fun a : List Nat × List Nat => ((a.1, a.2, hg seed a.1) : Rw3)).map r2 = rows := by
    rw [List.map_map]
    exact List.map_id'' (fun a => rfl) rows
  obtain ⟨t, et, t1, t2⟩ := shape_f_ok seed 205 (rows.map fun a : List Nat × List Nat => ((a.1, a.2, hg seed a.1) : Rw3)) (by rw [List.length_map]; omega) (by rw [List.length_map]; omega) (fun p hp => by obtain ⟨z, _, rfl⟩ := List.mem_map.mp hp; rfl) (by rw [em]; exact s)
  have et : law_shape_m (rows.map fun a : List Nat × List Nat => ((a.1, a.2, hg seed a.1) : Rw3)) = M.ok t := et
  simp only [wm_bind, e2, wm_ok, List.nil_append, et, fnw_ret]
  exact ⟨t1, t2.trans em⟩

theorem wm_bx {ε1 ε α β : Type} {p : ε1 → ε} {m : Mg ε1 β} {x : β} {f : β → Mg ε α} {φ : α → Prop} {ψ : ε → Prop} (e : m = M.ok x) (k : wm (f x) φ ψ) : wm (m.bindP p f) φ ψ := by
  rw [e]
  exact k
theorem lpack_ok {k a : List Nat} (h : KV (k, a)) : law_pack_m [k, a] = M.ok (Pk [k, a]) := by
  have hsz : sizeLine = 16777216 := rfl
  have hk : k.length ≤ 40 := h.k2
  have hv : a.length ≤ 600 := h.v2
  have d1 := dec_le (k := 3) (n := k.length) (by decide) (by omega)
  have d2 := dec_le (k := 3) (n := a.length) (by decide) (by omega)
  have key : ∀ x : List Nat, x.length ≤ 600 → (((M.need ((x.length : Int).natAbs.log2 < 1920 ∧ tOk (strI (x.length : Int))) (M.ok (strI (x.length : Int)))).bind fun x2 => (M.ok (([58] : List Nat))).bind fun x3 => M.need (x2.length + x3.length ≤ sizeLine) (M.ok (x2 ++ x3))).bind fun x4 => (M.ok x).bind fun x5 => M.need (x4.length + x5.length ≤ sizeLine) (M.ok (x4 ++ x5)) : Mg Er (List Nat)) = M.ok (encP x) := fun x hx => by
    have d := dec_le (k := 3) (n := x.length) (by decide) (by omega)
    obtain ⟨q1, q2⟩ := str_need (n := x.length) (by omega)
    rw [M.need_pos q1, M.bind_ok, M.bind_ok, q2, M.need_pos (by simp only [List.length_cons, List.length_nil]; omega), M.bind_ok, M.bind_ok, M.need_pos (by simp only [List.length_append, List.length_cons, List.length_nil]; omega)]
    unfold encP
    simp
  have hj : joinL ([] : List Nat) [encP k, encP a] = Pk [k, a] := by
    rw [joinL_eq, inter_nil]
    rfl
  have hp := pk2_len h
  unfold law_pack_m law_pack_b
  refine wm_val (wm_fin ?_)
  rw [M.bind_ok, lcL_map encP [k, a] [] (fun x hx => key x (by
    simp only [List.mem_cons, List.not_mem_nil, or_false] at hx
    rcases hx with rfl | rfl <;> omega)) (by show 0 + 2 ≤ 2 ^ 24; decide), M.bind_ok, M.bind_ok, M.bind_ok]
  show wm (Mg.bind (M.need ((([encP k, encP a] : List (List Nat)).map List.length).sum + 2 * 0 ≤ 16777216 ∧ tOk (joinL [] [encP k, encP a])) (M.ok (joinL [] [encP k, encP a]))) _) _ _
  rw [hj, M.need_pos, M.bind_ok, wm_ok, fnw_ret]
  refine ⟨?_, asc_tok (pk2_asc h) (by omega)⟩
  unfold encP
  simp only [List.map_cons, List.map_nil, List.sum_cons, List.sum_nil, List.length_append, List.length_cons]
  omega
theorem lnodes_f_ok : ∀ (n : Nat) (t : TT), t.dep < n → KVT t → (toL t).length ≤ 1000 → law_nodes_f n t = M.ok (preT t).flatten
  | 0, _, c, _, _ => by omega
  | n + 1, .nil, _, _, _ => rfl
  | n + 1, .node k a l r, c, h, b => by
    have hsz : sizeLine = 16777216 := rfl
    have c : max l.dep r.dep + 1 < n + 1 := c
    have b' : (toL l ++ (k, a) :: toL r).length ≤ 1000 := b
    rw [List.length_append, List.length_cons] at b'
    have g1 := lnodes_f_ok n l (by omega) h.l (by omega)
    have g2 := lnodes_f_ok n r (by omega) h.r (by omega)
    have f1 := flat_le (n := 651) fun x hx => (preT_mem h.l x hx).2
    have f2 := flat_le (n := 651) fun x hx => (preT_mem h.r x hx).2
    rw [preT_len] at f1 f2
    have hp := lpack_ok h.n
    have hpl := pk2_len h.n
    have hm : markN l r < 4 := by unfold markN; split <;> split <;> omega
    obtain ⟨m1, m2⟩ := mark_str (markN l r) hm
    have hmk : ((if (!l.isNil) = true then (1 : Int) else 0) + 2 * (if (!r.isNil) = true then (1 : Int) else 0)) = ((markN l r : Nat) : Int) := by
      unfold markN
      rcases isNil_iff l with e | e <;> rcases isNil_iff r with e' | e' <;> rw [e, e'] <;> rfl
    show fin none (law_nodes_b (law_nodes_f n) (.node k a l r)) = _
    unfold law_nodes_b
    refine wm_val (wm_fin ?_)
    have hn : (Tr.node k a l r).isNil = false := rfl
    simp only [hn, trK, trA, trL, trRt, Bool.false_eq_true, if_false, wm_bind, wm_ok, wm_need, hmk]
    refine ⟨.inl (by decide), m1, ?_⟩
    simp only [m2, hp, wm_bind, wm_ok, wm_need, g1, g2, fnw_ret, List.length_cons, List.length_nil, List.length_append]
    refine ⟨by omega, by omega, by omega, ?_⟩
    show _ = (nodeT k a l r :: (preT l ++ preT r)).flatten
    rw [List.flatten_cons, List.flatten_append]
    unfold nodeT
    simp
theorem lnodes_ok {t : TT} (h : KVT t) (b : (toL t).length ≤ 201) : law_nodes_m t = M.ok (preT t).flatten := lnodes_f_ok 205 t (by have := dep_le t; omega) h (by omega)
theorem fig_pos : ∀ c < 128, (posC [48, 49, 50, 51, 52, 53, 54, 55, 56, 57] c 0 = none ↔ ¬ (48 ≤ c ∧ c ≤ 57)) := by decide +kernel
theorem fig_neg {c : Nat} (h : c < 128) : decide (Txt.find (LK.S ([48, 49, 50, 51, 52, 53, 54, 55, 56, 57] : List Nat)) (LK.S [c]) < (0 : Int)) = !isD c := by
  have e : Txt.find (LK.S ([48, 49, 50, 51, 52, 53, 54, 55, 56, 57] : List Nat)) (LK.S [c]) = Txt.find3 (LK.S ([48, 49, 50, 51, 52, 53, 54, 55, 56, 57] : List Nat)) (LK.S [c]) ((0 : Nat) : Int) := rfl
  have q := fig_pos c h
  rw [e, find3_one]
  cases hp : posC [48, 49, 50, 51, 52, 53, 54, 55, 56, 57] c 0 with
  | none =>
    have hd : isD c = false := by
      rw [Bool.eq_false_iff]
      intro z
      exact q.mp hp (isD_iff.mp z)
    rw [hd]
    rfl
  | some k =>
    have hd : isD c = true := isD_iff.mpr (Classical.byContradiction fun z => by rw [q.mpr z] at hp; cases hp)
    rw [hd]
    exact decide_eq_false (by show ¬ ((k : Nat) : Int) < 0; omega)
theorem lnumber_ok {m : List Nat} (ha : ASC m) : law_number_m m = M.ok (nv m) := by
  unfold law_number_m law_number_b
  refine wm_val (wm_fin ?_)
  by_cases h1 : m.length < 1
  · have e : nv m = none := if_pos (.inl h1)
    refine wm_bx (x := true) (by rw [M.bind_ok, decide_eq_true (by omega), if_pos rfl]) ?_
    rw [if_pos rfl, wm_ok, fnw_ret, e]
  · by_cases h9 : 9 < m.length
    · have e : nv m = none := if_pos (.inr h9)
      refine wm_bx (x := true) (by rw [M.bind_ok, decide_eq_false (by omega), if_neg Bool.false_ne_true, M.bind_ok, decide_eq_true (by omega), if_pos rfl]) ?_
      rw [if_pos rfl, wm_ok, fnw_ret, e]
    · have hl : ¬ (m.length < 1 ∨ 9 < m.length) := fun z => z.elim h1 h9
      have e0 : ((M.ok (decide ((m.length : Int) < (1 : Int)))).bind fun b5 => if b5 = true then M.ok true else (M.ok (decide ((9 : Int) < (m.length : Int)))).bind fun b4 => if b4 = true then M.ok true else (M.ok (decide ((1 : Int) < (m.length : Int)))).bind fun b3 => if b3 = true then ((at_ m (0 : Int)).bind fun c => M.ok [c]).bind fun x1 => (M.ok (([48] : List Nat))).bind fun x2 => M.ok (decide (x1 = x2)) else M.ok false : Mg Er Bool) = M.ok (lead0 m) := by
        rw [M.bind_ok, decide_eq_false (by omega), if_neg Bool.false_ne_true, M.bind_ok, decide_eq_false (by omega), if_neg Bool.false_ne_true, M.bind_ok]
        match m, h1 with
        | [c], _ => rfl
        | c :: d :: r, _ =>
          rw [decide_eq_true (by simp only [List.length_cons]; omega), if_pos rfl, show at_ (c :: d :: r) (0 : Int) = M.ok c from at_nat (i := 0) rfl, M.bind_ok, M.bind_ok, M.bind_ok]
          show M.ok (decide ([c] = [48])) = M.ok (decide (c = 48))
          congr 1
          rw [Bool.eq_iff_iff, decide_eq_true_eq, decide_eq_true_eq]
          exact ⟨fun z => by injection z, fun z => by rw [z]⟩
      refine wm_bx e0 ?_
      unfold nv
      rw [if_neg hl]
      cases hlead : lead0 m with
      | true =>
        rw [if_pos rfl, wm_ok, fnw_ret]
        split <;> rfl
      | false =>
        rw [if_neg Bool.false_ne_true, if_neg Bool.false_ne_true, wm_seq]
        have hloop : wm (forL (b := Unit) (fun (s7 : Unit) (a8 : List Nat) => if (decide (Txt.find (LK.S ([48, 49, 50, 51, 52, 53, 54, 55, 56, 57] : List Nat)) (LK.S a8) < (0 : Int))) = true then M.ok (.ret (none : Option (Int))) else M.ok (.nx ())) (signs m) () : Mg Er (Fl (Option Int) Unit Unit)) (fun o => (m.all isD = true ∧ o = .nx ()) ∨ (m.all isD = false ∧ o = .ret none)) (fun _ => False) := by
          clear hlead e0 hl h1 h9
          induction m with
          | nil => exact (wm_ok _).mpr (.inl ⟨rfl, rfl⟩)
          | cons c r ih =>
            have hc := ha c List.mem_cons_self
            have ih := ih fun d hd => ha d (List.mem_cons_of_mem _ hd)
            show wm (forL _ ([c] :: signs r) ()) _ _
            cases hd : isD c with
            | false =>
              rw [forL_ret (v := none) (by rw [fig_neg hc, hd]; rfl), wm_ok]
              exact .inr ⟨by rw [List.all_cons, hd]; rfl, rfl⟩
            | true =>
              rw [forL_nx (y := ()) (by rw [fig_neg hc, hd]; rfl), List.all_cons, hd, Bool.true_and]
              exact ih
        refine wm_by hloop fun o ho => ?_
        rcases ho with ⟨hall, rfl⟩ | ⟨hall, rfl⟩
        · have had : AllDigits m := fun c hc => isD_iff.mp (List.all_eq_true.mp hall c hc)
          have hint : intS m = M.ok ((digitsVal m : Nat) : Int) := by
            unfold intS
            have := intText_digits (x := LK.S m) (by rw [S_cps]; exact had) (by rw [S_cps]; intro z; rw [z] at h1; exact h1 (by decide)) (by rw [show (LK.S m).length = m.length from S_len _]; omega)
            rw [this, S_cps]
          rw [flw_nx, M.need_pos (by omega), hint, M.bind_ok, M.bind_ok, wm_ok, fnw_ret, hall, if_neg (by decide)]
        · rw [hall, if_pos rfl]
          rfl
end Pf

namespace Pf
open PySem L2 LK Tp NumText
theorem lpart_ok {t A rest : List Nat} (ha : ASC t) (ht : t = A ++ rest) : match prt rest with
    | none => law_part_m t (A.length : Int) = M.ok none
    | some (p, r2) => ∃ A2, t = A2 ++ r2 ∧ law_part_m t (A.length : Int) = M.ok (some (p, (A2.length : Int))) := by
  by_cases hc : 58 ∈ rest
  · obtain ⟨m, q, e, hm⟩ := List.eq_append_cons_of_mem hc
    have s : Spl t A rest m q := ⟨by rw [ht, e], e, hm⟩
    have ham : ASC m := fun c hc => ha c (by rw [s.ht]; exact List.mem_append_right _ (List.mem_append_left _ hc))
    have hR : law_part_m t (A.length : Int) = match nv m with
        | none => M.ok none
        | some k => if q.length < k.toNat then M.ok none else M.ok (some (q.take k.toNat, ((A ++ (m ++ 58 :: q.take k.toNat)).length : Int))) := by
      unfold law_part_m law_part_b
      rw [M.bind_ok, s.find, if_neg (by rw [decide_eq_true_eq]; omega), s.cut, lnumber_ok ham]
      cases hv : nv m with
      | none => rfl
      | some k =>
        have hk0 := nv_nn hv
        have h3 := s.len
        show fin none (if (false || decide ((t.length : Int) < ((A.length + m.length : Nat) : Int) + 1 + k)) = true then _ else _) = if q.length < k.toNat then _ else _
        rw [Bool.false_or]
        by_cases hk : q.length < k.toNat
        · rw [if_pos (by rw [decide_eq_true_eq]; omega), if_pos hk]
          rfl
        · rw [if_neg (by rw [decide_eq_true_eq]; omega), if_neg hk, s.cut2 hk0 (by omega), (s.next hk0 (by omega)).2]
          rfl
    rw [e, prt_yes hm, hR]
    cases hv : nv m with
    | none => rfl
    | some k =>
      have hk0 := nv_nn hv
      by_cases hk : q.length < k.toNat
      · show match (if q.length < k.toNat then none else some (q.take k.toNat, q.drop k.toNat)) with | none => _ | some (p, r2) => _
        rw [if_pos hk]
        show (if q.length < k.toNat then _ else _) = _
        rw [if_pos hk]
      · show match (if q.length < k.toNat then none else some (q.take k.toNat, q.drop k.toNat)) with | none => _ | some (p, r2) => _
        rw [if_neg hk]
        refine ⟨_, (s.next hk0 (by omega)).1, ?_⟩
        show (if q.length < k.toNat then _ else _) = _
        rw [if_neg hk]
  · rw [prt_no hc]
    show law_part_m t (A.length : Int) = _
    unfold law_part_m law_part_b
    rw [find_no ht hc]
    rfl
theorem lpart_far {t : List Nat} {n : Nat} (h : t.length < n) : law_part_m t (n : Int) = M.ok none := by
  have e : posC t 58 n = none := by
    unfold posC
    rw [show t.length + 1 - n = 0 from by omega]
    rfl
  unfold law_part_m law_part_b
  rw [M.bind_ok, find3_one, e]
  rfl
theorem lpart_any {t : List Nat} (ha : ASC t) (n : Nat) : ∃ o, law_part_m t (n : Int) = M.ok o ∧ ∀ p k, o = some (p, k) → ASC p ∧ ∃ i : Nat, k = (i : Int) := by
  by_cases h : t.length < n
  · exact ⟨none, lpart_far h, fun p k z => (nomatch z)⟩
  · have ht : t = t.take n ++ t.drop n := (List.take_append_drop n t).symm
    have hl : (t.take n).length = n := by rw [List.length_take]; omega
    have := lpart_ok ha ht
    rw [hl] at this
    cases hp : prt (t.drop n) with
    | none =>
      rw [hp] at this
      exact ⟨none, this, fun p k z => (nomatch z)⟩
    | some x =>
      obtain ⟨p, r2⟩ := x
      rw [hp] at this
      obtain ⟨A2, _, e⟩ := this
      refine ⟨_, e, fun p' k z => ?_⟩
      cases z
      exact ⟨fun c hc => ha c (List.mem_of_mem_drop ((prt_sub hp).1 c hc)), _, rfl⟩
theorem int_dec {n : Nat} (h : n < 10 ^ 9) : intS (dec n) = M.ok ((n : Nat) : Int) := by
  have hl := dec_le (k := 9) (by decide) h
  unfold intS
  have := intText_digits (x := LK.S (dec n)) (by rw [S_cps]; exact dec_all n) (by rw [S_cps]; exact dec_ne n) (by rw [show (LK.S (dec n)).length = (dec n).length from S_len _]; show _ ≤ 4300; omega)
  rw [this, S_cps, dec_val]
theorem int_nv {m : List Nat} {k : Int} (h : nv m = some k) : (M.need (m.length ≤ 640) (intS m) : M Int) = M.ok k := by
  obtain ⟨e, h0, h9⟩ := nv_dec h
  have hl := dec_le (k := 9) (n := k.toNat) (by decide) (by omega)
  rw [← e] at hl
  rw [M.need_pos (by omega), e, int_dec (by omega), Int.toNat_of_nonneg h0]
abbrev NONE : List Nat := [110, 111, 110, 101]
theorem rows_lc {c : Dc} (nd : (c.map (·.1)).Nodup) (hl : c.length ≤ 100000) : lcL (fun a28 => M.ok (true)) (fun a28 => ((M.ok (a28)).bind fun x33 => (((M.ok c).bind fun d29 => (M.ok (a28)).bind fun k30 => oget (dget d29 k30)).bind fun x31 => (M.ok ()).bind fun y32 => M.ok (x31, y32)).bind fun y34 => M.ok (x33, y34)).bind fun a35 => M.ok (a35.1, a35.2.1)) (sortT (c.map (·.1))) [] = M.ok (rowsOf c) := by
  have hlen : (sortT (c.map (·.1))).length = c.length := by rw [(sortT_perm _).length_eq, List.length_map]
  rw [lcL_map (fun k => (k, (dget c k).getD [])) _ [] (fun k hk => ?_) (by rw [hlen]; show 0 + _ ≤ 2 ^ 24; omega), List.nil_append]
  · rfl
  · have hk := (sortT_perm _).mem_iff.mp hk
    obtain ⟨p, hp, rfl⟩ := List.mem_map.mp hk
    have hg := dget_mem nd hp
    rw [M.bind_ok, M.bind_ok, M.bind_ok, hg]
    rfl
theorem ltext {n : Nat} {x : List Nat} (hn : n < 10 ^ 9) (hx : x.length ≤ 200000) : ((((M.need ((n : Int).natAbs.log2 < 1920 ∧ tOk (strI (n : Int))) (M.ok (strI (n : Int)))).bind fun x43 => (M.ok (([59] : List Nat))).bind fun x44 => M.need (x43.length + x44.length ≤ sizeLine) (M.ok (x43 ++ x44))).bind fun x45 => (M.ok x).bind fun x46 => M.need (x45.length + x46.length ≤ sizeLine) (M.ok (x45 ++ x46))) : Mg Er (List Nat)) = M.ok (dec n ++ 59 :: x) := by
  have hsz : sizeLine = 16777216 := rfl
  have d := dec_le (k := 9) (n := n) (by decide) hn
  obtain ⟨q1, q2⟩ := str_need (n := n) (by omega)
  rw [M.need_pos q1, M.bind_ok, M.bind_ok, q2, M.need_pos (by simp only [List.length_cons, List.length_nil]; omega), M.bind_ok, M.bind_ok, M.need_pos (by simp only [List.length_append, List.length_cons, List.length_nil]; omega)]
  simp
theorem due_end {seed : Int} {c : Dc} (nd : (c.map (·.1)).Nodup) (kv : ∀ p ∈ c, KV p) (hl : c.length ≤ 201) : ∃ tr, law_tree_m seed (rowsOf c) = M.ok tr ∧ TO (hg seed) tr ∧ toL tr = rowsOf c ∧ KVT tr ∧ law_nodes_m tr = M.ok (preT tr).flatten ∧ (toL tr).length = c.length ∧ (preT tr).flatten.length ≤ 200000 := by
  obtain ⟨tr, e, h1, h2⟩ := ltree_ok seed (rowsOf c) (by rw [rows_len]; exact hl) (rows_srt nd)
  have hk : KVT tr := fun p hp => by
    rw [h2] at hp
    exact kv p ((rows_mem nd p).mp hp)
  have hn : (toL tr).length = c.length := by rw [h2, rows_len]
  have f1 := flat_le (n := 651) fun x hx => (preT_mem hk x hx).2
  rw [preT_len, hn] at f1
  exact ⟨tr, e, h1, h2, hk, lnodes_ok hk (by omega), hn, by omega⟩
structure DI (j : Nat) (s : Int × Dc) : Prop where
  a : ∃ n : Nat, s.1 = (n : Int)
  nd : (s.2.map (·.1)).Nodup
  kv : ∀ p ∈ s.2, KV p
  l : s.2.length ≤ j
theorem due_any (seed : Int) {t : List Nat} (ha : ASC t) : ∃ o, law_due_m seed t = M.ok o ∧ (o = .inl NONE ∨ ∃ tr, o = .inr tr ∧ GT seed tr ∧ imgT tr = t) := by
  have hsz : sizeLine = 16777216 := rfl
  refine wm_ex ?_
  unfold law_due_m law_due_b
  refine wm_fin ?_
  rw [M.bind_ok]
  by_cases hc : 59 ∈ t
  · obtain ⟨m, q, ht, hm⟩ := List.eq_append_cons_of_mem hc
    have hma : ASC m := fun c hc => ha c (by rw [ht]; exact List.mem_append_left _ hc)
    have hf : Txt.find (LK.S t) (LK.S [59]) = (m.length : Int) := by rw [ht]; exact find59 hm
    have hcut : cut t none (some (m.length : Int)) = m := by rw [cut_to, ht, List.take_left]
    rw [hf, hcut]
    refine wm_bx (x := match nv m with | none => true | some k => decide ((200 : Int) < k)) ?_ ?_
    · rw [M.bind_ok, decide_eq_false (by omega), if_neg Bool.false_ne_true, lnumber_ok hma, M.bind_ok, M.bind_ok, M.bind_ok]
      cases hv : nv m with
      | none => rfl
      | some k =>
        show (if (some k).isNone = true then (M.ok true : M Bool) else _) = _
        rw [if_neg (by exact Bool.false_ne_true), int_nv hv]
        rfl
    cases hv : nv m with
    | none => exact (wm_ok _).mpr (.inl rfl)
    | some k =>
      have hk0 := nv_nn hv
      rw [wm_ite]
      refine ⟨fun _ => (wm_ok _).mpr (.inl rfl), fun h2 => ?_⟩
      have h2 : ¬ (200 : Int) < k := fun z => h2 (decide_eq_true z)
      rw [M.bind_ok, M.bind_ok, int_nv hv, M.bind_ok, M.need_pos (by omega), wm_seq]
      refine wm_for (fun j s => DI j s) (fun s => DI k.toNat s) (fun v => v = .inl NONE) _ 0 _ ⟨⟨m.length + 1, by omega⟩, List.nodup_nil, fun p hp => (nomatch hp), Nat.le_refl _⟩ (fun j s x hx _ hj hs => ?_) (fun y hy => by rwa [Nat.zero_add, rngL_len] at hy) (fun s hs => ?_) (fun v hv => .inl hv)
      · obtain ⟨n, hn⟩ := hs.a
        rw [rngL_len] at hj
        obtain ⟨o1, e1, g1⟩ := lpart_any ha (n + 1)
        rw [hn, show ((n : Int) + 1) = ((n + 1 : Nat) : Int) from by omega, e1, M.bind_ok]
        cases o1 with
        | none => exact (wm_ok _).mpr rfl
        | some x1 =>
          obtain ⟨p1, k1⟩ := x1
          obtain ⟨ap, i1, rfl⟩ := g1 p1 k1 rfl
          obtain ⟨o2, e2, g2⟩ := lpart_any ha i1
          show wm (if false = true then none else Mg.bind (law_part_m t (i1 : Int)) _) _ _
          rw [if_neg Bool.false_ne_true, e2, M.bind_ok]
          cases o2 with
          | none => exact (wm_ok _).mpr rfl
          | some x2 =>
            obtain ⟨p2, k2⟩ := x2
            obtain ⟨av, i2, rfl⟩ := g2 p2 k2 rfl
            show wm (if (false || ((!((decide ((1 : Int) ≤ (p1.length : Int))) && (decide ((p1.length : Int) ≤ (40 : Int))))) || (decide ((600 : Int) < (p2.length : Int))))) = true then _ else _) _ _
            rw [wm_ite]
            refine ⟨fun _ => (wm_ok _).mpr rfl, fun hb => ?_⟩
            rw [Bool.false_or, Bool.or_eq_true, Bool.not_eq_true', Bool.and_eq_false_iff, decide_eq_false_iff_not, decide_eq_false_iff_not, decide_eq_true_eq] at hb
            have hkv : KV (p1, p2) := ⟨by show 1 ≤ p1.length; omega, by show p1.length ≤ 40; omega, by show p2.length ≤ 600; omega, ap, av⟩
            have hl := hs.l
            rw [M.bind_ok, M.bind_ok, M.need_pos (by omega), M.bind_ok, wm_ok, trn_nx]
            refine ⟨⟨i2, rfl⟩, dput_nd hs.nd, fun p hp => ?_, Nat.le_trans dput_le (Nat.succ_le_succ hl)⟩
            rcases mem_dput.mp hp with rfl | ⟨hp, _⟩
            · exact hkv
            · exact hs.kv p hp
      · rw [flw_nx]
        have hl := hs.l
        obtain ⟨tr, e, h1, h2', h3, h4, h5, h6⟩ := due_end (seed := seed) hs.nd hs.kv (by omega)
        refine wm_bx (x := tr) (by rw [M.bind_ok, rows_lc hs.nd (by omega)]; exact e) ?_
        refine wm_bx (x := !decide (dec s.2.length ++ 59 :: (preT tr).flatten = t)) ?_ ?_
        · rw [h4]
          refine Eq.trans (congrArg (fun m : Mg Er (List Nat) => Mg.bind m fun x47 => (M.ok t).bind fun x48 => M.ok (!decide (x47 = x48))) (ltext (n := s.2.length) (x := (preT tr).flatten) (by omega) h6)) ?_
          rfl
        · have hi : dec s.2.length ++ 59 :: (preT tr).flatten = imgT tr := by unfold imgT; rw [h5]
          rw [hi, wm_ite]
          refine ⟨fun _ => (wm_ok _).mpr (.inl rfl), fun z => (wm_ok _).mpr (.inr ⟨tr, rfl, ⟨by rw [h2']; exact rows_srt hs.nd, h1, h3, by omega⟩, ?_⟩)⟩
          simpa using z
  · rw [find59_no hc]
    refine wm_bx (x := true) rfl ?_
    rw [if_pos rfl]
    exact (wm_ok _).mpr (.inl rfl)
end Pf

namespace Pf
open PySem L2 LK Tp NumText
theorem nodes_perm : ∀ t : TT, ((nodesT t).map (·.2)).Perm (toL t)
  | .nil => .nil
  | .node k a l r => by
    show ((k, a) :: (nodesT l ++ nodesT r).map (·.2)).Perm (toL l ++ (k, a) :: toL r)
    rw [List.map_append]
    exact (List.Perm.cons _ ((nodes_perm l).append (nodes_perm r))).trans List.perm_middle.symm
theorem srt_nd {l : Dc} (s : Srt l) : (l.map (·.1)).Nodup := by
  unfold List.Nodup
  rw [List.pairwise_map]
  exact s.imp fun {a b} z q => by
    rw [q] at z
    exact List.lt_irrefl _ z
theorem due_own {seed : Int} {tr : TT} (g : GT seed tr) : law_due_m seed (imgT tr) = M.ok (.inr tr) := by
  have hsz : sizeLine = 16777216 := rfl
  have hb := g.n
  obtain ⟨ha, hlen⟩ := imgT_asc g.k g.n
  have himg : imgT tr = dec (toL tr).length ++ 59 :: ((nodesT tr).map encN).flatten := by unfold imgT; rw [pre_nodes]
  have hN := nodes_len tr
  have hkv := nodes_kv g.k
  have hpm := nodes_perm tr
  have hnd : (((nodesT tr).map (·.2)).map (·.1)).Nodup := (hpm.map (·.1)).nodup_iff.mpr (srt_nd g.s)
  generalize hns : nodesT tr = ns at himg hN hkv hpm hnd
  generalize hn : (toL tr).length = N at hb himg hN
  generalize ht : imgT tr = t at ha hlen himg
  have hs : ∀ j, t = (dec N ++ 59 :: ((ns.take j).map encN).flatten) ++ ((ns.drop j).map encN).flatten := fun j => by
    rw [himg]
    conv => lhs; rw [← List.take_append_drop j ns, List.map_append, List.flatten_append]
    simp
  have hnv : nv (dec N) = some (N : Int) := dec_nv (by omega)
  unfold law_due_m law_due_b
  refine wm_val (wm_fin ?_)
  have hf : Txt.find (LK.S t) (LK.S [59]) = ((dec N).length : Int) := by rw [himg]; exact find59 (dec_no59 N)
  have hcut : cut t none (some ((dec N).length : Int)) = dec N := by rw [cut_to, himg, List.take_left]
  rw [M.bind_ok, hf, hcut]
  refine wm_bx (x := false) ?_ ?_
  · rw [M.bind_ok, decide_eq_false (by omega), if_neg Bool.false_ne_true, lnumber_ok (dec_asc N), hnv, M.bind_ok, M.bind_ok, M.bind_ok]
    rw [if_neg (by exact Bool.false_ne_true), int_nv hnv, M.bind_ok, M.bind_ok, decide_eq_false (by omega)]
  rw [if_neg Bool.false_ne_true, M.bind_ok, M.bind_ok]
  refine wm_nx (fun s : Int × Dc => s.2 = ns.map (·.2)) ?_ fun s hs' => ?_
  · rw [int_nv hnv, M.bind_ok, M.need_pos (by omega)]
    refine wm_forP (fun j (s : Int × Dc) => s = (((dec N ++ 59 :: ((ns.take j).map encN).flatten).length : Int), (ns.take j).map (·.2))) ?_ (fun j s x hx hj hs' => ?_) (fun s hs' => ⟨s, rfl, by
      rw [rngL_len] at hs'
      rw [hs', show (N : Int).toNat = ns.length from by omega, List.take_length]⟩)
    · refine Prod.ext ?_ rfl
      show ((dec N).length : Int) + 1 = _
      simp
    · subst hs'
      rw [rngL_len] at hj
      have hjl : j < ns.length := by omega
      have hx4 := hkv ns[j] (List.getElem_mem hjl)
      have hdr : ns.drop j = ns[j] :: ns.drop (j + 1) := (List.getElem_cons_drop hjl).symm
      have htk : ns.take (j + 1) = ns.take j ++ [ns[j]] := by rw [List.take_add_one, List.getElem?_eq_getElem hjl]; rfl
      have hnew : ns[j].2.1 ∉ ((ns.take j).map (·.2)).map (·.1) := fun z => by
        obtain ⟨p, hp, e⟩ := List.mem_map.mp z
        obtain ⟨y, hy, rfl⟩ := List.mem_map.mp hp
        obtain ⟨i, hi, rfl⟩ := List.getElem_of_mem hy
        rw [List.length_take] at hi
        rw [List.getElem_take] at e
        rw [List.map_map] at hnd
        have := List.pairwise_iff_getElem.mp hnd i j (by rw [List.length_map]; omega) (by rw [List.length_map]; omega) (by omega)
        rw [List.getElem_map, List.getElem_map] at this
        exact this e
      have h0 := hs j
      have h1 := hs (j + 1)
      rw [hdr, List.map_cons, List.flatten_cons] at h0
      rw [htk]
      generalize hA : dec N ++ 59 :: ((ns.take j).map encN).flatten = A at h0
      generalize hR : ((ns.drop (j + 1)).map encN).flatten = R at h0 h1
      have hB : dec N ++ 59 :: ((ns.take (j + 1)).map encN).flatten = A ++ encN ns[j] := by
        rw [htk, List.map_append, List.flatten_append, ← hA]
        simp
      rw [hB] at h1
      have hB2 : dec N ++ 59 :: ((ns.take j ++ [ns[j]]).map encN).flatten = A ++ encN ns[j] := by rw [← htk]; exact hB
      generalize ns[j] = x at hx4 hnew h0 h1 hB2
      obtain ⟨mk, k, v⟩ := x
      have hk2 : k.length ≤ 40 := hx4.2.k2
      have hk1 : 1 ≤ k.length := hx4.2.k1
      have hv2 : v.length ≤ 600 := hx4.2.v2
      have henc : encN (mk, k, v) = (48 + mk) :: (dec k.length ++ 58 :: (k ++ (dec v.length ++ 58 :: v))) := by
        show (48 + mk) :: Pk [k, v] = _
        rw [Pk_cons, Pk_cons]
        simp [Pk]
      have r1 : t = (A ++ [48 + mk]) ++ (dec k.length ++ 58 :: (k ++ (dec v.length ++ 58 :: (v ++ R)))) := by rw [h0, henc]; simp
      have q1 := lpart_ok ha r1
      rw [prt_enc (by omega)] at q1
      obtain ⟨A2, r2, e2⟩ := q1
      have q2 := lpart_ok ha r2
      rw [prt_enc (by omega)] at q2
      obtain ⟨A3, r3, e3⟩ := q2
      have hA3 : A3 = A ++ encN (mk, k, v) := List.append_cancel_right (r3.symm.trans h1)
      have hl1 : (((A.length : Nat) : Int) + 1) = (((A ++ [48 + mk]).length : Nat) : Int) := by simp
      have hcl : ((ns.take j).map (·.2)).length ≤ 200 := by rw [List.length_map, List.length_take]; omega
      show wm (Mg.bind (law_part_m t ((A.length : Int) + 1)) _) _ _
      rw [hl1, e2, M.bind_ok]
      show wm (if false = true then none else Mg.bind (law_part_m t (A2.length : Int)) _) _ _
      rw [if_neg Bool.false_ne_true, e3, M.bind_ok]
      show wm (if (false || ((!((decide ((1 : Int) ≤ (k.length : Int))) && (decide ((k.length : Int) ≤ (40 : Int))))) || (decide ((600 : Int) < (v.length : Int))))) = true then _ else _) _ _
      rw [decide_eq_true (by omega), decide_eq_true (by omega), decide_eq_false (by omega), if_neg (by decide), M.bind_ok, M.bind_ok, M.need_pos (by show ((ns.take j).map (·.2)).length < sizeLine; omega), M.bind_ok, wm_ok]
      refine ⟨_, rfl, Prod.ext ?_ ?_⟩
      · show (A3.length : Int) = _
        rw [hA3, hB2]
      · show dput ((ns.take j).map (·.2)) k v = (ns.take j ++ [(mk, k, v)]).map (·.2)
        rw [dput_new hnew, List.map_append]
        rfl
  · obtain ⟨a0, c⟩ := s
    have hc : c = ns.map (·.2) := hs'
    have hmem : ∀ p, p ∈ c ↔ p ∈ toL tr := fun p => by rw [hc]; exact hpm.mem_iff
    have hcn : (c.map (·.1)).Nodup := by rw [hc]; exact hnd
    have hcl : c.length = N := by rw [hc, List.length_map]; exact hN
    have hkc : ∀ p ∈ c, KV p := fun p hp => g.k p ((hmem p).mp hp)
    obtain ⟨tr', e, h1, h2, h3, h4, h5, h6⟩ := due_end (seed := seed) hcn hkc (by omega)
    have hrows : rowsOf c = toL tr := srt_ext (rows_srt hcn) g.s fun p => by rw [rows_mem hcn, hmem]
    have hT : tr' = tr := uniq (hg seed) h1 g.o (by rw [h2, hrows]) (by rw [h2]; exact rows_srt hcn)
    subst hT
    refine wm_bx (x := tr') (by rw [M.bind_ok, rows_lc hcn (by omega)]; exact e) ?_
    refine wm_bx (x := false) ?_ ?_
    · rw [h4]
      refine Eq.trans (congrArg (fun m : Mg Er (List Nat) => Mg.bind m fun x47 => (M.ok t).bind fun x48 => M.ok (!decide (x47 = x48))) (ltext (n := c.length) (x := (preT tr').flatten) (by omega) h6)) ?_
      rw [M.bind_ok, M.bind_ok]
      have hi : dec c.length ++ 59 :: (preT tr').flatten = t := by rw [← ht]; unfold imgT; rw [h5]
      rw [hi, decide_eq_true rfl]
      rfl
    · rw [if_neg Bool.false_ne_true, wm_ok, fnw_ret]
theorem told_ok (seed : Int) {t : List Nat} (ha : ASC t) : law_told_m seed t = M.ok true := by
  rcases read_iff seed ha with ⟨tr, e, g, hi⟩ | ⟨e, hn⟩
  · have hd := due_own g
    rw [hi] at hd
    have hdep := dep_le tr
    have hb := g.n
    have hr : law_read_m seed t = M.ok (tr, [114, 101, 97, 100]) := by
      unfold law_read_m law_read_b
      rw [e]
      rfl
    unfold law_told_m law_told_b
    rw [hd, M.bind_ok, hr, M.bind_ok, if_neg (by exact Bool.false_ne_true), M.bind_ok]
    show fin none (Mg.bind (M.need (tr.dep + 0 ≤ 255) (M.ok (decide ((tr, ([114, 101, 97, 100] : List Nat)) = (tr, [114, 101, 97, 100]))))) fun r11 => M.ok (.ret r11)) = _
    rw [M.need_pos (by omega), decide_eq_true rfl]
    rfl
  · have hr : law_read_m seed t = M.ok (Tr.nil, [114, 101, 102, 117, 115, 101, 100]) := by
      unfold law_read_m law_read_b
      rw [e]
      rfl
    obtain ⟨o, ho, hcase⟩ := due_any seed ha
    rcases hcase with rfl | ⟨tr, rfl, g, hi⟩
    · unfold law_told_m law_told_b
      rw [ho, M.bind_ok, hr, M.bind_ok, if_pos (by rfl)]
      rfl
    · exact absurd hi (hn tr g)
end Pf

namespace Pf
open PySem L2 LK Tp NumText
theorem cell_ok (ns : List Int) (k : Nat) : ∃ c, law_cell_m ns (k : Int) = M.ok c := by
  unfold law_cell_m law_cell_b
  by_cases h : k < ns.length
  · refine ⟨ns[k], ?_⟩
    rw [if_pos (decide_eq_true (by omega)), at_nat (List.getElem?_eq_getElem h)]
    rfl
  · refine ⟨0, ?_⟩
    rw [if_neg (by rw [decide_eq_true_eq]; omega)]
    rfl
def NumL (l : List Int) : Prop := l.length = 8 ∧ ∀ x ∈ l, 0 ≤ x ∧ x < 1000
theorem mod1000 (a : Int) : 0 ≤ a % 1000 ∧ a % 1000 < 1000 := ⟨Int.emod_nonneg a (by decide), Int.emod_lt_of_pos a (by decide)⟩
theorem numbers_ok (c k : Int) : ∃ l, law_numbers_m c k 8 = M.ok l ∧ NumL l := by
  have hsz : sizeLine = 16777216 := rfl
  refine wm_ex ?_
  unfold law_numbers_m law_numbers_b
  refine wm_fin ?_
  rw [M.bind_ok, wm_ite]
  have app : ∀ (l : List Int) (a : Int), (∀ x ∈ l, 0 ≤ x ∧ x < 1000) → ∀ x ∈ l ++ [a % 1000], 0 ≤ x ∧ x < 1000 := fun l a h x hx => by
    rcases List.mem_append.mp hx with z | z
    · exact h x z
    · rw [List.mem_singleton.mp z]; exact mod1000 a
  refine ⟨fun _ => ?_, fun _ => ?_⟩
  · rw [M.bind_ok]
    refine wm_nx (fun s : Int × List Int => NumL s.2) ?_ fun s hs => by rw [wm_ok, fnw_ret]; exact hs
    rw [M.need_pos (by decide)]
    refine wm_forP (fun j (s : Int × List Int) => s.2.length = j ∧ ∀ x ∈ s.2, 0 ≤ x ∧ x < 1000) ⟨rfl, fun x hx => (nomatch hx)⟩ (fun j s a ha hj hs => ?_) (fun s hs => ⟨s, rfl, hs⟩)
    rw [rngL_len] at hj
    have hj : j < 8 := hj
    obtain ⟨h1, h2⟩ := hs
    rw [M.bind_ok, M.need_pos (by omega), M.bind_ok, wm_ok]
    exact ⟨_, rfl, by show (s.2 ++ [_]).length = j + 1; rw [List.length_append, h1]; rfl, app s.2 _ h2⟩
  · rw [M.bind_ok]
    refine wm_nx (fun s : Int × List Int => NumL s.2) ?_ fun s hs => by rw [wm_ok, fnw_ret]; exact hs
    rw [M.need_pos (by decide)]
    refine wm_forP (fun j (s : Int × List Int) => s.2.length = j ∧ ∀ x ∈ s.2, 0 ≤ x ∧ x < 1000) ⟨rfl, fun x hx => (nomatch hx)⟩ (fun j s a ha hj hs => ?_) (fun s hs => ⟨s, rfl, hs⟩)
    rw [rngL_len] at hj
    have hj : j < 8 := hj
    obtain ⟨h1, h2⟩ := hs
    have hv0 := Int.emod_nonneg (s.1 * 16807 + a * 7919 + 13) (show (2147483647 : Int) ≠ 0 by decide)
    have hv1 := Int.emod_lt_of_pos (s.1 * 16807 + a * 7919 + 13) (show (0 : Int) < 2147483647 by decide)
    rw [M.bind_ok]
    generalize (s.1 * 16807 + a * 7919 + 13) % 2147483647 = v at hv0 hv1
    rw [M.need_pos (.inl (by constructor <;> omega)), M.bind_ok, M.bind_ok, M.bind_ok, M.bind_ok, M.bind_ok, M.bind_ok, M.bind_ok, M.bind_ok, M.bind_ok, M.bind_ok, M.need_pos (by omega), wm_ok]
    exact ⟨_, rfl, by show (s.2 ++ [_]).length = j + 1; rw [List.length_append, h1]; rfl, app s.2 _ h2⟩
theorem repT_ok {x : List Nat} (hx : ASC x) (n : Int) : ASC (repT x n) ∧ (repT x n).length = x.length * n.toNat := by
  unfold repT
  induction n.toNat with
  | zero => exact ⟨fun c hc => (nomatch hc), rfl⟩
  | succ m ih =>
    rw [List.replicate_succ, List.flatten_cons]
    refine ⟨fun c hc => ?_, by rw [List.length_append, ih.2, Nat.mul_succ]; omega⟩
    rcases List.mem_append.mp hc with z | z
    · exact hx c z
    · exact ih.1 c z
def sg69 : List Nat := [32, 33, 35, 38, 40, 41, 42, 43, 44, 45, 46, 47, 48, 49, 50, 51, 52, 53, 54, 55, 56, 57, 58, 59, 60, 61, 62, 63, 64, 65, 66, 67, 88, 89, 90, 91, 93, 94, 95, 97, 98, 99, 100, 101, 102, 103, 104, 105, 106, 107, 108, 109, 110, 111, 112, 113, 114, 115, 116, 117, 118, 119, 120, 121, 122, 123, 124, 125, 126]
theorem sg69_asc : ∀ c ∈ sg69, c < 128 := by decide
theorem key_ok (n : Int) {c : Nat} (hc : c < 128) : ∃ k, law_key_m n [c] = M.ok k ∧ ASC k ∧ 1 ≤ k.length ∧ k.length ≤ 40 := by
  have hsz : sizeLine = 16777216 := rfl
  refine wm_ex ?_
  unfold law_key_m law_key_b
  refine wm_fin ?_
  refine wm_bx (x := sg69) rfl ?_
  rw [M.bind_ok]
  have m4 := Int.emod_nonneg n (show (4 : Int) ≠ 0 by decide)
  have m4' := Int.emod_lt_of_pos n (show (0 : Int) < 4 by decide)
  refine wm_nx (fun s : Int => 1 ≤ s ∧ s ≤ 40) ?_ fun s hs => ?_
  · rw [wm_ite]
    refine ⟨fun _ => ?_, fun _ => ?_⟩
    · rw [M.bind_ok, wm_ok]
      exact ⟨_, rfl, by decide, by decide⟩
    · rw [wm_ok]
      exact ⟨_, rfl, by omega, by omega⟩
  · obtain ⟨h1, h2⟩ := hs
    have p0 := Int.emod_nonneg (n / 4) (show s ≠ 0 by omega)
    have p1 := Int.emod_lt_of_pos (n / 4) (show 0 < s by omega)
    rw [M.need_pos (by omega), M.bind_ok]
    generalize n / 4 % s = v at p0 p1
    have hl : (sg69.length : Int) = 69 := by decide
    have i0 := Int.emod_nonneg (n / 7) (show (sg69.length : Int) ≠ 0 by rw [hl]; decide)
    have i1 := Int.emod_lt_of_pos (n / 7) (show 0 < (sg69.length : Int) by rw [hl]; decide)
    obtain ⟨hr1, hr2⟩ := repT_ok (x := [c]) (fun d hd => by rw [List.mem_singleton.mp hd]; exact hc) v
    obtain ⟨hs1, hs2⟩ := repT_ok (x := [c]) (fun d hd => by rw [List.mem_singleton.mp hd]; exact hc) (s - 1 - v)
    have l1 : ([c] : List Nat).length = 1 := rfl
    rw [l1] at hr2 hs2
    have hg := getD_mem (xs := sg69) (i := n / 7 % (sg69.length : Int)) 0 i0 i1
    have hat : at_ sg69 (n / 7 % (sg69.length : Int)) = M.ok (sg69.getD (n / 7 % (sg69.length : Int)).toNat 0) := wm_val ((wm_at3 (xs := sg69) 0 i0 i1).mpr rfl)
    have hd := sg69_asc _ hg
    generalize sg69.getD (n / 7 % (sg69.length : Int)).toNat 0 = d at hat hd
    refine wm_bx (x := [d]) ?_ ?_
    · rw [M.bind_ok, M.need_pos (by rw [hl]; decide), M.bind_ok, hat]
      rfl
    refine wm_bx (x := repT [c] v ++ [d] ++ repT [c] (s - 1 - v)) ?_ ?_
    · rw [M.need_pos ⟨by omega, by omega, by rw [l1]; omega⟩, M.bind_ok, M.bind_ok, M.need_pos (by rw [hr2]; simp only [List.length_cons, List.length_nil]; omega), M.bind_ok, M.need_pos ⟨by omega, by omega, by rw [l1]; omega⟩, M.bind_ok, M.need_pos (by simp only [List.length_append, hr2, hs2, List.length_cons, List.length_nil]; omega)]
    · rw [wm_ok, fnw_ret]
      refine ⟨fun x hx => ?_, by simp only [List.length_append, hr2, hs2, List.length_cons, List.length_nil]; omega, by simp only [List.length_append, hr2, hs2, List.length_cons, List.length_nil]; omega⟩
      rcases List.mem_append.mp hx with hx | hx
      · rcases List.mem_append.mp hx with hx | hx
        · exact hr1 x hx
        · rw [List.mem_singleton.mp hx]; exact hd
      · exact hs1 x hx
theorem value_ok (n : Int) : ∃ v, law_value_m n = M.ok v ∧ ASC v ∧ v.length ≤ 600 := by
  have hsz : sizeLine = 16777216 := rfl
  refine wm_ex ?_
  unfold law_value_m law_value_b
  refine wm_fin ?_
  rw [wm_ite]
  refine ⟨fun _ => ?_, fun _ => ?_⟩
  · obtain ⟨h1, h2⟩ := repT_ok (x := [118]) (fun d hd => by rw [List.mem_singleton.mp hd]; decide) 600
    rw [M.need_pos (by decide), M.bind_ok, wm_ok, fnw_ret]
    exact ⟨h1, by rw [h2]; decide⟩
  · have a0 := Int.emod_nonneg n (show (6 : Int) ≠ 0 by decide)
    have a1 := Int.emod_lt_of_pos n (show (0 : Int) < 6 by decide)
    have b0 := Int.emod_nonneg (n / 6) (show (20 : Int) ≠ 0 by decide)
    have b1 := Int.emod_lt_of_pos (n / 6) (show (0 : Int) < 20 by decide)
    have c0 := Int.emod_nonneg (n / 120) (show (3 : Int) ≠ 0 by decide)
    have c1 := Int.emod_lt_of_pos (n / 120) (show (0 : Int) < 3 by decide)
    obtain ⟨i, hi⟩ : ∃ i : Nat, n % 6 = (i : Int) := ⟨(n % 6).toNat, by omega⟩
    obtain ⟨k, hk⟩ : ∃ k : Nat, n / 6 % 20 = (k : Int) := ⟨(n / 6 % 20).toNat, by omega⟩
    rw [hi, hk]
    generalize n / 120 % 3 = m at c0 c1
    obtain ⟨q1, q2⟩ := str_need (n := k) (by omega)
    have d := dec_le (k := 2) (n := k) (by decide) (by omega)
    obtain ⟨h1, h2⟩ := repT_ok (x := dec k) (dec_asc k) m
    have hm : (dec k).length * m.toNat ≤ 4 := Nat.le_trans (Nat.mul_le_mul d (show m.toNat ≤ 2 by omega)) (by decide)
    have hcut : cut ([120, 121, 122, 58, 48] : List Nat) none (some (i : Int)) = ([120, 121, 122, 58, 48] : List Nat).take i := cut_to _ i
    have htl : (([120, 121, 122, 58, 48] : List Nat).take i).length ≤ 5 := by rw [List.length_take]; exact Nat.min_le_right _ _
    have hta : ASC (([120, 121, 122, 58, 48] : List Nat).take i) := fun c hc => by
      have : ∀ c ∈ ([120, 121, 122, 58, 48] : List Nat), c < 128 := by decide
      exact this c (List.mem_of_mem_take hc)
    rw [M.bind_ok, hcut, M.need_pos q1, M.bind_ok, M.bind_ok, q2, M.need_pos ⟨by omega, by omega, by omega⟩, M.bind_ok, M.need_pos (by rw [h2]; omega), M.bind_ok, wm_ok, fnw_ret]
    refine ⟨fun c hc => ?_, by rw [List.length_append, h2]; omega⟩
    rcases List.mem_append.mp hc with z | z
    · exact hta c z
    · exact h1 c z
theorem asc_take {t : List Nat} (h : ASC t) (n : Nat) : ASC (t.take n) := fun c hc => h c (List.mem_of_mem_take hc)
theorem asc_drop {t : List Nat} (h : ASC t) (n : Nat) : ASC (t.drop n) := fun c hc => h c (List.mem_of_mem_drop hc)
theorem asc_add {s t : List Nat} (h : ASC s) (h' : ASC t) : ASC (s ++ t) := fun c hc => (List.mem_append.mp hc).elim (h c) (h' c)
theorem spoilt_ok {tr : TT} (hk : KVT tr) (hb : (toL tr).length ≤ 200) {l : List Int} (hl : l.length = 3) (hx : ∀ x ∈ l, 0 ≤ x ∧ x < 1000) : ∃ t, law_spoilt_m (imgT tr) l = M.ok t ∧ ASC t := by
  have hsz : sizeLine = 16777216 := rfl
  obtain ⟨ha, hlen⟩ := imgT_asc hk hb
  match l, hl, hx with
  | [y0, y1, y2], _, hx =>
  have g0 := hx y0 (by simp)
  have g1 := hx y1 (by simp)
  have g2 := hx y2 (by simp)
  have hf : Txt.find (LK.S (imgT tr)) (LK.S [59]) = ((dec (toL tr).length).length : Int) := find59 (dec_no59 _)
  have hcut : cut (imgT tr) none (some ((dec (toL tr).length).length : Int)) = dec (toL tr).length := by rw [cut_to]; unfold imgT; rw [List.take_left]
  have hN := dec_le (k := 3) (n := (toL tr).length) (by decide) (by omega)
  have hi := int_dec (n := (toL tr).length) (by omega)
  generalize (toL tr).length = N at hf hcut hN hi hb
  generalize imgT tr = t at ha hlen hf hcut
  refine wm_ex ?_
  unfold law_spoilt_m law_spoilt_b
  refine wm_fin ?_
  have v0 := Int.emod_nonneg y1 (show ((t.length : Int) + 1) ≠ 0 by omega)
  have v1 := Int.emod_lt_of_pos y1 (show 0 < ((t.length : Int) + 1) by omega)
  refine wm_bx (x := y1 % ((t.length : Int) + 1)) (by
    rw [show at_ [y0, y1, y2] (1 : Int) = M.ok y1 from rfl]
    show M.need (0 < ((t.length : Int) + 1)) (M.ok (y1 % ((t.length : Int) + 1))) = _
    rw [M.need_pos (by omega)]) ?_
  obtain ⟨v, hv⟩ : ∃ v : Nat, y1 % ((t.length : Int) + 1) = (v : Int) := ⟨(y1 % ((t.length : Int) + 1)).toNat, by omega⟩
  rw [hv] at v0 v1 ⊢
  have w0 := Int.emod_nonneg y2 (show (10 : Int) ≠ 0 by decide)
  have w1 := Int.emod_lt_of_pos y2 (show (0 : Int) < 10 by decide)
  have hmenu : ∀ c ∈ ([48, 49, 50, 51, 58, 59, 97, 122, 57, 32] : List Nat), c < 128 := by decide
  have hg := getD_mem (xs := ([48, 49, 50, 51, 58, 59, 97, 122, 57, 32] : List Nat)) (i := y2 % 10) 0 w0 w1
  have hat : at_ ([48, 49, 50, 51, 58, 59, 97, 122, 57, 32] : List Nat) (y2 % 10) = M.ok (([48, 49, 50, 51, 58, 59, 97, 122, 57, 32] : List Nat).getD (y2 % 10).toNat 0) := wm_val ((wm_at3 (xs := ([48, 49, 50, 51, 58, 59, 97, 122, 57, 32] : List Nat)) 0 w0 w1).mpr rfl)
  have hd := hmenu _ hg
  generalize ([48, 49, 50, 51, 58, 59, 97, 122, 57, 32] : List Nat).getD (y2 % 10).toNat 0 = d at hat hd
  have hda : ASC [d] := fun c hc => by rw [List.mem_singleton.mp hc]; exact hd
  refine wm_bx (x := [d]) (by
    rw [show at_ [y0, y1, y2] (2 : Int) = M.ok y2 from rfl]
    show Mg.bind (at_ ([48, 49, 50, 51, 58, 59, 97, 122, 57, 32] : List Nat) (y2 % 10)) _ = _
    rw [hat]
    rfl) ?_
  refine wm_bx (x := y0 % 7) (by rw [show at_ [y0, y1, y2] (0 : Int) = M.ok y0 from rfl]; rfl) ?_
  have c1 : cut t none (some (v : Int)) = t.take v := cut_to t v
  have c2 : cut t (some (v : Int)) none = t.drop v := cut_nat' t v
  have c3 : cut t (some ((v : Int) + 1)) none = t.drop (v + 1) := by
    rw [show ((v : Int) + 1) = ((v + 1 : Nat) : Int) from by omega]
    exact cut_nat' t (v + 1)
  have l1 : (t.take v).length ≤ 130210 := by rw [List.length_take]; omega
  have l2 : (t.drop v).length ≤ 130210 := by rw [List.length_drop]; omega
  have l3 : (t.drop (v + 1)).length ≤ 130210 := by rw [List.length_drop]; omega
  have l4 : (t.drop (dec N).length).length ≤ 130210 := by rw [List.length_drop]; omega
  have ld : ([d] : List Nat).length = 1 := rfl
  rw [c1, c2, c3]
  rw [wm_ite]
  refine ⟨fun _ => ?_, fun _ => ?_⟩
  · rw [M.need_pos (by omega), M.bind_ok, M.bind_ok, M.need_pos (by rw [List.length_append]; omega), M.bind_ok, wm_ok, fnw_ret]
    exact asc_add (asc_add (asc_take ha _) hda) (asc_drop ha _)
  rw [wm_ite]
  refine ⟨fun _ => ?_, fun _ => ?_⟩
  · rw [M.need_pos (by omega), M.bind_ok, wm_ok, fnw_ret]
    exact asc_add (asc_take ha _) (asc_drop ha _)
  rw [wm_ite]
  refine ⟨fun _ => ?_, fun _ => ?_⟩
  · rw [M.need_pos (by omega), M.bind_ok, M.bind_ok, M.need_pos (by rw [List.length_append]; omega), M.bind_ok, wm_ok, fnw_ret]
    exact asc_add (asc_add (asc_take ha _) hda) (asc_drop ha _)
  rw [wm_ite]
  refine ⟨fun _ => (wm_ok _).mpr (asc_drop ha _), fun _ => ?_⟩
  rw [wm_ite]
  refine ⟨fun _ => ?_, fun _ => ?_⟩
  · rw [M.need_pos (by omega), M.bind_ok, wm_ok, fnw_ret]
    exact asc_add ha (asc_drop ha _)
  have c4 : cut t (some ((dec N).length : Int)) none = t.drop (dec N).length := cut_nat' t _
  rw [M.bind_ok, hf, hcut, M.need_pos (by omega), hi, M.bind_ok, c4, wm_ite]
  refine ⟨fun _ => ?_, fun _ => ?_⟩
  · obtain ⟨q1, q2⟩ := str_need (n := N + 1) (by omega)
    have dl := dec_le (k := 3) (n := N + 1) (by decide) (by omega)
    rw [show ((N : Int) + 1) = ((N + 1 : Nat) : Int) from by omega, M.need_pos q1, M.bind_ok, M.bind_ok, q2, M.need_pos (by omega), M.bind_ok, wm_ok, fnw_ret]
    exact asc_add (dec_asc _) (asc_drop ha _)
  · obtain ⟨M0, hM, hM2⟩ : ∃ M0 : Nat, (if ((N : Int) - 1) > 0 then ((N : Int) - 1) else 0) = (M0 : Int) ∧ M0 ≤ 200 := by
      by_cases h : ((N : Int) - 1) > 0
      · exact ⟨N - 1, by rw [if_pos h]; omega, by omega⟩
      · exact ⟨0, by rw [if_neg h]; rfl, by omega⟩
    obtain ⟨q1, q2⟩ := str_need (n := M0) (by omega)
    have dl := dec_le (k := 3) (n := M0) (by decide) (by omega)
    rw [hM, M.need_pos q1, M.bind_ok, M.bind_ok, q2, M.need_pos (by omega), M.bind_ok, wm_ok, fnw_ret]
    exact asc_add (dec_asc _) (asc_drop ha _)
end Pf

namespace Pf
open PySem L2 LK Tp NumText
theorem size_f_ok : ∀ (n : Nat) (t : TT), t.dep < n → law_size_f n t = M.ok (((toL t).length : Nat) : Int)
  | 0, _, c => by omega
  | n + 1, .nil, _ => rfl
  | n + 1, .node k a l r, c => by
    have c : max l.dep r.dep + 1 < n + 1 := c
    have g1 := size_f_ok n l (by omega)
    have g2 := size_f_ok n r (by omega)
    show fin none (law_size_b (law_size_f n) (.node k a l r)) = _
    unfold law_size_b
    refine wm_val (wm_fin ?_)
    have hn : (Tr.node k a l r).isNil = false := rfl
    simp only [hn, trK, trA, trL, trRt, Bool.false_eq_true, if_false, wm_bind, wm_ok, g1, g2, fnw_ret]
    show 1 + ((toL l).length : Int) + ((toL r).length : Int) = (((toL l ++ (k, a) :: toL r).length : Nat) : Int)
    rw [List.length_append, List.length_cons]
    omega
theorem size_ok {t : TT} (h : (toL t).length ≤ 200) : law_size_m t = M.ok (((toL t).length : Nat) : Int) := size_f_ok 205 t (by have := dep_le t; omega)
theorem kv_mix {k v k' v' : List Nat} (h : KV (k, v)) (h' : KV (k', v')) : KV (k, v') := ⟨h.k1, h.k2, h'.v2, h.ka, h'.va⟩
def OddOk (n : Nat) (u : TT) : Prop := KVT u ∧ (toL u).length ≤ n
theorem toL_len (k a : List Nat) (l r : TT) : (toL (.node k a l r)).length = (toL l).length + (toL r).length + 1 := by
  show (toL l ++ (k, a) :: toL r).length = _
  rw [List.length_append, List.length_cons]
  omega
theorem odd_ok {tr ot : TT} (h : KVT tr) (h' : KVT ot) : ∃ L, law_odd_m tr ot = M.ok L ∧ ∀ u ∈ L, OddOk ((toL tr).length + (toL ot).length) u := by
  cases tr with
  | nil => exact ⟨[.nil], rfl, fun u hu => by rw [List.mem_singleton.mp hu]; exact ⟨kvt_nil, Nat.zero_le _⟩⟩
  | node k v l r =>
    have n1 := toL_len k v r l
    have n2 := toL_len k v ot r
    have n3 := toL_len k v l ot
    have b1 : OddOk ((toL (.node k v l r)).length + (toL ot).length) (.node k v r l) := ⟨kvt_node h.n h.r h.l, by rw [n1, toL_len]; omega⟩
    have b2 : OddOk ((toL (.node k v l r)).length + (toL ot).length) (.node k v ot r) := ⟨kvt_node h.n h' h.r, by rw [n2, toL_len]; omega⟩
    have b3 : OddOk ((toL (.node k v l r)).length + (toL ot).length) (.node k v l ot) := ⟨kvt_node h.n h.l h', by rw [n3, toL_len]; omega⟩
    have left : ∀ lk lv ll lr, l = .node lk lv ll lr → OddOk ((toL (.node k v l r)).length + (toL ot).length) (.node lk lv ll (.node k v lr r)) ∧ OddOk ((toL (.node k v l r)).length + (toL ot).length) (.node lk v (.node k lv ll lr) r) := fun lk lv ll lr e => by
      subst e
      have hl := h.l
      refine ⟨⟨kvt_node hl.n hl.l (kvt_node h.n hl.r h.r), ?_⟩, ⟨kvt_node (kv_mix hl.n h.n) (kvt_node (kv_mix h.n hl.n) hl.l hl.r) h.r, ?_⟩⟩ <;> simp only [toL_len] <;> omega
    have right : ∀ rk rv rl rr, r = .node rk rv rl rr → OddOk ((toL (.node k v l r)).length + (toL ot).length) (.node rk rv (.node k v l rl) rr) := fun rk rv rl rr e => by
      subst e
      have hr := h.r
      refine ⟨kvt_node hr.n (kvt_node h.n h.l hr.l) hr.r, ?_⟩
      simp only [toL_len]
      omega
    cases l with
    | nil =>
      cases r with
      | nil =>
        refine ⟨_, rfl, fun u hu => ?_⟩
        simp only [List.mem_cons, List.not_mem_nil, or_false] at hu
        rcases hu with rfl | rfl | rfl
        · exact b1
        · exact b2
        · exact b3
      | node rk rv rl rr =>
        refine ⟨_, rfl, fun u hu => ?_⟩
        simp only [List.mem_append, List.mem_cons, List.not_mem_nil, or_false] at hu
        rcases hu with (rfl | rfl | rfl) | rfl
        · exact b1
        · exact b2
        · exact b3
        · exact right _ _ _ _ rfl
    | node lk lv ll lr =>
      cases r with
      | nil =>
        refine ⟨_, rfl, fun u hu => ?_⟩
        simp only [List.mem_append, List.mem_cons, List.not_mem_nil, or_false] at hu
        rcases hu with ((rfl | rfl | rfl) | rfl) | rfl
        · exact b1
        · exact b2
        · exact b3
        · exact (left _ _ _ _ rfl).1
        · exact (left _ _ _ _ rfl).2
      | node rk rv rl rr =>
        refine ⟨_, rfl, fun u hu => ?_⟩
        simp only [List.mem_append, List.mem_cons, List.not_mem_nil, or_false] at hu
        rcases hu with (((rfl | rfl | rfl) | rfl) | rfl) | rfl
        · exact b1
        · exact b2
        · exact b3
        · exact (left _ _ _ _ rfl).1
        · exact (left _ _ _ _ rfl).2
        · exact right _ _ _ _ rfl
def gRow (i : Nat) : List Nat × List Nat := (107 :: dec (1000 + i), dec i)
def gRows (n : Nat) : Dc := (List.range n).map gRow
theorem gRows_srt : Srt (gRows 201) := by
  unfold Srt
  decide +kernel
theorem gRows_kv (n : Nat) (hn : n ≤ 201) : ∀ p ∈ gRows n, KV p := fun p hp => by
  obtain ⟨i, hi, rfl⟩ := List.mem_map.mp hp
  have hi := List.mem_range.mp hi
  have d1 := dec_le (k := 4) (n := 1000 + i) (by decide) (by omega)
  have d2 := dec_le (k := 3) (n := i) (by decide) (by omega)
  refine ⟨?_, ?_, ?_, fun c hc => ?_, dec_asc i⟩
  · show 1 ≤ (107 :: dec (1000 + i)).length
    rw [List.length_cons]; omega
  · show (107 :: dec (1000 + i)).length ≤ 40
    rw [List.length_cons]; omega
  · show (dec i).length ≤ 600
    omega
  · rcases List.mem_cons.mp hc with rfl | hc
    · decide
    · exact dec_asc _ c hc
theorem gRows_200 : Srt (gRows 200) := by
  have : gRows 200 = (gRows 201).take 200 := by
    unfold gRows
    rw [← List.map_take]
    congr 1
  rw [this]
  exact List.Pairwise.sublist (List.take_sublist _ _) gRows_srt
theorem great_ok (seed : Int) {n : Nat} (hn : n ≤ 201) (hs : Srt (gRows n)) : ∃ tr, law_great_m seed (n : Int) = M.ok (dec n ++ 59 :: (preT tr).flatten) ∧ ASC (dec n ++ 59 :: (preT tr).flatten) := by
  have hsz : sizeLine = 16777216 := rfl
  have hlen : (gRows n).length = n := by unfold gRows; rw [List.length_map, List.length_range]
  obtain ⟨tr, e, h1, h2⟩ := ltree_ok seed (gRows n) (by omega) hs
  have hk : KVT tr := fun p hp => by
    rw [h2] at hp
    exact gRows_kv n hn p hp
  have f1 := flat_le (n := 651) fun x hx => (preT_mem hk x hx).2
  rw [preT_len, h2, hlen] at f1
  refine ⟨tr, ?_, ?_⟩
  · unfold law_great_m law_great_b
    refine wm_val (wm_fin ?_)
    have hr : rngL (n : Int) = (List.range n).map fun (k : Nat) => (k : Int) := by unfold rngL; rw [Int.toNat_natCast]
    refine wm_bx (x := gRows n) ?_ ?_
    · rw [M.need_pos (by omega), hr, lcL_map (fun a : Int => gRow a.toNat) _ [] (fun a ha => ?_) (by rw [List.length_map, List.length_range, hsz]; show 0 + _ ≤ _; omega), List.nil_append, List.map_map]
      · rfl
      · obtain ⟨i, hi, rfl⟩ := List.mem_map.mp ha
        have hi := List.mem_range.mp hi
        have d1 := dec_le (k := 4) (n := 1000 + i) (by decide) (by omega)
        obtain ⟨q1, q2⟩ := str_need (n := 1000 + i) (by omega)
        obtain ⟨w1, w2⟩ := str_need (n := i) (by omega)
        rw [M.bind_ok, show ((1000 : Int) + (i : Int)) = ((1000 + i : Nat) : Int) from by omega, M.need_pos q1, M.bind_ok, q2, M.need_pos (by simp only [List.length_cons, List.length_nil]; omega), M.bind_ok, M.need_pos w1, w2]
        rfl
    · refine wm_bx (x := dec n ++ 59 :: (preT tr).flatten) ?_ (by rw [wm_ok, fnw_ret])
      have e1 : (((law_tree_m seed (gRows n)).bind fun x13 => (M.ok ()).bind fun y14 => M.ok (x13, y14)).bind fun a15 => law_nodes_m a15.1 : Mg Er (List Nat)) = M.ok (preT tr).flatten := by
        rw [e]
        exact lnodes_ok hk (by rw [h2, hlen]; exact hn)
      rw [e1]
      exact ltext (n := n) (x := (preT tr).flatten) (by omega) (by omega)
  · refine asc_add (dec_asc n) fun c hc => ?_
    rcases List.mem_cons.mp hc with rfl | hc
    · decide
    · exact flat_asc (fun x hx => (preT_mem hk x hx).1) c hc
theorem read_no (seed : Int) {t : List Nat} (ha : ASC t) (hn : ∀ tr, GT seed tr → imgT tr ≠ t) : law_read_m seed t = M.ok (Tr.nil, [114, 101, 102, 117, 115, 101, 100]) := by
  rcases read_iff seed ha with ⟨tr, e, g, hi⟩ | ⟨e, _⟩
  · exact absurd hi (hn tr g)
  · unfold law_read_m law_read_b
    rw [e]
    rfl
theorem great_no (seed : Int) {x : List Nat} : ∀ tr, GT seed tr → imgT tr ≠ dec 201 ++ 59 :: x := fun tr g z => by
  have h1 := (tw59 (q := x) (dec_no59 201)).1
  have h2 := (tw59 (q := (preT tr).flatten) (dec_no59 (toL tr).length)).1
  have z : dec (toL tr).length ++ 59 :: (preT tr).flatten = dec 201 ++ 59 :: x := z
  rw [← z, h2] at h1
  have h1 := congrArg digitsVal h1
  rw [dec_val, dec_val] at h1
  have := g.n
  omega
theorem empty_no (seed : Int) : ∀ tr, GT seed tr → imgT tr ≠ [] := fun tr g z => by
  have := congrArg List.length z
  unfold imgT at this
  rw [List.length_append, List.length_cons] at this
  simp at this
end Pf

namespace Pf
open PySem L2 LK Tp NumText
structure CI (n : Nat) (s : Dc × List (List Int)) : Prop where
  nd : (s.1.map (·.1)).Nodup
  kv : ∀ p ∈ s.1, KV p
  l : s.1.length ≤ 2 * n
  sl : s.2.length ≤ n
  sp : ∀ l ∈ s.2, l.length = 3 ∧ ∀ x ∈ l, 0 ≤ x ∧ x < 1000
theorem CI.put {c : Dc} {k v : List Nat} (nd : (c.map (·.1)).Nodup) (kv : ∀ p ∈ c, KV p) (h : KV (k, v)) : ((dput c k v).map (·.1)).Nodup ∧ (∀ p ∈ dput c k v, KV p) ∧ (dput c k v).length ≤ c.length + 1 := by
  refine ⟨dput_nd nd, fun p hp => ?_, dput_le⟩
  rcases mem_dput.mp hp with rfl | ⟨hp, _⟩
  · exact h
  · exact kv p hp
theorem told_side {seed : Int} {t : List Nat} (ha : ASC t) : ((law_told_m seed t).bind fun b => M.ok (!b) : Mg Er Bool) = M.ok false := by
  rw [told_ok seed ha]
  rfl
theorem lo_img {seed : Int} {tr : TT} (g : GT seed tr) : ((load_order_m seed (imgT tr)).bind fun x => Order_image_m x : Mg Er (List Nat)) = M.ok (imgT tr) := by
  have e := tfi_img (seed := seed) g.k g.n g.s g.o
  have e2 := entries_ok g.n
  have e3 : load_order_m seed (imgT tr) = M.ok (seed, tr, ((toL tr).length : Int)) := by
    unfold load_order_m load_order_b Order_adopt_m Order_adopt_b
    simp only [show Order_init_m seed = M.ok (seed, Tr.nil, 0) from rfl, M.bind_ok, e, e2]
    rfl
  rw [e3, M.bind_ok]
  unfold Order_image_m Order_image_b
  rw [timg_ok g.k g.n]
  rfl
theorem law_true (ns : List Int) (h : ns.length ≤ 63) : law_m ns = M.ok true := by
  have hsz : sizeLine = 16777216 := rfl
  obtain ⟨c0, e0⟩ := cell_ok ns 0
  have e0 : law_cell_m ns (0 : Int) = M.ok c0 := e0
  unfold law_m law_b
  refine wm_val (wm_fin ?_)
  refine wm_bx (x := c0 % 1000000) (by rw [e0]; rfl) ?_
  generalize c0 % 1000000 = seed
  have p0 := Int.emod_nonneg (c0 / 1000000) (show (2 : Int) ≠ 0 by decide)
  have p1 := Int.emod_lt_of_pos (c0 / 1000000) (show (0 : Int) < 2 by decide)
  have hat : at_ ([97, 98] : List Nat) (c0 / 1000000 % 2) = M.ok (([97, 98] : List Nat).getD (c0 / 1000000 % 2).toNat 0) := wm_val ((wm_at3 (xs := ([97, 98] : List Nat)) 0 p0 p1).mpr rfl)
  have hgm := getD_mem (xs := ([97, 98] : List Nat)) (i := c0 / 1000000 % 2) 0 p0 p1
  have hd : ([97, 98] : List Nat).getD (c0 / 1000000 % 2).toNat 0 < 128 := by
    have : ∀ c ∈ ([97, 98] : List Nat), c < 128 := by decide
    exact this _ hgm
  generalize ([97, 98] : List Nat).getD (c0 / 1000000 % 2).toNat 0 = d at hat hd
  refine wm_bx (x := [d]) (by rw [M.bind_ok, e0, M.bind_ok, M.bind_ok, M.bind_ok, hat]; rfl) ?_
  rw [M.bind_ok, M.bind_ok]
  refine wm_nx (fun s : Dc × List (List Int) => CI 12 s) ?_ ?_
  · obtain ⟨X, hX, hX2, hX3⟩ : ∃ X : Int, (if (if (13 : Int) < (ns.length : Int) then (13 : Int) else (ns.length : Int)) > (2 : Int) then (if (13 : Int) < (ns.length : Int) then (13 : Int) else (ns.length : Int)) else (2 : Int)) = X ∧ 2 ≤ X ∧ X ≤ 13 := by
      by_cases h1 : (13 : Int) < (ns.length : Int)
      · exact ⟨13, by rw [if_pos h1, if_pos (by decide)], by decide, by decide⟩
      · by_cases h2 : (ns.length : Int) > 2
        · exact ⟨(ns.length : Int), by rw [if_neg h1, if_pos h2], by omega, by omega⟩
        · exact ⟨2, by rw [if_neg h1, if_neg h2], by decide, by decide⟩
    rw [M.bind_ok, M.bind_ok, hX, M.need_pos (by omega)]
    refine wm_forP (fun j (s : Dc × List (List Int)) => CI j s) ⟨List.nodup_nil, fun p hp => (nomatch hp), Nat.le_refl _, Nat.le_refl _, fun l hl => (nomatch hl)⟩ (fun j s a ha hj hs => ?_) (fun s hs => ⟨s, rfl, ?_⟩)
    · rw [rng2L_len] at hj
      have ha' : a = ((j + 1 : Nat) : Int) := by
        have := rng2L_get (a := 1) (b := X) (i := j) (by omega)
        rw [this] at ha
        have := Option.some.inj ha
        omega
      subst ha'
      have hj12 : j < 12 := by omega
      obtain ⟨c, ec⟩ := cell_ok ns (j + 1)
      obtain ⟨l, el, hl8, hlx⟩ := numbers_ok c ((j + 1 : Nat) : Int)
      have hati : ∀ i : Nat, i < 8 → at_ l (i : Int) = M.ok (l.getD i 0) := fun i hi => at_nat (by rw [List.getD_eq_getElem?_getD, List.getElem?_eq_getElem (by omega)]; rfl)
      have ha0 : at_ l (0 : Int) = M.ok (l.getD 0 0) := hati 0 (by decide)
      have ha1 : at_ l (1 : Int) = M.ok (l.getD 1 0) := hati 1 (by decide)
      have ha2 : at_ l (2 : Int) = M.ok (l.getD 2 0) := hati 2 (by decide)
      have ha3 : at_ l (3 : Int) = M.ok (l.getD 3 0) := hati 3 (by decide)
      obtain ⟨v1, ev1, av1, lv1⟩ := value_ok (l.getD 1 0)
      obtain ⟨k1, ek1, ak1, lk1, lk1'⟩ := key_ok (l.getD 0 0) hd
      obtain ⟨v2, ev2, av2, lv2⟩ := value_ok (l.getD 3 0)
      obtain ⟨k2, ek2, ak2, lk2, lk2'⟩ := key_ok (l.getD 2 0) (show 109 < 128 by decide)
      obtain ⟨n1, n2, n3⟩ := CI.put hs.nd hs.kv (k := k1) (v := v1) ⟨lk1, lk1', lv1, ak1, av1⟩
      obtain ⟨w1, w2, w3⟩ := CI.put n1 n2 (k := k2) (v := v2) ⟨lk2, lk2', lv2, ak2, av2⟩
      have hsl := hs.l
      have hss := hs.sl
      refine wm_bx (x := l) (by rw [ec]; exact el) ?_
      refine wm_bx (x := v1) (by rw [ha1]; exact ev1) ?_
      refine wm_bx (x := k1) (by rw [ha0]; exact ek1) ?_
      rw [M.need_pos (by omega)]
      refine wm_bx (x := v2) (by rw [ha3]; exact ev2) ?_
      refine wm_bx (x := k2) (by rw [ha2]; exact ek2) ?_
      rw [M.need_pos (by omega), M.bind_ok, M.need_pos (by omega), wm_ok]
      refine ⟨_, rfl, w1, w2, by show (dput (dput s.1 k1 v1) k2 v2).length ≤ 2 * (j + 1); omega, by show (s.2 ++ [_]).length ≤ j + 1; rw [List.length_append]; show s.2.length + 1 ≤ j + 1; omega, fun y hy => ?_⟩
      rcases List.mem_append.mp hy with z | z
      · exact hs.sp y z
      · have hc : cut l (some (4 : Int)) (some (7 : Int)) = (l.drop 4).take 3 := cut_nat l 4 7
        rw [List.mem_singleton.mp z, hc]
        exact ⟨by rw [List.length_take, List.length_drop]; omega, fun x hx => hlx x (List.mem_of_mem_drop (List.mem_of_mem_take hx))⟩
    · rw [rng2L_len] at hs
      have hl := hs.l
      have hss := hs.sl
      exact ⟨hs.nd, hs.kv, by omega, by omega, hs.sp⟩
  · rintro ⟨c, sp⟩ hs
    have hnd : (c.map (·.1)).Nodup := hs.nd
    have hkv : ∀ p ∈ c, KV p := hs.kv
    have hcl : c.length ≤ 24 := hs.l
    have hsp : ∀ l ∈ sp, l.length = 3 ∧ ∀ x ∈ l, 0 ≤ x ∧ x < 1000 := hs.sp
    rw [M.bind_ok]
    refine wm_nx (fun t : TT => Good seed t c) ?_ ?_
    · refine wm_forP (fun j (t : TT) => Good seed t (c.take j)) ⟨List.nodup_nil, trivial, by simp [rowsOf, sortT, toL]⟩ (fun j t a ha hj ht => ?_) (fun t ht => ⟨t, rfl, by rwa [List.length_map, List.take_length] at ht⟩)
      rw [List.length_map] at hj
      rw [List.getElem?_map, List.getElem?_eq_getElem hj] at ha
      have ha := Option.some.inj ha
      have hm : c[j] ∈ c := List.getElem_mem hj
      have hgd : dget c c[j].1 = some c[j].2 := dget_mem hnd hm
      have htk : c.take (j + 1) = c.take j ++ [c[j]] := by rw [List.take_add_one, List.getElem?_eq_getElem hj]; rfl
      have hnew : c[j].1 ∉ (c.take j).map (·.1) := fun z => by
        obtain ⟨p, hp, e⟩ := List.mem_map.mp z
        obtain ⟨i, hi, rfl⟩ := List.getElem_of_mem hp
        rw [List.length_take] at hi
        rw [List.getElem_take] at e
        have := List.pairwise_iff_getElem.mp hnd i j (by rw [List.length_map]; omega) (by rw [List.length_map]; omega) (by omega)
        rw [List.getElem_map, List.getElem_map] at this
        exact this e
      have ha : c[j].1 = a := ha
      subst ha
      have hgp := good_put (v := c[j].2) ht (k := c[j].1)
      rw [dput_new hnew] at hgp
      have hlen : (toL t).length ≤ 200 := by rw [ht.len, List.length_take]; omega
      refine wm_bx (x := putP (hg seed) t c[j].1 c[j].2) ?_ ?_
      · rw [M.bind_ok, M.bind_ok, M.bind_ok, M.bind_ok, M.bind_ok, hgd]
        exact put_ok hlen
      · rw [wm_ok]
        refine ⟨_, rfl, ?_⟩
        rw [htk]
        exact hgp
    · intro t ht
      have hrow := ht.rows
      have hln : (toL t).length = c.length := ht.len
      have hk : KVT t := fun p hp => by
        rw [hrow] at hp
        exact hkv p ((rows_mem hnd p).mp hp)
      have g : GT seed t := ⟨ht.srt, ht.to, hk, by omega⟩
      obtain ⟨tr, e, h1, h2, h3, h4, h5, h6⟩ := due_end (seed := seed) hnd hkv (by omega)
      have hT : tr = t := uniq (hg seed) h1 ht.to (by rw [h2, hrow]) (by rw [h2]; exact rows_srt hnd)
      subst hT
      obtain ⟨ha, hal⟩ := imgT_asc g.k g.n
      have hrl : (rowsOf c).length = c.length := rows_len
      have himg : dec (rowsOf c).length ++ 59 :: (preT tr).flatten = imgT tr := by unfold imgT; rw [h5, hrl]
      refine wm_bx (x := rowsOf c) (rows_lc hnd (by show c.length ≤ 100000; omega)) ?_
      refine wm_bx (x := tr) e ?_
      refine wm_bx (x := imgT tr) ?_ ?_
      · rw [h4, ← himg]
        exact ltext (n := (rowsOf c).length) (x := (preT tr).flatten) (by omega) h6
      have hdep := dep_le tr
      refine wm_bx (x := false) ?_ ?_
      · rw [timg_ok g.k g.n, M.bind_ok, M.bind_ok, decide_eq_true rfl, M.bind_ok, if_neg (by exact Bool.false_ne_true), M.need_pos (by omega), decide_eq_true rfl]
        rfl
      rw [if_neg Bool.false_ne_true]
      refine wm_nx (fun _ => True) ?_ fun _ _ => ?_
      · refine wm_forP (fun _ _ => True) trivial (fun j u l hl _ _ => ?_) (fun u _ => ⟨u, rfl, trivial⟩)
        obtain ⟨hl3, hlx⟩ := hsp l (List.mem_of_getElem? hl)
        obtain ⟨t', et', at'⟩ := spoilt_ok g.k g.n hl3 hlx
        refine wm_bx (x := false) (by rw [M.bind_ok, et']; exact told_side at') ?_
        rw [if_neg Bool.false_ne_true]
        have hl0 : at_ l (0 : Int) = M.ok (l.getD 0 0) := at_nat (i := 0) (by rw [List.getD_eq_getElem?_getD, List.getElem?_eq_getElem (by omega)]; rfl)
        refine wm_bx (x := false) (by rw [M.bind_ok, hl0]; exact told_side ha) ?_
        rw [if_neg Bool.false_ne_true]
        refine wm_bx (x := false) ?_ ?_
        · rw [tfi_img g.k g.n g.s g.o, M.bind_ok, M.bind_ok, M.need_pos (by omega), decide_eq_true rfl, M.bind_ok, if_neg (by exact Bool.false_ne_true), lo_img g, M.bind_ok, M.bind_ok, decide_eq_true rfl]
          rfl
        · rw [if_neg Bool.false_ne_true, wm_ok]
          exact ⟨_, rfl, trivial⟩
      refine wm_nx (fun _ => True) ?_ fun _ _ => ?_
      · have hc3 : cut (rowsOf c) none (some (3 : Int)) = (rowsOf c).take 3 := cut_to _ 3
        have ht3 : ((rowsOf c).take 3).length ≤ 3 := by rw [List.length_take]; exact Nat.min_le_left _ _
        obtain ⟨ot, eot, o1, o2⟩ := ltree_ok ((seed + 7) % 1000000) ((rowsOf c).take 3) (by omega) (List.Pairwise.sublist (List.take_sublist _ _) (rows_srt hnd))
        have hok : KVT ot := fun p hp => by
          rw [o2] at hp
          exact hkv p ((rows_mem hnd p).mp (List.mem_of_mem_take hp))
        have hol : (toL ot).length ≤ 3 := by rw [o2]; exact ht3
        obtain ⟨L, eL, hL⟩ := odd_ok (tr := tr) g.k hok
        refine wm_bx (x := L) (by rw [M.bind_ok, hc3, eot]; exact eL) ?_
        refine wm_forP (fun _ _ => True) trivial (fun j u a hl _ _ => ?_) (fun u _ => ⟨u, rfl, trivial⟩)
        obtain ⟨ka, la⟩ := hL a (List.mem_of_getElem? hl)
        have la : (toL a).length ≤ 200 := by omega
        obtain ⟨aa, _⟩ := imgT_asc ka la
        obtain ⟨pf, _⟩ := preT_fl ka la
        have etx : ((((((law_size_m a).bind fun x129 => (M.ok ()).bind fun y130 => M.ok (x129, y130)).bind fun a131 => M.need (a131.1.natAbs.log2 < 1920 ∧ tOk (strI a131.1)) (M.ok (strI a131.1))).bind fun x132 => (M.ok (([59] : List Nat))).bind fun x133 => M.need (x132.length + x133.length ≤ sizeLine) (M.ok (x132 ++ x133))).bind fun x134 => (law_nodes_m a).bind fun x135 => M.need (x134.length + x135.length ≤ sizeLine) (M.ok (x134 ++ x135))) : Mg Er (List Nat)) = M.ok (imgT a) := by
          rw [size_ok la, lnodes_ok ka (by omega)]
          exact ltext (n := (toL a).length) (x := (preT a).flatten) (by omega) (by omega)
        refine wm_bx (x := false) ?_ ?_
        · rw [M.bind_ok, etx]
          exact told_side aa
        · rw [if_neg Bool.false_ne_true, wm_ok]
          exact ⟨_, rfl, trivial⟩
      refine wm_nx (fun _ => True) ?_ fun _ _ => ?_
      · refine wm_bx (x := decide (c0 / 2000000 % 16 = 3)) (by rw [e0]; rfl) ?_
        rw [wm_ite]
        refine ⟨fun _ => ?_, fun _ => (wm_ok _).mpr ⟨_, rfl, trivial⟩⟩
        obtain ⟨t1, g1, a1⟩ := great_ok seed (n := 200) (by decide) gRows_200
        obtain ⟨t2, g2, a2⟩ := great_ok seed (n := 201) (by decide) gRows_srt
        have g1 : law_great_m seed (200 : Int) = _ := g1
        have g2 : law_great_m seed (201 : Int) = _ := g2
        refine wm_bx (x := false) ?_ ?_
        · rw [M.bind_ok, g1]
          refine Eq.trans (congrArg (fun m : Mg Er Bool => Mg.bind m fun b164 => if b164 = true then M.ok true else ((((M.ok seed).bind fun x158 => ((law_great_m seed (201 : Int)).bind fun x156 => (M.ok ()).bind fun y157 => M.ok (x156, y157)).bind fun y159 => M.ok (x158, y159)).bind fun a160 => law_read_m a160.1 a160.2.1).bind fun x161 => M.ok (x161.2)).bind fun x162 => (M.ok (([114, 101, 102, 117, 115, 101, 100] : List Nat))).bind fun x163 => M.ok (!decide (x162 = x163))) (told_side (seed := seed) a1)) ?_
          rw [M.bind_ok, if_neg (by exact Bool.false_ne_true), M.bind_ok, g2]
          refine Eq.trans (congrArg (fun m : Mg Er (TT × List Nat) => (m.bind fun x161 => M.ok (x161.2)).bind fun x162 => (M.ok (([114, 101, 102, 117, 115, 101, 100] : List Nat))).bind fun x163 => M.ok (!decide (x162 = x163))) (read_no seed a2 (great_no seed))) ?_
          rfl
        · rw [if_neg Bool.false_ne_true, wm_ok]
          exact ⟨_, rfl, trivial⟩
      · have r0 : law_read_m seed ([48, 59] : List Nat) = M.ok (Tr.nil, [114, 101, 97, 100]) := by
          have e := tfi_img (seed := seed) (t := .nil) kvt_nil (Nat.zero_le _) List.Pairwise.nil trivial
          have e : tree_from_image_m seed ([48, 59] : List Nat) = M.ok .nil := e
          unfold law_read_m law_read_b
          rw [e]
          rfl
        have r1 := read_no seed (t := []) (fun c hc => (nomatch hc)) (empty_no seed)
        refine wm_bx (x := (Tr.nil, ([114, 101, 97, 100] : List Nat))) r0 ?_
        refine wm_bx (x := true) ?_ (by rw [wm_ok, fnw_ret])
        rw [M.need_pos (by show 0 + 0 ≤ 255; decide), decide_eq_true rfl, M.bind_ok, if_pos rfl, r1]
        rfl
end Pf
namespace Pf
open PySem PySem.Spec PyProof.Rows L2 LK
section
variable {P : Program} {w : World} {K : PySem.W.Frag} {mg : Str → Option Value} {base : Heap} {h : Heap}
abbrev st_law_shape : Stmt := top 41
theorem sc_law_shape : FnScope ["_law_rows", "_law_top", "_law_k"] ["_law_rows"] (defScope st_law_shape) := ⟨rfl, rfl, rfl, by decide +kernel, rfl, by decide +kernel, by decide +kernel⟩
theorem okn_law_shape (KX : K.In h) (GN : h.Ns mainGlobals mg) (c : Sy fa fn fx K) : ∀ n : Nat, Cal P w K mg base "_law_shape" ["_law_rows"] (1 + n) (spP K (fun (a : (List (((List Nat) × (List Nat) × Int))) × Unit) => [(bw (tL K (fTup K (tvc fTxt (tvc fTxt (tv1 fInt))))) a.1)]) (fun a => law_shape_f n a.1) (sv (fTree K fTxt)))
  | 0 => by
    obtain ⟨fd, F⟩ := c.def_ 0 (d := mkD "_law_shape" 41) rfl
    refine ⟨_, fd, (He.glo_ok KX GN (c.fact 2 (f := .glo "_law_shape") rfl)), F.kp, F.bindsN (fun _ _ _ _ _ _ us hl => match us, hl with | [_], _ => rfl), ?_⟩
    refine fn_def (bm := fun (_ : (List (((List Nat) × (List Nat) × Int))) × Unit) => none) (par := (fun (a : (List (((List Nat) × (List Nat) × Int))) × Unit) (_ : Nat → V) => [(bw (tL K (fTup K (tvc fTxt (tvc fTxt (tv1 fInt))))) a.1)])) (res := (sv (fTree K fTxt))) (outs := (fun _ _ => [])) (Eh := (fun _ => eh0 4)) (cls := (fun e => e)) (outsE := (fun _ _ => [])) (R := (fun u r v => [none, none, none, some (pn v (sv (fTree K fTxt) r))])) (Nx := (fun u (s : Unit) => [none, none, none, none])) F sc_law_shape (k := 0) 3 none [3] [] [] (fun _ h => nomatch h) (fun _ _ => rfl) (by decide) (by decide) (fun _ _ => rfl) (fun _ _ _ => (.cons rfl .nil)) (fun _ h => nomatch h) (fun _ _ => .nil) (by decide) (fun cdv A outer s H E C a u => ?_)
    exact PSs.weak pss_never fun D σ H ⟨B, F, T⟩ => T.ne rfl
  | n + 1 => by
    have ih := okn_law_shape KX GN c n
    obtain ⟨fd, F⟩ := c.def_ 0 (d := mkD "_law_shape" 41) rfl
    refine ⟨_, fd, (He.glo_ok KX GN (c.fact 2 (f := .glo "_law_shape") rfl)), F.kp, F.bindsN (fun _ _ _ _ _ _ us hl => match us, hl with | [_], _ => rfl), ?_⟩
    refine fn_def (bm := fun (a : (List (((List Nat) × (List Nat) × Int))) × Unit) => law_shape_b (law_shape_f n) a.1) (par := (fun (a : (List (((List Nat) × (List Nat) × Int))) × Unit) (_ : Nat → V) => [(bw (tL K (fTup K (tvc fTxt (tvc fTxt (tv1 fInt))))) a.1)])) (res := (sv (fTree K fTxt))) (outs := (fun _ _ => [])) (Eh := (fun _ => eh0 4)) (cls := (fun e => e)) (outsE := (fun _ _ => [])) (R := (fun u r v => [none, none, none, some (pn v (sv (fTree K fTxt) r))])) (Nx := (fun u (s : Unit) => [none, none, none, none])) F sc_law_shape (k := 1 + n) 3 none [3] [] [] (fun _ h => nomatch h) (fun _ _ => rfl) (by decide) (by decide) (fun _ _ => rfl) (fun _ _ _ => (.cons rfl .nil)) (fun _ h => nomatch h) (fun _ _ => .nil) (by decide) (fun cdv A outer s H E C a u => ?_)
    obtain ⟨p0, _⟩ := a
    show FS _ _ _ _ [some (bw (tL K (fTup K (tvc fTxt (tvc fTxt (tv1 fInt))))) p0), none, none, none] _ (law_shape_b (law_shape_f n) p0) _ _ _
    unfold law_shape_b
    exact (fv_if1 (tv_cmp op_eq ol_eqI (fv_callB call_len cl_lenL (He.free_ok KX GN (c.fact 0 (f := .free "len") rfl)) (va_cons (fe_var 0 (hs := gives_b)) fa_nil)) fe_int) (fun _ => (fv_ret 3 (T := (sv (fTree K fTxt))) (mk := fun r1 => r1) (fv_trE fe_none) tk_v (fun _ _ => (.of rfl (Le.imp (.drop (.keep (.keep (.keep .nil))))))))) (fs_set 1 (T := sv fInt) C.nd fe_int tk_v fun v2 => (fs_seq (N1 := (fun (s11 : Int) => [some (bw (tL K (fTup K (tvc fTxt (tvc fTxt (tv1 fInt))))) p0), some (sv fInt s11), none, none])) (ps_forR2 (Gs := (fun (s3 : Int) => [some (bw (tL K (fTup K (tvc fTxt (tvc fTxt (tv1 fInt))))) p0), some (sv fInt s3), none, none])) (tl' := [2, 1]) (x0 := v2) C (He.free_ok KX GN (c.fact 1 (f := .free "range") rfl)) fe_int (fv_callB call_len cl_lenL (He.free_ok KX GN (c.fact 0 (f := .free "len") rfl)) (va_cons (fe_var 0 (hs := gives_b)) fa_nil)) (.of rfl (Le.imp (.keep (.keep (.keep (.keep .nil)))))) (fg_name 2 C.nd) (fun s3 a4 => (fs_ifend (ft_cmp op_gt (fun _ _ => ol_B0) (fe_ixr ix_tup (fun _ => ol_ixT (partS (partS part1))) (fv_ix ix_list ol_ixL (fe_var 0 (hs := gives_b)) (fe_var 2 (hs := gives_v))) fe_int) (fe_ixr ix_tup (fun _ => ol_ixT (partS (partS part1))) (fv_ix ix_list ol_ixL (fe_var 0 (hs := gives_b)) (fe_var 1 (hs := gives_v))) fe_int)) (fs_set 1 (T := sv fInt) C.nd (fe_var 2 (hs := gives_v)) tk_v fun v9 => (fs_nil (.of rfl (Le.imp (.keep (.keep (.drop (.keep .nil)))))))) (fs_nil (.of rfl (Le.imp (.keep (.keep (.drop (.keep .nil)))))))))) fun s11 => (fs_ret 3 (T := (sv (fTree K fTxt))) (mk := fun r24 => r24) (fe_trN (fe_tup (fa_cons (fe_ixr ix_tup (fun _ => ol_ixT part0) (fv_ix ix_list ol_ixL (fe_var 0 (hs := gives_b)) (fe_var 1 (hs := gives_v))) fe_int) (fa_cons (fe_ixr ix_tup (fun _ => ol_ixT (partS part0)) (fv_ix ix_list ol_ixL (fe_var 0 (hs := gives_b)) (fe_var 1 (hs := gives_v))) fe_int) (fa_cons (fv_callC C ih (by omega) (ak_b ak_nil) rs_v (va_cons (fe_borrow (fv_slice sl_list sp_list (fe_var 0 (hs := gives_b)) fo_none (vo_some (fe_var 1 (hs := gives_v))))) fa_nil)) (fa_cons (fv_callC C ih (by omega) (ak_b ak_nil) rs_v (va_cons (fe_borrow (fv_slice sl_list sp_list (fe_var 0 (hs := gives_b)) (vo_some (fv_bin op_add ol_I0 (fe_var 1 (hs := gives_v)) fe_int)) fo_none)) fa_nil)) fa_nil)))) (to_c (to_c (to_c to_1))) (szl (szc (szc (szc (szc sz0))))))) tk_v (fun _ _ => (.of rfl (Le.imp (.drop (.drop (.keep (.keep .nil)))))))))))
theorem ok_law_shape (KX : K.In h) (GN : h.Ns mainGlobals mg) (c : Sy fa fn fx K) : Cal P w K mg base "_law_shape" ["_law_rows"] 206 (spP K (fun (a : (List (((List Nat) × (List Nat) × Int))) × Unit) => [(bw (tL K (fTup K (tvc fTxt (tvc fTxt (tv1 fInt))))) a.1)]) (fun a => law_shape_m a.1) (sv (fTree K fTxt))) := by
  exact okn_law_shape KX GN c 205
abbrev st_law_coin : Stmt := top 39
theorem sc_law_coin : FnScope ["_law_seed", "_law_tag", "_law_text", "_law_h", "_law_sign"] ["_law_seed", "_law_tag", "_law_text"] (defScope st_law_coin) := ⟨rfl, rfl, rfl, by decide +kernel, rfl, by decide +kernel, by decide +kernel⟩
theorem ok_law_coin (KX : K.In h) (GN : h.Ns mainGlobals mg) (c : Sy fa fn fx K) : Cal P w K mg base "_law_coin" ["_law_seed", "_law_tag", "_law_text"] 1 (spP K (fun (a : Int × Int × (List Nat) × Unit) => [(sv fInt a.1), (sv fInt a.2.1), (sv fTxt a.2.2.1)]) (fun a => law_coin_m a.1 a.2.1 a.2.2.1) (sv fInt)) := by
  obtain ⟨fd, F⟩ := c.def_ 1 (d := mkD "_law_coin" 39) rfl
  refine ⟨_, fd, (He.glo_ok KX GN (c.fact 5 (f := .glo "_law_coin") rfl)), F.kp, F.bindsN (fun _ _ _ _ _ _ us hl => match us, hl with | [_, _, _], _ => rfl), ?_⟩
  refine fn_def (bm := fun (a : Int × Int × (List Nat) × Unit) => law_coin_b a.1 a.2.1 a.2.2.1) (par := (fun (a : Int × Int × (List Nat) × Unit) (_ : Nat → V) => [(sv fInt a.1), (sv fInt a.2.1), (sv fTxt a.2.2.1)])) (res := (sv fInt)) (outs := (fun _ _ => [])) (Eh := (fun _ => eh0 6)) (cls := (fun e => e)) (outsE := (fun _ _ => [])) (R := (fun u r v => [none, none, none, none, none, some (pn v (sv fInt r))])) (Nx := (fun u (s : Unit) => [none, none, none, none, none, none])) F sc_law_coin  3 none [5] [] [] (fun _ h => nomatch h) (fun _ _ => rfl) (by decide) (by decide) (fun _ _ => rfl) (fun _ _ _ => (.cons rfl .nil)) (fun _ h => nomatch h) (fun _ _ => .nil) (by decide) (fun cdv A outer s H E C a u => ?_)
  obtain ⟨p0, p1, p2, _⟩ := a
  show FS _ _ _ _ [some (sv fInt p0), some (sv fInt p1), some (sv fTxt p2), none, none, none] _ (law_coin_b p0 p1 p2) _ _ _
  unfold law_coin_b
  exact (fs_set 3 (T := sv fInt) C.nd (fv_bin op_mod (ol_Ic (by decide)) (fv_callTy call_int1 cl_int (He.free_ok KX GN (c.fact 3 (f := .free "int") rfl)) (va_cons (fv_bin op_add ol_I0 (fv_bin op_add ol_I0 (fv_bin op_mul (ol_Ic (cmul_r (by decide))) (fe_var 0 (hs := gives_v)) fe_int) (fv_bin op_mul (ol_Ic (cmul_r (by decide))) (fe_var 1 (hs := gives_v)) fe_int)) fe_int) fa_nil)) fe_int) tk_v fun v1 => (fs_seq (N1 := (fun (s13 : Int) => [some (sv fInt p0), some (sv fInt p1), some (sv fTxt p2), some (sv fInt s13), none, none])) (pv_forS (Gs := (fun (s2 : Int) => [some (sv fInt p0), some (sv fInt p1), some (sv fTxt p2), some (sv fInt s2), none, none])) (tl' := [4, 3]) (x0 := v1) C (fe_var 2 (hs := gives_v)) (.of rfl (Le.imp (.keep (.keep (.keep (.keep (.keep (.keep .nil)))))))) (fg_name 4 C.nd) (fun s2 a3 => (fs_set 3 (T := sv fInt) C.nd (fe_binr op_mod (fun _ => (ol_Ic (by decide))) (fe_callTy call_int1 (fun _ => cl_int) (He.free_ok KX GN (c.fact 3 (f := .free "int") rfl)) (fa_cons (fe_bin op_add (fun _ _ => ol_I0) (fe_bin op_add (fun _ _ => ol_I0) (fv_bin op_mul (ol_Ic (cmul_r (by decide))) (fe_var 3 (hs := gives_v)) fe_int) (fv_callB call_ord cl_ord (He.free_ok KX GN (c.fact 4 (f := .free "ord") rfl)) (va_cons (fe_var 4 (hs := gives_v)) fa_nil))) fe_int) fa_nil)) fe_int) tk_v fun v12 => (fs_nil (.of rfl (Le.imp (.keep (.keep (.keep (.keep (.drop (.keep .nil)))))))))))) fun s13 => (fv_ret 5 (T := (sv fInt)) (mk := fun r14 => r14) (fv_bin op_mod (ol_Ic (by decide)) (fv_callTy call_int1 cl_int (He.free_ok KX GN (c.fact 3 (f := .free "int") rfl)) (va_cons (fv_bin op_add ol_I0 (fv_bin op_mul (ol_Ic (cmul_r (by decide))) (fe_var 3 (hs := gives_v)) fe_int) (fv_callB call_len cl_lenS (He.free_ok KX GN (c.fact 0 (f := .free "len") rfl)) (va_cons (fe_var 2 (hs := gives_v)) fa_nil))) fa_nil)) fe_int) tk_v (fun _ _ => (.of rfl (Le.imp (.drop (.drop (.drop (.drop (.keep (.keep .nil))))))))))))
abbrev st_law_tree : Stmt := top 42
theorem sc_law_tree : FnScope ["_law_seed", "_law_rows", "_law_row"] ["_law_seed", "_law_rows"] (defScope st_law_tree) := ⟨rfl, rfl, rfl, by decide +kernel, rfl, by decide +kernel, by decide +kernel⟩
theorem ok_law_tree (KX : K.In h) (GN : h.Ns mainGlobals mg) (c : Sy fa fn fx K) : Cal P w K mg base "_law_tree" ["_law_seed", "_law_rows"] 207 (spP K (fun (a : Int × (List (((List Nat) × (List Nat)))) × Unit) => [(sv fInt a.1), (bw (tL K (fTup K (tvc fTxt (tv1 fTxt)))) a.2.1)]) (fun a => law_tree_m a.1 a.2.1) (sv (fTree K fTxt))) := by
  obtain ⟨fd, F⟩ := c.def_ 2 (d := mkD "_law_tree" 42) rfl
  refine ⟨_, fd, (He.glo_ok KX GN (c.fact 6 (f := .glo "_law_tree") rfl)), F.kp, F.bindsN (fun _ _ _ _ _ _ us hl => match us, hl with | [_, _], _ => rfl), ?_⟩
  refine fn_def (bm := fun (a : Int × (List (((List Nat) × (List Nat)))) × Unit) => law_tree_b a.1 a.2.1) (par := (fun (a : Int × (List (((List Nat) × (List Nat)))) × Unit) (_ : Nat → V) => [(sv fInt a.1), (bw (tL K (fTup K (tvc fTxt (tv1 fTxt)))) a.2.1)])) (res := (sv (fTree K fTxt))) (outs := (fun _ _ => [])) (Eh := (fun _ => eh0 4)) (cls := (fun e => e)) (outsE := (fun _ _ => [])) (R := (fun u r v => [none, none, none, some (pn v (sv (fTree K fTxt) r))])) (Nx := (fun u (s : Unit) => [none, none, none, none])) F sc_law_tree  2 none [3] [] [] (fun _ h => nomatch h) (fun _ _ => rfl) (by decide) (by decide) (fun _ _ => rfl) (fun _ _ _ => (.cons rfl .nil)) (fun _ h => nomatch h) (fun _ _ => .nil) (by decide) (fun cdv A outer s H E C a u => ?_)
  obtain ⟨p0, p1, _⟩ := a
  show FS _ _ _ _ [some (sv fInt p0), some (bw (tL K (fTup K (tvc fTxt (tv1 fTxt)))) p1), none, none] _ (law_tree_b p0 p1) _ _ _
  unfold law_tree_b
  exact (fs_ret 3 (T := (sv (fTree K fTxt))) (mk := fun r13 => r13) (fe_callC C (ok_law_shape KX GN c) (by decide) (ak_b ak_nil) rs_v (fa_cons (fe_borrow (fv_lcL (A := (fTup K (tvc fTxt (tv1 fTxt)))) (own := [("_law_row", 2)]) (Gw := [some (sv fInt p0), some (bw (tL K (fTup K (tvc fTxt (tv1 fTxt)))) p1), none, none]) (c := fun (a1 : ((List Nat) × (List Nat))) => M.ok (true)) (f := fun (a1 : ((List Nat) × (List Nat))) => ((M.ok (a1.1)).bind fun x6 => ((M.ok (a1.2)).bind fun x4 => ((law_coin_m p0 (3 : Int) a1.1).bind fun x2 => (M.ok ()).bind fun y3 => M.ok (x2, y3)).bind fun y5 => M.ok (x4, y5)).bind fun y7 => M.ok (x6, y7)).bind fun a8 => M.ok (a8.1, a8.2.1, a8.2.2.1)) C (fe_var 1 (hs := gives_b)) (.of rfl (Le.imp (.keep (.keep (.keep (.keep .nil)))))) (hw_of rfl) (blkOk_by (N := ["_law_seed", "_law_rows", "_law_row"]) (sc := defScope st_law_tree) (by decide +kernel)) (fun sq9 Hq9 Cq9 lq9 fq9 => (fg_name 2 (C.blk _ sq9 Hq9 Cq9 lq9 fq9).nd)) (fun a1 sq9 Hq9 Cq9 lq9 fq9 => fts_nil) (fun a1 sq9 Hq9 Cq9 lq9 fq9 => (fe_tup (fa_cons (fv_ix ix_tup (ol_ixT part0) (fe_var 2 (hs := gives_v)) fe_int) (fa_cons (fv_ix ix_tup (ol_ixT (partS part1)) (fe_var 2 (hs := gives_v)) fe_int) (fa_cons (fv_callC (C.blk _ sq9 Hq9 Cq9 lq9 fq9) (ok_law_coin KX GN c) (by decide) (ak_v (ak_v (ak_v ak_nil))) rs_v (va_cons (fe_var 0 (hs := gives_v)) (va_cons fe_int (va_cons (fv_ix ix_tup (ol_ixT part0) (fe_var 2 (hs := gives_v)) fe_int) fa_nil)))) fa_nil))) (to_c (to_c to_1)) (szl (szc (szc (szc sz0)))))))) fa_nil)) tk_v (fun _ _ => (.of rfl (Le.imp (.drop (.drop (.keep (.keep .nil))))))))
abbrev st_law_odd : Stmt := top 51
theorem sc_law_odd : FnScope ["_law_tree_here", "_law_other", "_law_key_here", "_law_value_here", "_law_left", "_law_right", "_law_odd_here"] ["_law_tree_here", "_law_other"] (defScope st_law_odd) := ⟨rfl, rfl, rfl, by decide +kernel, rfl, by decide +kernel, by decide +kernel⟩
theorem ok_law_odd (KX : K.In h) (GN : h.Ns mainGlobals mg) (c : Sy fa fn fx K) : Cal P w K mg base "_law_odd" ["_law_tree_here", "_law_other"] 1 (spP K (fun (a : (Tr (List Nat)) × (Tr (List Nat)) × Unit) => [(sv (fTree K fTxt) a.1), (sv (fTree K fTxt) a.2.1)]) (fun a => law_odd_m a.1 a.2.1) (ob (tL K (fTree K fTxt)))) := by
  obtain ⟨fd, F⟩ := c.def_ 3 (d := mkD "_law_odd" 51) rfl
  refine ⟨_, fd, (He.glo_ok KX GN (c.fact 7 (f := .glo "_law_odd") rfl)), F.kp, F.bindsN (fun _ _ _ _ _ _ us hl => match us, hl with | [_, _], _ => rfl), ?_⟩
  refine fn_def (bm := fun (a : (Tr (List Nat)) × (Tr (List Nat)) × Unit) => law_odd_b a.1 a.2.1) (par := (fun (a : (Tr (List Nat)) × (Tr (List Nat)) × Unit) (_ : Nat → V) => [(sv (fTree K fTxt) a.1), (sv (fTree K fTxt) a.2.1)])) (res := (ob (tL K (fTree K fTxt)))) (outs := (fun _ _ => [])) (Eh := (fun _ => eh0 8)) (cls := (fun e => e)) (outsE := (fun _ _ => [])) (R := (fun u r v => [none, none, none, none, none, none, none, some (pn v (ob (tL K (fTree K fTxt)) r))])) (Nx := (fun u (s : Unit) => [none, none, none, none, none, none, none, none])) F sc_law_odd  6 none [7] [] [] (fun _ h => nomatch h) (fun _ _ => rfl) (by decide) (by decide) (fun _ _ => rfl) (fun _ _ _ => (.cons rfl .nil)) (fun _ h => nomatch h) (fun _ _ => .nil) (by decide) (fun cdv A outer s H E C a u => ?_)
  obtain ⟨p0, p1, _⟩ := a
  show FS _ _ _ _ [some (sv (fTree K fTxt) p0), some (sv (fTree K fTxt) p1), none, none, none, none, none, none] _ (law_odd_b p0 p1) _ _ _
  unfold law_odd_b
  exact (fv_if1 (tv_cmp op_isN ol_isTr (fe_var 0 (hs := gives_v)) fe_none) (fun _ => (fv_ret 7 (T := (ob (tL K (fTree K fTxt)))) (mk := fun r1 => r1) (fv_list (va_cons (fv_trE fe_none) fa_nil) (lo_cons lo_nil)) tk_o (fun _ _ => (.of rfl (Le.imp (.drop (.drop (.keep (.keep (.keep (.keep (.keep (.keep .nil))))))))))))) (fs_unp (fe_trT (fe_var 0 (hs := gives_v))) (fg_tup C.calm (fgs_c (fg_name 2 C.nd) (fgs_c (fg_name 3 C.nd) (fgs_c (fg_name 4 C.nd) (fgs_1 (fg_name 5 C.nd))))) (tnc (tnc (tnc tn1)))) fun v2 => (fs_set 6 (T := ob (tL K (fTree K fTxt))) C.nd (fv_list (va_cons (fv_trN (fv_tup (va_cons (fe_var 2 (hs := gives_v)) (va_cons (fe_var 3 (hs := gives_v)) (va_cons (fe_var 5 (hs := gives_v)) (va_cons (fe_var 4 (hs := gives_v)) fa_nil)))) (to_c (to_c (to_c to_1))) (szl (szc (szc (szc (szc sz0))))))) (va_cons (fv_trN (fv_tup (va_cons (fe_var 2 (hs := gives_v)) (va_cons (fe_var 3 (hs := gives_v)) (va_cons (fe_var 1 (hs := gives_v)) (va_cons (fe_var 5 (hs := gives_v)) fa_nil)))) (to_c (to_c (to_c to_1))) (szl (szc (szc (szc (szc sz0))))))) (va_cons (fv_trN (fv_tup (va_cons (fe_var 2 (hs := gives_v)) (va_cons (fe_var 3 (hs := gives_v)) (va_cons (fe_var 4 (hs := gives_v)) (va_cons (fe_var 1 (hs := gives_v)) fa_nil)))) (to_c (to_c (to_c to_1))) (szl (szc (szc (szc (szc sz0))))))) fa_nil))) (lo_cons (lo_cons (lo_cons lo_nil)))) tk_o fun v3 => (fs_seq (N1 := (fun (s4 : (List (Tr (List Nat)))) => [some (sv (fTree K fTxt) p0), some (sv (fTree K fTxt) p1), some (sv fTxt v2.1), some (sv fTxt v2.2.1), some (sv (fTree K fTxt) v2.2.2.1), some (sv (fTree K fTxt) v2.2.2.2), some (ob (tL K (fTree K fTxt)) s4), none])) (pv_ifj (tv_cmp op_notN ol_ntTr (fe_var 4 (hs := gives_v)) fe_none) (fs_pin 6 rfl fun V5 => (fs_app 6 (A := (fTree K fTxt)) (as := v3) rfl (fe_var 6 (hs := gives_V)) (fe_trN (fe_tup (fa_cons (fv_ix ix_tup ol_trK (fe_var 4 (hs := gives_v)) fe_int) (fa_cons (fv_ix ix_tup ol_trA (fe_var 4 (hs := gives_v)) fe_int) (fa_cons (fv_ix ix_tup ol_trL (fe_var 4 (hs := gives_v)) fe_int) (fa_cons (fe_trN (fe_tup (fa_cons (fe_var 2 (hs := gives_v)) (fa_cons (fe_var 3 (hs := gives_v)) (fa_cons (fv_ix ix_tup ol_trR (fe_var 4 (hs := gives_v)) fe_int) (fa_cons (fe_var 5 (hs := gives_v)) fa_nil)))) (to_c (to_c (to_c to_1))) (szl (szc (szc (szc (szc sz0))))))) fa_nil)))) (to_c (to_c (to_c to_1))) (szl (szc (szc (szc (szc sz0))))))) fun v26 => (fs_app 6 (A := (fTree K fTxt)) (as := (v3 ++ [v26])) rfl (fe_var 6 (hs := gives_V)) (fe_trN (fe_tup (fa_cons (fv_ix ix_tup ol_trK (fe_var 4 (hs := gives_v)) fe_int) (fa_cons (fe_var 3 (hs := gives_v)) (fa_cons (fe_trN (fe_tup (fa_cons (fe_var 2 (hs := gives_v)) (fa_cons (fv_ix ix_tup ol_trA (fe_var 4 (hs := gives_v)) fe_int) (fa_cons (fv_ix ix_tup ol_trL (fe_var 4 (hs := gives_v)) fe_int) (fa_cons (fv_ix ix_tup ol_trR (fe_var 4 (hs := gives_v)) fe_int) fa_nil)))) (to_c (to_c (to_c to_1))) (szl (szc (szc (szc (szc sz0))))))) (fa_cons (fe_var 5 (hs := gives_v)) fa_nil)))) (to_c (to_c (to_c to_1))) (szl (szc (szc (szc (szc sz0))))))) fun v47 => (fs_nil (.of rfl (Le.imp (.keep (.keep (.keep (.keep (.keep (.keep (.unpin (.keep .nil)))))))))))))) (fs_nil (.of rfl (Le.imp (.keep (.keep (.keep (.keep (.keep (.keep (.keep (.keep .nil)))))))))))) fun s4 => (fs_seq (N1 := (fun (s48 : (List (Tr (List Nat)))) => [some (sv (fTree K fTxt) p0), some (sv (fTree K fTxt) p1), some (sv fTxt v2.1), some (sv fTxt v2.2.1), some (sv (fTree K fTxt) v2.2.2.1), some (sv (fTree K fTxt) v2.2.2.2), some (ob (tL K (fTree K fTxt)) s48), none])) (pv_ifj (tv_cmp op_notN ol_ntTr (fe_var 5 (hs := gives_v)) fe_none) (fs_pin 6 rfl fun V49 => (fs_app 6 (A := (fTree K fTxt)) (as := s4) rfl (fe_var 6 (hs := gives_V)) (fe_trN (fe_tup (fa_cons (fv_ix ix_tup ol_trK (fe_var 5 (hs := gives_v)) fe_int) (fa_cons (fv_ix ix_tup ol_trA (fe_var 5 (hs := gives_v)) fe_int) (fa_cons (fe_trN (fe_tup (fa_cons (fe_var 2 (hs := gives_v)) (fa_cons (fe_var 3 (hs := gives_v)) (fa_cons (fe_var 4 (hs := gives_v)) (fa_cons (fv_ix ix_tup ol_trL (fe_var 5 (hs := gives_v)) fe_int) fa_nil)))) (to_c (to_c (to_c to_1))) (szl (szc (szc (szc (szc sz0))))))) (fa_cons (fv_ix ix_tup ol_trR (fe_var 5 (hs := gives_v)) fe_int) fa_nil)))) (to_c (to_c (to_c to_1))) (szl (szc (szc (szc (szc sz0))))))) fun v70 => (fs_nil (.of rfl (Le.imp (.keep (.keep (.keep (.keep (.keep (.keep (.unpin (.keep .nil))))))))))))) (fs_nil (.of rfl (Le.imp (.keep (.keep (.keep (.keep (.keep (.keep (.keep (.keep .nil)))))))))))) fun s48 => (fs_pin 6 rfl fun V71 => (fs_retM 6 7 (fe_var 6 (hs := gives_V)) rfl (.of rfl (Le.imp (.drop (.drop (.drop (.drop (.drop (.drop (.keep (.keep .nil)))))))))))))))))
abbrev st_number_of : Stmt := top 14
theorem sc_number_of : FnScope ["text"] ["text"] (defScope st_number_of) := ⟨rfl, rfl, rfl, by decide +kernel, rfl, by decide +kernel, by decide +kernel⟩
theorem ok_number_of (KX : K.In h) (GN : h.Ns mainGlobals mg) (c : Sy fa fn fx K) : Cal P w K mg base "number_of" ["text"] 1 (spP K (fun (a : (List Nat) × Unit) => [(sv fTxt a.1)]) (fun a => number_of_m a.1) (sv fInt)) := by
  obtain ⟨fd, F⟩ := c.def_ 4 (d := mkD "number_of" 14) rfl
  refine ⟨_, fd, (He.glo_ok KX GN (c.fact 11 (f := .glo "number_of") rfl)), F.kp, F.bindsN (fun _ _ _ _ _ _ us hl => match us, hl with | [_], _ => rfl), ?_⟩
  refine fn_def (bm := fun (a : (List Nat) × Unit) => number_of_b a.1) (par := (fun (a : (List Nat) × Unit) (_ : Nat → V) => [(sv fTxt a.1)])) (res := (sv fInt)) (outs := (fun _ _ => [])) (Eh := (fun _ => eh0 2)) (cls := (fun e => e)) (outsE := (fun _ _ => [])) (R := (fun u r v => [none, some (pn v (sv fInt r))])) (Nx := (fun u (s : Unit) => [none, none])) F sc_number_of  1 none [1] [] [] (fun _ h => nomatch h) (fun _ _ => rfl) (by decide) (by decide) (fun _ _ => rfl) (fun _ _ _ => (.cons rfl .nil)) (fun _ h => nomatch h) (fun _ _ => .nil) (by decide) (fun cdv A outer s H E C a u => ?_)
  obtain ⟨p0, _⟩ := a
  show FS _ _ _ _ [some (sv fTxt p0), none] _ (number_of_b p0) _ _ _
  unfold number_of_b
  exact (fv_if1 (fw_t (vw_or (tv_not (ft_val (fv_bm0 PySem.F.plainAttrs_str PySem.F.slot_str_isdigit PySem.F.type_str_isdigit mt_isdigit ty_str ml_test (fe_var 0 (hs := gives_v))))) (fw_or1 (tv_cmp op_gt ol_B0 (fv_callB call_len cl_lenS (He.free_ok KX GN (c.fact 0 (f := .free "len") rfl)) (va_cons (fe_var 0 (hs := gives_v)) fa_nil)) (fe_globI (by rfl) (He.int_ok KX GN (c.fact 8 (f := .int "MOST_DIGITS" 9) rfl))))))) (fun _ => (fs_raise C (er := .badForm) (pe := Er.badForm) rfl (He.exc_ok (c.fact 9 (f := .exc "BadForm") rfl)) (He.glo_ok KX GN (c.fact 10 (f := .glo "BadForm") rfl)) rfl (Le.imp (Le.none rfl)))) (fs_if1 (fw_t (fw_and (ft_cmp op_eq (fun _ _ => ol_eqS) (fv_ix ix_str ol_ixS (fe_var 0 (hs := gives_v)) fe_int) fe_str) (fw_and1 (tv_cmp op_gt ol_B0 (fv_callB call_len cl_lenS (He.free_ok KX GN (c.fact 0 (f := .free "len") rfl)) (va_cons (fe_var 0 (hs := gives_v)) fa_nil)) fe_int)))) (fun _ => (fs_raise C (er := .badForm) (pe := Er.badForm) rfl (He.exc_ok (c.fact 9 (f := .exc "BadForm") rfl)) (He.glo_ok KX GN (c.fact 10 (f := .glo "BadForm") rfl)) rfl (Le.imp (Le.none rfl)))) (fs_ret 1 (T := (sv fInt)) (mk := fun r4 => r4) (fv_callTy call_int_str cl_intS (He.free_ok KX GN (c.fact 3 (f := .free "int") rfl)) (va_cons (fe_var 0 (hs := gives_v)) fa_nil)) tk_v (fun _ _ => (.of rfl (Le.imp (.drop (.keep .nil))))))))
abbrev st_tree_of_nodes : Stmt := top 31
theorem sc_tree_of_nodes : FnScope ["nodes", "trees", "mark", "key", "value", "left", "right"] ["nodes"] (defScope st_tree_of_nodes) := ⟨rfl, rfl, rfl, by decide +kernel, rfl, by decide +kernel, by decide +kernel⟩
theorem ok_tree_of_nodes (KX : K.In h) (GN : h.Ns mainGlobals mg) (c : Sy fa fn fx K) : Cal P w K mg base "tree_of_nodes" ["nodes"] 1 (spP K (fun (a : (List ((Int × (List Nat) × (List Nat)))) × Unit) => [(bw (tL K (fTup K (tvc fInt (tvc fTxt (tv1 fTxt))))) a.1)]) (fun a => tree_of_nodes_m a.1) (sv (fTree K fTxt))) := by
  obtain ⟨fd, F⟩ := c.def_ 5 (d := mkD "tree_of_nodes" 31) rfl
  refine ⟨_, fd, (He.glo_ok KX GN (c.fact 13 (f := .glo "tree_of_nodes") rfl)), F.kp, F.bindsN (fun _ _ _ _ _ _ us hl => match us, hl with | [_], _ => rfl), ?_⟩
  refine fn_def (bm := fun (a : (List ((Int × (List Nat) × (List Nat)))) × Unit) => tree_of_nodes_b a.1) (par := (fun (a : (List ((Int × (List Nat) × (List Nat)))) × Unit) (_ : Nat → V) => [(bw (tL K (fTup K (tvc fInt (tvc fTxt (tv1 fTxt))))) a.1)])) (res := (sv (fTree K fTxt))) (outs := (fun _ _ => [])) (Eh := (fun _ => eh0 8)) (cls := (fun e => e)) (outsE := (fun _ _ => [])) (R := (fun u r v => [none, none, none, none, none, none, none, some (pn v (sv (fTree K fTxt) r))])) (Nx := (fun u (s : Unit) => [none, none, none, none, none, none, none, none])) F sc_tree_of_nodes  7 none [7] [] [] (fun _ h => nomatch h) (fun _ _ => rfl) (by decide) (by decide) (fun _ _ => rfl) (fun _ _ _ => (.cons rfl .nil)) (fun _ h => nomatch h) (fun _ _ => .nil) (by decide) (fun cdv A outer s H E C a u => ?_)
  obtain ⟨p0, _⟩ := a
  show FS _ _ _ _ [some (bw (tL K (fTup K (tvc fInt (tvc fTxt (tv1 fTxt))))) p0), none, none, none, none, none, none, none] _ (tree_of_nodes_b p0) _ _ _
  unfold tree_of_nodes_b
  exact (fs_set 1 (T := ob (tL K (fTree K fTxt))) C.nd fe_nil tk_o fun v1 => (fs_pin 1 rfl fun V2 => (fs_pin 0 rfl fun V3 => (fs_seq (N1 := (fun (s17 : (List (Tr (List Nat)))) => [some (pn V3 (bw (tL K (fTup K (tvc fInt (tvc fTxt (tv1 fTxt))))) p0)), some (pn V2 (ob (tL K (fTree K fTxt)) s17)), none, none, none, none, none, none])) (ps_forV (Gs := (fun (s4 : (List (Tr (List Nat)))) => [some (pn V3 (bw (tL K (fTup K (tvc fInt (tvc fTxt (tv1 fTxt))))) p0)), some (pn V2 (ob (tL K (fTree K fTxt)) s4)), none, none, none, none, none, none])) (tl' := [2, 3, 4, 5, 6, 1]) (x0 := v1) (A := (fTup K (tvc fInt (tvc fTxt (tv1 fTxt))))) (l := fun _ => p0) C (He.free_ok KX GN (c.fact 12 (f := .free "reversed") rfl)) (fe_var 0 (hs := gives_V)) (src_p 0 ls_b (fun _ => rfl)) (.of rfl (Le.imp (.keep (.keep (.keep (.keep (.keep (.keep (.keep (.keep .nil)))))))))) (fg_tup C.calm (fgs_c (fg_name 2 C.nd) (fgs_c (fg_name 3 C.nd) (fgs_1 (fg_name 4 C.nd)))) (tnc (tnc tn1))) (fun s4 a5 => (fs_set 5 (T := sv (fTree K fTxt)) C.nd (fv_trE fe_none) tk_v fun v6 => (fs_set 6 (T := sv (fTree K fTxt)) C.nd (fv_trE fe_none) tk_v fun v7 => (fv_if1 (tv_cmp op_lt ol_B0 (fv_callB call_len cl_lenL (He.free_ok KX GN (c.fact 0 (f := .free "len") rfl)) (va_cons (fe_var 1 (hs := (gives_pn gives_o))) fa_nil)) (fv_bin op_add ol_I0 (fv_bin op_mod (ol_Ic (by decide)) (fe_var 2 (hs := gives_v)) fe_int) (fv_bin op_fdiv (ol_Ic ⟨by decide, by decide⟩) (fe_var 2 (hs := gives_v)) fe_int))) (fun _ => (fs_raise C (er := .badForm) (pe := Er.badForm) rfl (He.exc_ok (c.fact 9 (f := .exc "BadForm") rfl)) (He.glo_ok KX GN (c.fact 10 (f := .glo "BadForm") rfl)) rfl (Le.imp (Le.none rfl)))) (fs_seq (N1 := (fun (s8 : (Tr (List Nat)) × (List (Tr (List Nat)))) => [some (pn V3 (bw (tL K (fTup K (tvc fInt (tvc fTxt (tv1 fTxt))))) p0)), some (pn V2 (ob (tL K (fTree K fTxt)) s8.2)), some (sv fInt a5.1), some (sv fTxt a5.2.1), some (sv fTxt a5.2.2), some (sv (fTree K fTxt) s8.1), some (sv (fTree K fTxt) v7), none])) (pv_ifj (tv_cmp op_eq ol_eqI (fv_bin op_mod (ol_Ic (by decide)) (fe_var 2 (hs := gives_v)) fe_int) fe_int) (fx_set 5 (A := Rf.on (fun (z9 : (Tr (List Nat)) × (List (Tr (List Nat)))) => z9.1) (fTree K fTxt)) C.nd (fx_lm0 (A := (fTree K fTxt)) (as := s4) (Rg := (fTree K fTxt)) 1 PySem.F.plainAttrs_list PySem.F.slot_list_pop PySem.F.type_list_pop mt_pop lm_pop rfl (fe_var 1 (hs := gives_V))) fun z9 => (fs_nil (.of rfl (Le.imp (.keep (.keep (.keep (.keep (.keep (.keep (.keep (.keep .nil)))))))))))) (fs_nil (.of rfl (Le.imp (.keep (.keep (.keep (.keep (.keep (.keep (.keep (.keep .nil)))))))))))) fun s8 => (fs_seq (N1 := (fun (s12 : (Tr (List Nat)) × (List (Tr (List Nat)))) => [some (pn V3 (bw (tL K (fTup K (tvc fInt (tvc fTxt (tv1 fTxt))))) p0)), some (pn V2 (ob (tL K (fTree K fTxt)) s12.2)), some (sv fInt a5.1), some (sv fTxt a5.2.1), some (sv fTxt a5.2.2), some (sv (fTree K fTxt) s8.1), some (sv (fTree K fTxt) s12.1), none])) (pv_ifj (tv_cmp op_eq ol_eqI (fv_bin op_fdiv (ol_Ic ⟨by decide, by decide⟩) (fe_var 2 (hs := gives_v)) fe_int) fe_int) (fx_set 6 (A := Rf.on (fun (z13 : (Tr (List Nat)) × (List (Tr (List Nat)))) => z13.1) (fTree K fTxt)) C.nd (fx_lm0 (A := (fTree K fTxt)) (as := s8.2) (Rg := (fTree K fTxt)) 1 PySem.F.plainAttrs_list PySem.F.slot_list_pop PySem.F.type_list_pop mt_pop lm_pop rfl (fe_var 1 (hs := gives_V))) fun z13 => (fs_nil (.of rfl (Le.imp (.keep (.keep (.keep (.keep (.keep (.keep (.keep (.keep .nil)))))))))))) (fs_nil (.of rfl (Le.imp (.keep (.keep (.keep (.keep (.keep (.keep (.keep (.keep .nil)))))))))))) fun s12 => (fs_app 1 (A := (fTree K fTxt)) (as := s12.2) rfl (fe_var 1 (hs := gives_V)) (fv_trN (fv_tup (va_cons (fe_var 3 (hs := gives_v)) (va_cons (fe_var 4 (hs := gives_v)) (va_cons (fe_var 5 (hs := gives_v)) (va_cons (fe_var 6 (hs := gives_v)) fa_nil)))) (to_c (to_c (to_c to_1))) (szl (szc (szc (szc (szc sz0))))))) fun v16 => (fs_nil (.of rfl (Le.imp (.keep (.keep (.drop (.drop (.drop (.drop (.drop (.keep .nil))))))))))))))))))) fun s17 => (fv_if1 (tv_cmp op_gt ol_B0 (fv_callB call_len cl_lenL (He.free_ok KX GN (c.fact 0 (f := .free "len") rfl)) (va_cons (fe_var 1 (hs := (gives_pn gives_o))) fa_nil)) fe_int) (fun _ => (fs_raise C (er := .badForm) (pe := Er.badForm) rfl (He.exc_ok (c.fact 9 (f := .exc "BadForm") rfl)) (He.glo_ok KX GN (c.fact 10 (f := .glo "BadForm") rfl)) rfl (Le.imp (Le.none rfl)))) (fv_if1 (tv_cmp op_eq ol_eqI (fv_callB call_len cl_lenL (He.free_ok KX GN (c.fact 0 (f := .free "len") rfl)) (va_cons (fe_var 1 (hs := (gives_pn gives_o))) fa_nil)) fe_int) (fun _ => (fv_ret 7 (T := (sv (fTree K fTxt))) (mk := fun r18 => r18) (fv_trE fe_none) tk_v (fun _ _ => (.of rfl (Le.imp (.drop (.drop (.keep (.keep (.keep (.keep (.keep (.keep .nil))))))))))))) (fs_ret 7 (T := (sv (fTree K fTxt))) (mk := fun r19 => r19) (fv_ix ix_list ol_ixL (fe_var 1 (hs := (gives_pn gives_o))) fe_int) tk_v (fun _ _ => (.of rfl (Le.imp (.drop (.drop (.keep (.keep (.keep (.keep (.keep (.keep .nil))))))))))))))))))
abbrev st_read_part : Stmt := top 29
theorem sc_read_part : FnScope ["text", "at", "colon", "end"] ["text", "at"] (defScope st_read_part) := ⟨rfl, rfl, rfl, by decide +kernel, rfl, by decide +kernel, by decide +kernel⟩
theorem ok_read_part (KX : K.In h) (GN : h.Ns mainGlobals mg) (c : Sy fa fn fx K) : Cal P w K mg base "read_part" ["text", "at"] 2 (spP K (fun (a : (List Nat) × Int × Unit) => [(sv fTxt a.1), (sv fInt a.2.1)]) (fun a => read_part_m a.1 a.2.1) (sv (fTup K (tvc fTxt (tv1 fInt))))) := by
  obtain ⟨fd, F⟩ := c.def_ 6 (d := mkD "read_part" 29) rfl
  refine ⟨_, fd, (He.glo_ok KX GN (c.fact 14 (f := .glo "read_part") rfl)), F.kp, F.bindsN (fun _ _ _ _ _ _ us hl => match us, hl with | [_, _], _ => rfl), ?_⟩
  refine fn_def (bm := fun (a : (List Nat) × Int × Unit) => read_part_b a.1 a.2.1) (par := (fun (a : (List Nat) × Int × Unit) (_ : Nat → V) => [(sv fTxt a.1), (sv fInt a.2.1)])) (res := (sv (fTup K (tvc fTxt (tv1 fInt))))) (outs := (fun _ _ => [])) (Eh := (fun _ => eh0 5)) (cls := (fun e => e)) (outsE := (fun _ _ => [])) (R := (fun u r v => [none, none, none, none, some (pn v (sv (fTup K (tvc fTxt (tv1 fInt))) r))])) (Nx := (fun u (s : Unit) => [none, none, none, none, none])) F sc_read_part  3 none [4] [] [] (fun _ h => nomatch h) (fun _ _ => rfl) (by decide) (by decide) (fun _ _ => rfl) (fun _ _ _ => (.cons rfl .nil)) (fun _ h => nomatch h) (fun _ _ => .nil) (by decide) (fun cdv A outer s H E C a u => ?_)
  obtain ⟨p0, p1, _⟩ := a
  show FS _ _ _ _ [some (sv fTxt p0), some (sv fInt p1), none, none, none] _ (read_part_b p0 p1) _ _ _
  unfold read_part_b
  exact (fs_set 2 (T := sv fInt) C.nd (fv_bm PySem.F.plainAttrs_str PySem.F.slot_str_find PySem.F.type_str_find mt_find3 ty_str ml_int3 (fe_var 0 (hs := gives_v)) (va_cons fe_str (va_cons (fe_var 1 (hs := gives_v)) fa_nil))) tk_v fun v1 => (fv_if1 (tv_cmp op_lt ol_B0 (fe_var 2 (hs := gives_v)) fe_int) (fun _ => (fs_raise C (er := .badForm) (pe := Er.badForm) rfl (He.exc_ok (c.fact 9 (f := .exc "BadForm") rfl)) (He.glo_ok KX GN (c.fact 10 (f := .glo "BadForm") rfl)) rfl (Le.imp (Le.none rfl)))) (fs_set 3 (T := sv fInt) C.nd (fe_bin op_add (fun _ _ => ol_I0) (fv_bin op_add ol_I0 (fe_var 2 (hs := gives_v)) fe_int) (fv_callC C (ok_number_of KX GN c) (by decide) (ak_v ak_nil) rs_v (va_cons (fv_slice sl_str sp_str (fe_var 0 (hs := gives_v)) (vo_some (fe_var 1 (hs := gives_v))) (vo_some (fe_var 2 (hs := gives_v)))) fa_nil))) tk_v fun v4 => (fv_if1 (tv_cmp op_gt ol_B0 (fe_var 3 (hs := gives_v)) (fv_callB call_len cl_lenS (He.free_ok KX GN (c.fact 0 (f := .free "len") rfl)) (va_cons (fe_var 0 (hs := gives_v)) fa_nil))) (fun _ => (fs_raise C (er := .badForm) (pe := Er.badForm) rfl (He.exc_ok (c.fact 9 (f := .exc "BadForm") rfl)) (He.glo_ok KX GN (c.fact 10 (f := .glo "BadForm") rfl)) rfl (Le.imp (Le.none rfl)))) (fv_ret 4 (T := (sv (fTup K (tvc fTxt (tv1 fInt))))) (mk := fun r5 => r5) (fv_tup (va_cons (fv_slice sl_str sp_str (fe_var 0 (hs := gives_v)) (vo_some (fv_bin op_add ol_I0 (fe_var 2 (hs := gives_v)) fe_int)) (vo_some (fe_var 3 (hs := gives_v)))) (va_cons (fe_var 3 (hs := gives_v)) fa_nil)) (to_c to_1) (szl (szc (szc sz0)))) tk_v (fun _ _ => (.of rfl (Le.imp (.drop (.drop (.drop (.drop (.keep .nil)))))))))))))
abbrev st_read_nodes : Stmt := top 30
theorem sc_read_nodes : FnScope ["image", "at", "count", "nodes", "mark", "key", "value"] ["image", "at", "count"] (defScope st_read_nodes) := ⟨rfl, rfl, rfl, by decide +kernel, rfl, by decide +kernel, by decide +kernel⟩
theorem ok_read_nodes (KX : K.In h) (GN : h.Ns mainGlobals mg) (c : Sy fa fn fx K) : Cal P w K mg base "read_nodes" ["image", "at", "count"] 3 (spP K (fun (a : (List Nat) × Int × Int × Unit) => [(sv fTxt a.1), (sv fInt a.2.1), (sv fInt a.2.2.1)]) (fun a => read_nodes_m a.1 a.2.1 a.2.2.1) (ob (tL K (fTup K (tvc fInt (tvc fTxt (tv1 fTxt))))))) := by
  obtain ⟨fd, F⟩ := c.def_ 7 (d := mkD "read_nodes" 30) rfl
  refine ⟨_, fd, (He.glo_ok KX GN (c.fact 17 (f := .glo "read_nodes") rfl)), F.kp, F.bindsN (fun _ _ _ _ _ _ us hl => match us, hl with | [_, _, _], _ => rfl), ?_⟩
  refine fn_def (bm := fun (a : (List Nat) × Int × Int × Unit) => read_nodes_b a.1 a.2.1 a.2.2.1) (par := (fun (a : (List Nat) × Int × Int × Unit) (_ : Nat → V) => [(sv fTxt a.1), (sv fInt a.2.1), (sv fInt a.2.2.1)])) (res := (ob (tL K (fTup K (tvc fInt (tvc fTxt (tv1 fTxt))))))) (outs := (fun _ _ => [])) (Eh := (fun _ => eh0 8)) (cls := (fun e => e)) (outsE := (fun _ _ => [])) (R := (fun u r v => [none, none, none, none, none, none, none, some (pn v (ob (tL K (fTup K (tvc fInt (tvc fTxt (tv1 fTxt))))) r))])) (Nx := (fun u (s : Unit) => [none, none, none, none, none, none, none, none])) F sc_read_nodes  5 none [7] [] [] (fun _ h => nomatch h) (fun _ _ => rfl) (by decide) (by decide) (fun _ _ => rfl) (fun _ _ _ => (.cons rfl .nil)) (fun _ h => nomatch h) (fun _ _ => .nil) (by decide) (fun cdv A outer s H E C a u => ?_)
  obtain ⟨p0, p1, p2, _⟩ := a
  show FS _ _ _ _ [some (sv fTxt p0), some (sv fInt p1), some (sv fInt p2), none, none, none, none, none] _ (read_nodes_b p0 p1 p2) _ _ _
  unfold read_nodes_b
  exact (fs_set 3 (T := ob (tL K (fTup K (tvc fInt (tvc fTxt (tv1 fTxt)))))) C.nd fe_nil tk_o fun v1 => (fs_pin 3 rfl fun V2 => (fs_seq (N1 := (fun (s15 : Int × (List ((Int × (List Nat) × (List Nat))))) => [some (sv fTxt p0), some (sv fInt s15.1), some (sv fInt p2), some (pn V2 (ob (tL K (fTup K (tvc fInt (tvc fTxt (tv1 fTxt))))) s15.2)), none, none, none, none])) (ps_whl (Gs := (fun (s3 : Int × (List ((Int × (List Nat) × (List Nat))))) => [some (sv fTxt p0), some (sv fInt s3.1), some (sv fInt p2), some (pn V2 (ob (tL K (fTup K (tvc fInt (tvc fTxt (tv1 fTxt))))) s3.2)), none, none, none, none])) (tl' := [4, 5, 1, 6, 3]) (x0 := (p1, v1)) (p := (fun e _ => e)) C (210) (fun s3 => (tv_cmp op_lt ol_B0 (fv_callB call_len cl_lenL (He.free_ok KX GN (c.fact 0 (f := .free "len") rfl)) (va_cons (fe_var 3 (hs := (gives_pn gives_o))) fa_nil)) (fe_var 2 (hs := gives_v)))) (.of rfl (Le.imp (.keep (.keep (.keep (.keep (.keep (.keep (.keep (.keep .nil)))))))))) (fun s3 => (fs_set 4 (T := sv fTxt) C.nd (fv_slice sl_str sp_str (fe_var 0 (hs := gives_v)) (vo_some (fe_var 1 (hs := gives_v))) (vo_some (fv_bin op_add ol_I0 (fe_var 1 (hs := gives_v)) fe_int))) tk_v fun v4 => (fv_if1 (fw_t (vw_or (tv_cmp op_eq ol_eqS (fe_var 4 (hs := gives_v)) fe_str) (fw_or1 (tv_cmp op_notin_str ol_notinStr (fe_var 4 (hs := gives_v)) fe_str)))) (fun _ => (fs_raise C (er := .badForm) (pe := Er.badForm) rfl (He.exc_ok (c.fact 9 (f := .exc "BadForm") rfl)) (He.glo_ok KX GN (c.fact 10 (f := .glo "BadForm") rfl)) rfl (Le.imp (Le.none rfl)))) (fs_unp (fv_callC C (ok_read_part KX GN c) (by decide) (ak_v (ak_v ak_nil)) rs_v (va_cons (fe_var 0 (hs := gives_v)) (va_cons (fv_bin op_add ol_I0 (fe_var 1 (hs := gives_v)) fe_int) fa_nil))) (fg_tup C.calm (fgs_c (fg_name 5 C.nd) (fgs_1 (fg_name 1 C.nd))) (tnc tn1)) fun v5 => (fs_unp (fv_callC C (ok_read_part KX GN c) (by decide) (ak_v (ak_v ak_nil)) rs_v (va_cons (fe_var 0 (hs := gives_v)) (va_cons (fe_var 1 (hs := gives_v)) fa_nil))) (fg_tup C.calm (fgs_c (fg_name 6 C.nd) (fgs_1 (fg_name 1 C.nd))) (tnc tn1)) fun v6 => (fv_if1 (fw_t (vw_or (tv_not (tv_chain op_le op_le ol_B0 ol_B0 fe_int (fv_callB call_len cl_lenS (He.free_ok KX GN (c.fact 0 (f := .free "len") rfl)) (va_cons (fe_var 5 (hs := gives_v)) fa_nil)) (fe_globI (by rfl) (He.int_ok KX GN (c.fact 15 (f := .int "MAX_ENTRY_KEY" 40) rfl))))) (fw_or1 (tv_cmp op_gt ol_B0 (fv_callB call_len cl_lenS (He.free_ok KX GN (c.fact 0 (f := .free "len") rfl)) (va_cons (fe_var 6 (hs := gives_v)) fa_nil)) (fe_globI (by rfl) (He.int_ok KX GN (c.fact 16 (f := .int "MAX_ENTRY_VALUE" 600) rfl))))))) (fun _ => (fs_raise C (er := .badForm) (pe := Er.badForm) rfl (He.exc_ok (c.fact 9 (f := .exc "BadForm") rfl)) (He.glo_ok KX GN (c.fact 10 (f := .glo "BadForm") rfl)) rfl (Le.imp (Le.none rfl)))) (fs_app 3 (A := (fTup K (tvc fInt (tvc fTxt (tv1 fTxt))))) (as := s3.2) rfl (fe_var 3 (hs := gives_V)) (fe_tup (fa_cons (fv_callTy call_int_str cl_intS (He.free_ok KX GN (c.fact 3 (f := .free "int") rfl)) (va_cons (fe_var 4 (hs := gives_v)) fa_nil)) (fa_cons (fe_var 5 (hs := gives_v)) (fa_cons (fe_var 6 (hs := gives_v)) fa_nil))) (to_c (to_c to_1)) (szl (szc (szc (szc sz0))))) fun v14 => (fs_nil (.of rfl (Le.imp (.keep (.keep (.keep (.keep (.drop (.drop (.drop (.keep .nil))))))))))))))))))) fun s15 => (fv_if1 (tv_cmp op_ne ol_neI (fe_var 1 (hs := gives_v)) (fv_callB call_len cl_lenS (He.free_ok KX GN (c.fact 0 (f := .free "len") rfl)) (va_cons (fe_var 0 (hs := gives_v)) fa_nil))) (fun _ => (fs_raise C (er := .badForm) (pe := Er.badForm) rfl (He.exc_ok (c.fact 9 (f := .exc "BadForm") rfl)) (He.glo_ok KX GN (c.fact 10 (f := .glo "BadForm") rfl)) rfl (Le.imp (Le.none rfl)))) (fs_retM 3 7 (fe_var 3 (hs := gives_V)) rfl (.of rfl (Le.imp (.drop (.drop (.drop (.keep (.keep (.keep (.keep (.keep .nil)))))))))))))))
abbrev st_gather : Stmt := top 21
theorem sc_gather : FnScope ["tree", "entries"] ["tree", "entries"] (defScope st_gather) := ⟨rfl, rfl, rfl, by decide +kernel, rfl, by decide +kernel, by decide +kernel⟩
theorem okn_gather (KX : K.In h) (GN : h.Ns mainGlobals mg) (c : Sy fa fn fx K) : ∀ n : Nat, Cal P w K mg base "gather" ["tree", "entries"] (1 + n) (spG K (fun (a : (Tr (List Nat)) × (List (((List Nat) × (List Nat)))) × Unit) (u : Nat → V) => [(sv (fTree K fTxt) a.1), (pn (u 1) (ob (tL K (fTup K (tvc fTxt (tv1 fTxt)))) a.2.1))]) (fun a => gather_f n a.1 a.2.1) (fun (_ : List (((List Nat) × (List Nat)))) => sv fUnit ()) (fun (r : List (((List Nat) × (List Nat)))) (u : Nat → V) => [((u 1), ob (tL K (fTup K (tvc fTxt (tv1 fTxt)))) r)]) (fun e => e.1) (fun (e : Er × (List (((List Nat) × (List Nat))))) (u : Nat → V) => [((u 1), ob (tL K (fTup K (tvc fTxt (tv1 fTxt)))) e.2)]))
  | 0 => by
    obtain ⟨fd, F⟩ := c.def_ 8 (d := mkD "gather" 21) rfl
    refine ⟨_, fd, (He.glo_ok KX GN (c.fact 18 (f := .glo "gather") rfl)), F.kp, F.bindsN (fun _ _ _ _ _ _ us hl => match us, hl with | [_, _], _ => rfl), ?_⟩
    refine fn_def (bm := fun (_ : (Tr (List Nat)) × (List (((List Nat) × (List Nat)))) × Unit) => none) (par := (fun (a : (Tr (List Nat)) × (List (((List Nat) × (List Nat)))) × Unit) (u : Nat → V) => [(sv (fTree K fTxt) a.1), (pn (u 1) (ob (tL K (fTup K (tvc fTxt (tv1 fTxt)))) a.2.1))])) (res := (fun (_ : List (((List Nat) × (List Nat)))) => sv fUnit ())) (outs := (fun (r : List (((List Nat) × (List Nat)))) (u : Nat → V) => [((u 1), ob (tL K (fTup K (tvc fTxt (tv1 fTxt)))) r)])) (Eh := (fun u => (⟨fun e => e.1, fun e => [none, some (pn (u 1) (ob (tL K (fTup K (tvc fTxt (tv1 fTxt)))) e.2)), none]⟩ : EH (Er × (List (((List Nat) × (List Nat)))))))) (cls := (fun e => e.1)) (outsE := (fun (e : Er × (List (((List Nat) × (List Nat))))) (u : Nat → V) => [((u 1), ob (tL K (fTup K (tvc fTxt (tv1 fTxt)))) e.2)])) (R := (fun u r v => [none, some (pn (u 1) (ob (tL K (fTup K (tvc fTxt (tv1 fTxt)))) r)), some (pn v (sv fUnit ()))])) (Nx := (fun u (s : (List (((List Nat) × (List Nat))))) => [none, some (pn (u 1) (ob (tL K (fTup K (tvc fTxt (tv1 fTxt)))) s)), none])) F sc_gather (k := 0) 1 (some fun (s : (List (((List Nat) × (List Nat))))) => s) [2, 1] [1] [1] (fun _ h _ _ _ _ => by cases h; exact ⟨rfl, rfl⟩) (fun _ _ => rfl) (by decide) (by decide) (fun _ _ => rfl) (fun _ _ _ => (.cons rfl (.cons rfl .nil))) (fun _ h _ _ => by cases h; exact (.cons rfl .nil)) (fun _ _ => (.cons rfl .nil)) (by decide) (fun cdv A outer s H E C a u => ?_)
    exact PSs.weak pss_never fun D σ H ⟨B, F, T⟩ => T.ne rfl
  | n + 1 => by
    have ih := okn_gather KX GN c n
    obtain ⟨fd, F⟩ := c.def_ 8 (d := mkD "gather" 21) rfl
    refine ⟨_, fd, (He.glo_ok KX GN (c.fact 18 (f := .glo "gather") rfl)), F.kp, F.bindsN (fun _ _ _ _ _ _ us hl => match us, hl with | [_, _], _ => rfl), ?_⟩
    refine fn_def (bm := fun (a : (Tr (List Nat)) × (List (((List Nat) × (List Nat)))) × Unit) => gather_b (gather_f n) a.1 a.2.1) (par := (fun (a : (Tr (List Nat)) × (List (((List Nat) × (List Nat)))) × Unit) (u : Nat → V) => [(sv (fTree K fTxt) a.1), (pn (u 1) (ob (tL K (fTup K (tvc fTxt (tv1 fTxt)))) a.2.1))])) (res := (fun (_ : List (((List Nat) × (List Nat)))) => sv fUnit ())) (outs := (fun (r : List (((List Nat) × (List Nat)))) (u : Nat → V) => [((u 1), ob (tL K (fTup K (tvc fTxt (tv1 fTxt)))) r)])) (Eh := (fun u => (⟨fun e => e.1, fun e => [none, some (pn (u 1) (ob (tL K (fTup K (tvc fTxt (tv1 fTxt)))) e.2)), none]⟩ : EH (Er × (List (((List Nat) × (List Nat)))))))) (cls := (fun e => e.1)) (outsE := (fun (e : Er × (List (((List Nat) × (List Nat))))) (u : Nat → V) => [((u 1), ob (tL K (fTup K (tvc fTxt (tv1 fTxt)))) e.2)])) (R := (fun u r v => [none, some (pn (u 1) (ob (tL K (fTup K (tvc fTxt (tv1 fTxt)))) r)), some (pn v (sv fUnit ()))])) (Nx := (fun u (s : (List (((List Nat) × (List Nat))))) => [none, some (pn (u 1) (ob (tL K (fTup K (tvc fTxt (tv1 fTxt)))) s)), none])) F sc_gather (k := 1 + n) 1 (some fun (s : (List (((List Nat) × (List Nat))))) => s) [2, 1] [1] [1] (fun _ h _ _ _ _ => by cases h; exact ⟨rfl, rfl⟩) (fun _ _ => rfl) (by decide) (by decide) (fun _ _ => rfl) (fun _ _ _ => (.cons rfl (.cons rfl .nil))) (fun _ h _ _ => by cases h; exact (.cons rfl .nil)) (fun _ _ => (.cons rfl .nil)) (by decide) (fun cdv A outer s H E C a u => ?_)
    obtain ⟨p0, p1, _⟩ := a
    show FS _ _ _ _ [some (sv (fTree K fTxt) p0), some (pn (u 1) (ob (tL K (fTup K (tvc fTxt (tv1 fTxt)))) p1)), none] _ (gather_b (gather_f n) p0 p1) _ _ _
    unfold gather_b
    exact (fv_ifend (p := (fun e => (e, p1))) (hp := ⟨fun _ => rfl, fun _ => (.of rfl (Le.imp (.drop (.keep (.keep .nil)))))⟩) (tv_cmp op_notN ol_ntTr (fe_var 0 (hs := gives_v)) fe_none) (fx_expr (fx_call' (A := fun (_ : List (((List Nat) × (List Nat)))) (_ : Hp) (v : V) => v = .non) (g := fun a5 => (a5.1, p1, ())) (ks := [1]) (kt := [1]) (kte := [1]) (κ := [none, some 1]) (w := (fun | 1 => (u 1) | _ => .non)) (q := (fun (e8 : Er × (List (((List Nat) × (List Nat))))) => (e8.1, e8.2))) (p := (fun e => (e, p1))) (hp := ⟨fun _ => rfl, fun _ => (.of rfl (Le.imp (.drop (.keep (.keep .nil)))))⟩) C ih (by omega) (fa_cons (fv_ix ix_tup ol_trL (fe_var 0 (hs := gives_v)) fe_int) (fa_cons (fe_var 1 (hs := gives_V)) fa_nil)) (ag_cons ag_v (ag_cons (ag_p 1 rfl) ag_nil)) ⟨own_all rfl, by decide, by decide, fun _ => (.pin rfl .nil), by decide, by decide, fun _ => (.pin rfl .nil), by decide, fun _ => rfl, (fun e8 => (.of rfl (Le.imp (.drop (.keep (.keep .nil))))))⟩ (fun r Y F H v ms h => h.1)) fun z7 _ => (fs_app 1 (A := (fTup K (tvc fTxt (tv1 fTxt)))) (as := z7) (p := (fun e => (e, z7))) (hp := ⟨fun _ => rfl, fun _ => (.of rfl (Le.imp (.drop (.keep (.keep .nil)))))⟩) rfl (fe_var 1 (hs := gives_V)) (fe_tup (fa_cons (fv_ix ix_tup ol_trK (fe_var 0 (hs := gives_v)) fe_int) (fa_cons (fv_ix ix_tup ol_trA (fe_var 0 (hs := gives_v)) fe_int) fa_nil)) (to_c to_1) (szl (szc (szc sz0)))) fun v14 => (fx_expr (fx_call' (A := fun (_ : List (((List Nat) × (List Nat)))) (_ : Hp) (v : V) => v = .non) (g := fun a19 => (a19.1, (z7 ++ [v14]), ())) (ks := [1]) (kt := [1]) (kte := [1]) (κ := [none, some 1]) (w := (fun | 1 => (u 1) | _ => .non)) (q := (fun (e22 : Er × (List (((List Nat) × (List Nat))))) => (e22.1, e22.2))) (p := (fun e => (e, (z7 ++ [v14])))) (hp := ⟨fun _ => rfl, fun _ => (.of rfl (Le.imp (.drop (.keep (.keep .nil)))))⟩) C ih (by omega) (fa_cons (fv_ix ix_tup ol_trR (fe_var 0 (hs := gives_v)) fe_int) (fa_cons (fe_var 1 (hs := gives_V)) fa_nil)) (ag_cons ag_v (ag_cons (ag_p 1 rfl) ag_nil)) ⟨own_all rfl, by decide, by decide, fun _ => (.pin rfl .nil), by decide, by decide, fun _ => (.pin rfl .nil), by decide, fun _ => rfl, (fun e22 => (.of rfl (Le.imp (.drop (.keep (.keep .nil))))))⟩ (fun r Y F H v ms h => h.1)) fun z21 _ => (fs_nil (.of rfl (Le.imp (.drop (.keep (.keep .nil))))))))) (fs_nil (.of rfl (Le.imp (.drop (.keep (.keep .nil)))))))
theorem ok_gather (KX : K.In h) (GN : h.Ns mainGlobals mg) (c : Sy fa fn fx K) : Cal P w K mg base "gather" ["tree", "entries"] 206 (spG K (fun (a : (Tr (List Nat)) × (List (((List Nat) × (List Nat)))) × Unit) (u : Nat → V) => [(sv (fTree K fTxt) a.1), (pn (u 1) (ob (tL K (fTup K (tvc fTxt (tv1 fTxt)))) a.2.1))]) (fun a => gather_m a.1 a.2.1) (fun (_ : List (((List Nat) × (List Nat)))) => sv fUnit ()) (fun (r : List (((List Nat) × (List Nat)))) (u : Nat → V) => [((u 1), ob (tL K (fTup K (tvc fTxt (tv1 fTxt)))) r)]) (fun e => e.1) (fun (e : Er × (List (((List Nat) × (List Nat))))) (u : Nat → V) => [((u 1), ob (tL K (fTup K (tvc fTxt (tv1 fTxt)))) e.2)])) := by
  exact okn_gather KX GN c 205
abbrev st_tree_entries : Stmt := top 20
theorem sc_tree_entries : FnScope ["tree", "entries"] ["tree"] (defScope st_tree_entries) := ⟨rfl, rfl, rfl, by decide +kernel, rfl, by decide +kernel, by decide +kernel⟩
theorem ok_tree_entries (KX : K.In h) (GN : h.Ns mainGlobals mg) (c : Sy fa fn fx K) : Cal P w K mg base "tree_entries" ["tree"] 207 (spP K (fun (a : (Tr (List Nat)) × Unit) => [(sv (fTree K fTxt) a.1)]) (fun a => tree_entries_m a.1) (ob (tL K (fTup K (tvc fTxt (tv1 fTxt)))))) := by
  obtain ⟨fd, F⟩ := c.def_ 9 (d := mkD "tree_entries" 20) rfl
  refine ⟨_, fd, (He.glo_ok KX GN (c.fact 19 (f := .glo "tree_entries") rfl)), F.kp, F.bindsN (fun _ _ _ _ _ _ us hl => match us, hl with | [_], _ => rfl), ?_⟩
  refine fn_def (bm := fun (a : (Tr (List Nat)) × Unit) => tree_entries_b a.1) (par := (fun (a : (Tr (List Nat)) × Unit) (_ : Nat → V) => [(sv (fTree K fTxt) a.1)])) (res := (ob (tL K (fTup K (tvc fTxt (tv1 fTxt)))))) (outs := (fun _ _ => [])) (Eh := (fun _ => eh0 3)) (cls := (fun e => e)) (outsE := (fun _ _ => [])) (R := (fun u r v => [none, none, some (pn v (ob (tL K (fTup K (tvc fTxt (tv1 fTxt)))) r))])) (Nx := (fun u (s : Unit) => [none, none, none])) F sc_tree_entries  2 none [2] [] [] (fun _ h => nomatch h) (fun _ _ => rfl) (by decide) (by decide) (fun _ _ => rfl) (fun _ _ _ => (.cons rfl .nil)) (fun _ h => nomatch h) (fun _ _ => .nil) (by decide) (fun cdv A outer s H E C a u => ?_)
  obtain ⟨p0, _⟩ := a
  show FS _ _ _ _ [some (sv (fTree K fTxt) p0), none, none] _ (tree_entries_b p0) _ _ _
  unfold tree_entries_b
  exact (fs_set 1 (T := ob (tL K (fTup K (tvc fTxt (tv1 fTxt))))) C.nd fe_nil tk_o fun v1 => (fs_pin 1 rfl fun V2 => (fx_expr (fxv_call (A := fun (_ : List (((List Nat) × (List Nat)))) (_ : Hp) (v : V) => v = .non) (g := fun a3 => (a3.1, v1, ())) (ks := [1]) (kt := [1]) (kte := [1]) (κ := [none, some 1]) (w := (fun | 1 => V2 | _ => .non)) (q := (fun (e6 : Er × (List (((List Nat) × (List Nat))))) => e6.1)) C (ok_gather KX GN c) (by decide) (va_cons (fe_var 0 (hs := gives_v)) (va_cons (fe_var 1 (hs := gives_V)) fa_nil)) (ag_cons ag_v (ag_cons (ag_p 1 rfl) ag_nil)) ⟨own_all rfl, by decide, by decide, fun _ => (.pin rfl .nil), by decide, by decide, fun _ => (.pin rfl .nil), by decide, fun _ => rfl, (fun _ => Le.imp (Le.none rfl))⟩ (fun r Y F H v ms h => h.1)) fun z5 _ => (fs_retM 1 2 (fe_var 1 (hs := gives_V)) rfl (.of rfl (Le.imp (.drop (.keep (.keep .nil)))))))))
abbrev st_coin : Stmt := top 4
theorem sc_coin : FnScope ["seed", "tag", "text", "value", "char"] ["seed", "tag", "text"] (defScope st_coin) := ⟨rfl, rfl, rfl, by decide +kernel, rfl, by decide +kernel, by decide +kernel⟩
theorem ok_coin (KX : K.In h) (GN : h.Ns mainGlobals mg) (c : Sy fa fn fx K) : Cal P w K mg base "coin" ["seed", "tag", "text"] 1 (spP K (fun (a : Int × Int × (List Nat) × Unit) => [(sv fInt a.1), (sv fInt a.2.1), (sv fTxt a.2.2.1)]) (fun a => coin_m a.1 a.2.1 a.2.2.1) (sv fInt)) := by
  obtain ⟨fd, F⟩ := c.def_ 10 (d := mkD "coin" 4) rfl
  refine ⟨_, fd, (He.glo_ok KX GN (c.fact 21 (f := .glo "coin") rfl)), F.kp, F.bindsN (fun _ _ _ _ _ _ us hl => match us, hl with | [_, _, _], _ => rfl), ?_⟩
  refine fn_def (bm := fun (a : Int × Int × (List Nat) × Unit) => coin_b a.1 a.2.1 a.2.2.1) (par := (fun (a : Int × Int × (List Nat) × Unit) (_ : Nat → V) => [(sv fInt a.1), (sv fInt a.2.1), (sv fTxt a.2.2.1)])) (res := (sv fInt)) (outs := (fun _ _ => [])) (Eh := (fun _ => eh0 6)) (cls := (fun e => e)) (outsE := (fun _ _ => [])) (R := (fun u r v => [none, none, none, none, none, some (pn v (sv fInt r))])) (Nx := (fun u (s : Unit) => [none, none, none, none, none, none])) F sc_coin  3 none [5] [] [] (fun _ h => nomatch h) (fun _ _ => rfl) (by decide) (by decide) (fun _ _ => rfl) (fun _ _ _ => (.cons rfl .nil)) (fun _ h => nomatch h) (fun _ _ => .nil) (by decide) (fun cdv A outer s H E C a u => ?_)
  obtain ⟨p0, p1, p2, _⟩ := a
  show FS _ _ _ _ [some (sv fInt p0), some (sv fInt p1), some (sv fTxt p2), none, none, none] _ (coin_b p0 p1 p2) _ _ _
  unfold coin_b
  exact (fs_set 3 (T := sv fInt) C.nd (fv_bin op_mod (ol_Ic (by decide)) (fv_bin op_add ol_I0 (fv_bin op_add ol_I0 (fv_bin op_mul (ol_Ic (cmul_r (by decide))) (fe_var 0 (hs := gives_v)) fe_int) (fv_bin op_mul (ol_Ic (cmul_r (by decide))) (fe_var 1 (hs := gives_v)) fe_int)) fe_int) (fe_globI (by rfl) (He.int_ok KX GN (c.fact 20 (f := .int "MODULUS" 2147483647) rfl)))) tk_v fun v1 => (fs_seq (N1 := (fun (s10 : Int) => [some (sv fInt p0), some (sv fInt p1), some (sv fTxt p2), some (sv fInt s10), none, none])) (pv_forS (Gs := (fun (s2 : Int) => [some (sv fInt p0), some (sv fInt p1), some (sv fTxt p2), some (sv fInt s2), none, none])) (tl' := [4, 3]) (x0 := v1) C (fe_var 2 (hs := gives_v)) (.of rfl (Le.imp (.keep (.keep (.keep (.keep (.keep (.keep .nil)))))))) (fg_name 4 C.nd) (fun s2 a3 => (fs_set 3 (T := sv fInt) C.nd (fe_binr op_mod (fun _ => (ol_Ic (by decide))) (fe_bin op_add (fun _ _ => ol_I0) (fe_bin op_add (fun _ _ => ol_I0) (fv_bin op_mul (ol_Ic (cmul_r (by decide))) (fe_var 3 (hs := gives_v)) fe_int) (fv_callB call_ord cl_ord (He.free_ok KX GN (c.fact 4 (f := .free "ord") rfl)) (va_cons (fe_var 4 (hs := gives_v)) fa_nil))) fe_int) (fe_globI (by rfl) (He.int_ok KX GN (c.fact 20 (f := .int "MODULUS" 2147483647) rfl)))) tk_v fun v9 => (fs_nil (.of rfl (Le.imp (.keep (.keep (.keep (.keep (.drop (.keep .nil)))))))))))) fun s10 => (fv_ret 5 (T := (sv fInt)) (mk := fun r11 => r11) (fv_bin op_mod (ol_Ic (by decide)) (fv_bin op_add ol_I0 (fv_bin op_mul (ol_Ic (cmul_r (by decide))) (fe_var 3 (hs := gives_v)) fe_int) (fv_callB call_len cl_lenS (He.free_ok KX GN (c.fact 0 (f := .free "len") rfl)) (va_cons (fe_var 2 (hs := gives_v)) fa_nil))) (fe_globI (by rfl) (He.int_ok KX GN (c.fact 20 (f := .int "MODULUS" 2147483647) rfl)))) tk_v (fun _ _ => (.of rfl (Le.imp (.drop (.drop (.drop (.drop (.keep (.keep .nil))))))))))))
abbrev st_above : Stmt := top 19
theorem sc_above : FnScope ["seed", "key", "other", "height", "other_height"] ["seed", "key", "other"] (defScope st_above) := ⟨rfl, rfl, rfl, by decide +kernel, rfl, by decide +kernel, by decide +kernel⟩
theorem ok_above (KX : K.In h) (GN : h.Ns mainGlobals mg) (c : Sy fa fn fx K) : Cal P w K mg base "above" ["seed", "key", "other"] 2 (spP K (fun (a : Int × (List Nat) × (List Nat) × Unit) => [(sv fInt a.1), (sv fTxt a.2.1), (sv fTxt a.2.2.1)]) (fun a => above_m a.1 a.2.1 a.2.2.1) (sv fBool)) := by
  obtain ⟨fd, F⟩ := c.def_ 11 (d := mkD "above" 19) rfl
  refine ⟨_, fd, (He.glo_ok KX GN (c.fact 23 (f := .glo "above") rfl)), F.kp, F.bindsN (fun _ _ _ _ _ _ us hl => match us, hl with | [_, _, _], _ => rfl), ?_⟩
  refine fn_def (bm := fun (a : Int × (List Nat) × (List Nat) × Unit) => above_b a.1 a.2.1 a.2.2.1) (par := (fun (a : Int × (List Nat) × (List Nat) × Unit) (_ : Nat → V) => [(sv fInt a.1), (sv fTxt a.2.1), (sv fTxt a.2.2.1)])) (res := (sv fBool)) (outs := (fun _ _ => [])) (Eh := (fun _ => eh0 6)) (cls := (fun e => e)) (outsE := (fun _ _ => [])) (R := (fun u r v => [none, none, none, none, none, some (pn v (sv fBool r))])) (Nx := (fun u (s : Unit) => [none, none, none, none, none, none])) F sc_above  3 none [5] [] [] (fun _ h => nomatch h) (fun _ _ => rfl) (by decide) (by decide) (fun _ _ => rfl) (fun _ _ _ => (.cons rfl .nil)) (fun _ h => nomatch h) (fun _ _ => .nil) (by decide) (fun cdv A outer s H E C a u => ?_)
  obtain ⟨p0, p1, p2, _⟩ := a
  show FS _ _ _ _ [some (sv fInt p0), some (sv fTxt p1), some (sv fTxt p2), none, none, none] _ (above_b p0 p1 p2) _ _ _
  unfold above_b
  exact (fs_set 3 (T := sv fInt) C.nd (fv_callC C (ok_coin KX GN c) (by decide) (ak_v (ak_v (ak_v ak_nil))) rs_v (va_cons (fe_var 0 (hs := gives_v)) (va_cons (fe_globI (by rfl) (He.int_ok KX GN (c.fact 22 (f := .int "HEIGHT" 3) rfl))) (va_cons (fe_var 1 (hs := gives_v)) fa_nil)))) tk_v fun v1 => (fs_set 4 (T := sv fInt) C.nd (fv_callC C (ok_coin KX GN c) (by decide) (ak_v (ak_v (ak_v ak_nil))) rs_v (va_cons (fe_var 0 (hs := gives_v)) (va_cons (fe_globI (by rfl) (He.int_ok KX GN (c.fact 22 (f := .int "HEIGHT" 3) rfl))) (va_cons (fe_var 2 (hs := gives_v)) fa_nil)))) tk_v fun v2 => (fv_if1 (tv_cmp op_eq ol_eqI (fe_var 3 (hs := gives_v)) (fe_var 4 (hs := gives_v))) (fun _ => (fv_ret 5 (T := (sv fBool)) (mk := fun r3 => r3) (fv_cmp op_lt_str (ol_strcmp (f := fun i j => decide (i < j))) (fe_var 1 (hs := gives_v)) (fe_var 2 (hs := gives_v))) tk_v (fun _ _ => (.of rfl (Le.imp (.drop (.drop (.drop (.drop (.drop (.keep .nil))))))))))) (fv_ret 5 (T := (sv fBool)) (mk := fun r4 => r4) (fv_cmp op_gt ol_B0 (fe_var 3 (hs := gives_v)) (fe_var 4 (hs := gives_v))) tk_v (fun _ _ => (.of rfl (Le.imp (.drop (.drop (.drop (.drop (.drop (.keep .nil)))))))))))))
abbrev st_heaped : Stmt := top 28
theorem sc_heaped : FnScope ["seed", "tree", "child"] ["seed", "tree"] (defScope st_heaped) := ⟨rfl, rfl, rfl, by decide +kernel, rfl, by decide +kernel, by decide +kernel⟩
theorem okn_heaped (KX : K.In h) (GN : h.Ns mainGlobals mg) (c : Sy fa fn fx K) : ∀ n : Nat, Cal P w K mg base "heaped" ["seed", "tree"] (2 + n) (spP K (fun (a : Int × (Tr (List Nat)) × Unit) => [(sv fInt a.1), (sv (fTree K fTxt) a.2.1)]) (fun a => heaped_f n a.1 a.2.1) (sv fBool))
  | 0 => by
    obtain ⟨fd, F⟩ := c.def_ 12 (d := mkD "heaped" 28) rfl
    refine ⟨_, fd, (He.glo_ok KX GN (c.fact 24 (f := .glo "heaped") rfl)), F.kp, F.bindsN (fun _ _ _ _ _ _ us hl => match us, hl with | [_, _], _ => rfl), ?_⟩
    refine fn_def (bm := fun (_ : Int × (Tr (List Nat)) × Unit) => none) (par := (fun (a : Int × (Tr (List Nat)) × Unit) (_ : Nat → V) => [(sv fInt a.1), (sv (fTree K fTxt) a.2.1)])) (res := (sv fBool)) (outs := (fun _ _ => [])) (Eh := (fun _ => eh0 4)) (cls := (fun e => e)) (outsE := (fun _ _ => [])) (R := (fun u r v => [none, none, none, some (pn v (sv fBool r))])) (Nx := (fun u (s : Unit) => [none, none, none, none])) F sc_heaped (k := 1) 2 none [3] [] [] (fun _ h => nomatch h) (fun _ _ => rfl) (by decide) (by decide) (fun _ _ => rfl) (fun _ _ _ => (.cons rfl .nil)) (fun _ h => nomatch h) (fun _ _ => .nil) (by decide) (fun cdv A outer s H E C a u => ?_)
    exact PSs.weak pss_never fun D σ H ⟨B, F, T⟩ => T.ne rfl
  | n + 1 => by
    have ih := okn_heaped KX GN c n
    obtain ⟨fd, F⟩ := c.def_ 12 (d := mkD "heaped" 28) rfl
    refine ⟨_, fd, (He.glo_ok KX GN (c.fact 24 (f := .glo "heaped") rfl)), F.kp, F.bindsN (fun _ _ _ _ _ _ us hl => match us, hl with | [_, _], _ => rfl), ?_⟩
    refine fn_def (bm := fun (a : Int × (Tr (List Nat)) × Unit) => heaped_b (heaped_f n) a.1 a.2.1) (par := (fun (a : Int × (Tr (List Nat)) × Unit) (_ : Nat → V) => [(sv fInt a.1), (sv (fTree K fTxt) a.2.1)])) (res := (sv fBool)) (outs := (fun _ _ => [])) (Eh := (fun _ => eh0 4)) (cls := (fun e => e)) (outsE := (fun _ _ => [])) (R := (fun u r v => [none, none, none, some (pn v (sv fBool r))])) (Nx := (fun u (s : Unit) => [none, none, none, none])) F sc_heaped (k := 2 + n) 2 none [3] [] [] (fun _ h => nomatch h) (fun _ _ => rfl) (by decide) (by decide) (fun _ _ => rfl) (fun _ _ _ => (.cons rfl .nil)) (fun _ h => nomatch h) (fun _ _ => .nil) (by decide) (fun cdv A outer s H E C a u => ?_)
    obtain ⟨p0, p1, _⟩ := a
    show FS _ _ _ _ [some (sv fInt p0), some (sv (fTree K fTxt) p1), none, none] _ (heaped_b (heaped_f n) p0 p1) _ _ _
    unfold heaped_b
    exact (fv_if1 (tv_cmp op_isN ol_isTr (fe_var 1 (hs := gives_v)) fe_none) (fun _ => (fv_ret 3 (T := (sv fBool)) (mk := fun r1 => r1) fe_bool tk_v (fun _ _ => (.of rfl (Le.imp (.drop (.drop (.keep (.keep .nil))))))))) (fs_seq (N1 := (fun (s27 : Unit) => [some (sv fInt p0), some (sv (fTree K fTxt) p1), none, none])) (ps_forTL (Gs := (fun (s14 : Unit) => [some (sv fInt p0), some (sv (fTree K fTxt) p1), none, none])) (tl' := [2]) (x0 := ()) (A := (fTree K fTxt)) C (fe_tl2 (fe_tup (fa_cons (fv_ix ix_tup ol_trL (fe_var 1 (hs := gives_v)) fe_int) (fa_cons (fv_ix ix_tup ol_trR (fe_var 1 (hs := gives_v)) fe_int) fa_nil)) (to_c to_1) (szl (szc (szc sz0))))) (.of rfl (Le.imp (.keep (.keep (.keep (.keep .nil)))))) (fg_name 2 C.nd) (fun s14 a15 => (fs_ifend (fw_t (fw_and (tv_cmp op_notN ol_ntTr (fe_var 2 (hs := gives_v)) fe_none) (fw_and1 (ft_not (ft_val (fe_callC C (ok_above KX GN c) (by omega) (ak_v (ak_v (ak_v ak_nil))) rs_v (fa_cons (fe_var 0 (hs := gives_v)) (fa_cons (fv_ix ix_tup ol_trK (fe_var 1 (hs := gives_v)) fe_int) (fa_cons (fv_ix ix_tup ol_trK (fe_var 2 (hs := gives_v)) fe_int) fa_nil))))))))) (fv_ret 3 (T := (sv fBool)) (mk := fun r25 => r25) fe_bool tk_v (fun _ _ => (.of rfl (Le.imp (.drop (.drop (.drop (.keep .nil)))))))) (fs_nil (.of rfl (Le.imp (.keep (.keep (.drop (.keep .nil)))))))))) fun s27 => (fs_ret 3 (T := (sv fBool)) (mk := fun r39 => r39) (fe_and (fe_callC C ih (by omega) (ak_v (ak_v ak_nil)) rs_v (fa_cons (fe_var 0 (hs := gives_v)) (fa_cons (fv_ix ix_tup ol_trL (fe_var 1 (hs := gives_v)) fe_int) fa_nil))) (fe_one (fe_callC C ih (by omega) (ak_v (ak_v ak_nil)) rs_v (fa_cons (fe_var 0 (hs := gives_v)) (fa_cons (fv_ix ix_tup ol_trR (fe_var 1 (hs := gives_v)) fe_int) fa_nil))))) tk_v (fun _ _ => (.of rfl (Le.imp (.drop (.drop (.keep (.keep .nil))))))))))
theorem ok_heaped (KX : K.In h) (GN : h.Ns mainGlobals mg) (c : Sy fa fn fx K) : Cal P w K mg base "heaped" ["seed", "tree"] 207 (spP K (fun (a : Int × (Tr (List Nat)) × Unit) => [(sv fInt a.1), (sv (fTree K fTxt) a.2.1)]) (fun a => heaped_m a.1 a.2.1) (sv fBool)) := by
  exact okn_heaped KX GN c 205
abbrev st_is_shaped : Stmt := top 27
theorem sc_is_shaped : FnScope ["seed", "tree", "entries", "i"] ["seed", "tree"] (defScope st_is_shaped) := ⟨rfl, rfl, rfl, by decide +kernel, rfl, by decide +kernel, by decide +kernel⟩
theorem ok_is_shaped (KX : K.In h) (GN : h.Ns mainGlobals mg) (c : Sy fa fn fx K) : Cal P w K mg base "is_shaped" ["seed", "tree"] 208 (spP K (fun (a : Int × (Tr (List Nat)) × Unit) => [(sv fInt a.1), (sv (fTree K fTxt) a.2.1)]) (fun a => is_shaped_m a.1 a.2.1) (sv fBool)) := by
  obtain ⟨fd, F⟩ := c.def_ 13 (d := mkD "is_shaped" 27) rfl
  refine ⟨_, fd, (He.glo_ok KX GN (c.fact 25 (f := .glo "is_shaped") rfl)), F.kp, F.bindsN (fun _ _ _ _ _ _ us hl => match us, hl with | [_, _], _ => rfl), ?_⟩
  refine fn_def (bm := fun (a : Int × (Tr (List Nat)) × Unit) => is_shaped_b a.1 a.2.1) (par := (fun (a : Int × (Tr (List Nat)) × Unit) (_ : Nat → V) => [(sv fInt a.1), (sv (fTree K fTxt) a.2.1)])) (res := (sv fBool)) (outs := (fun _ _ => [])) (Eh := (fun _ => eh0 5)) (cls := (fun e => e)) (outsE := (fun _ _ => [])) (R := (fun u r v => [none, none, none, none, some (pn v (sv fBool r))])) (Nx := (fun u (s : Unit) => [none, none, none, none, none])) F sc_is_shaped  3 none [4] [] [] (fun _ h => nomatch h) (fun _ _ => rfl) (by decide) (by decide) (fun _ _ => rfl) (fun _ _ _ => (.cons rfl .nil)) (fun _ h => nomatch h) (fun _ _ => .nil) (by decide) (fun cdv A outer s H E C a u => ?_)
  obtain ⟨p0, p1, _⟩ := a
  show FS _ _ _ _ [some (sv fInt p0), some (sv (fTree K fTxt) p1), none, none, none] _ (is_shaped_b p0 p1) _ _ _
  unfold is_shaped_b
  exact (fs_set 2 (T := ob (tL K (fTup K (tvc fTxt (tv1 fTxt))))) C.nd (fv_callC C (ok_tree_entries KX GN c) (by decide) (ak_v ak_nil) rs_o (va_cons (fe_var 1 (hs := gives_v)) fa_nil)) tk_o fun v1 => (fs_seq (N1 := (fun (s10 : Unit) => [some (sv fInt p0), some (sv (fTree K fTxt) p1), some (ob (tL K (fTup K (tvc fTxt (tv1 fTxt)))) v1), none, none])) (ps_forR2 (Gs := (fun (s2 : Unit) => [some (sv fInt p0), some (sv (fTree K fTxt) p1), some (ob (tL K (fTup K (tvc fTxt (tv1 fTxt)))) v1), none, none])) (tl' := [3]) (x0 := ()) C (He.free_ok KX GN (c.fact 1 (f := .free "range") rfl)) fe_int (fv_callB call_len cl_lenL (He.free_ok KX GN (c.fact 0 (f := .free "len") rfl)) (va_cons (fe_var 2 (hs := gives_o)) fa_nil)) (.of rfl (Le.imp (.keep (.keep (.keep (.keep (.keep .nil))))))) (fg_name 3 C.nd) (fun s2 a3 => (fs_ifend (ft_cmp op_ge_str (fun _ _ => (ol_strcmp (f := fun i j => !decide (i < j)))) (fe_ixr ix_tup (fun _ => ol_ixT part0) (fv_ix ix_list ol_ixL (fe_var 2 (hs := gives_o)) (fv_bin op_sub ol_I0 (fe_var 3 (hs := gives_v)) fe_int)) fe_int) (fe_ixr ix_tup (fun _ => ol_ixT part0) (fv_ix ix_list ol_ixL (fe_var 2 (hs := gives_o)) (fe_var 3 (hs := gives_v))) fe_int)) (fv_ret 4 (T := (sv fBool)) (mk := fun r8 => r8) fe_bool tk_v (fun _ _ => (.of rfl (Le.imp (.drop (.drop (.drop (.drop (.keep .nil))))))))) (fs_nil (.of rfl (Le.imp (.keep (.keep (.keep (.drop (.keep .nil))))))))))) fun s10 => (fs_ret 4 (T := (sv fBool)) (mk := fun r11 => r11) (fv_callC C (ok_heaped KX GN c) (by decide) (ak_v (ak_v ak_nil)) rs_v (va_cons (fe_var 0 (hs := gives_v)) (va_cons (fe_var 1 (hs := gives_v)) fa_nil))) tk_v (fun _ _ => (.of rfl (Le.imp (.drop (.drop (.drop (.keep (.keep .nil)))))))))))
abbrev st_tree_from_image : Stmt := top 32
theorem sc_tree_from_image : FnScope ["seed", "image", "semicolon", "count", "tree"] ["seed", "image"] (defScope st_tree_from_image) := ⟨rfl, rfl, rfl, by decide +kernel, rfl, by decide +kernel, by decide +kernel⟩
theorem ok_tree_from_image (KX : K.In h) (GN : h.Ns mainGlobals mg) (c : Sy fa fn fx K) : Cal P w K mg base "tree_from_image" ["seed", "image"] 209 (spP K (fun (a : Int × (List Nat) × Unit) => [(sv fInt a.1), (sv fTxt a.2.1)]) (fun a => tree_from_image_m a.1 a.2.1) (sv (fTree K fTxt))) := by
  obtain ⟨fd, F⟩ := c.def_ 14 (d := mkD "tree_from_image" 32) rfl
  refine ⟨_, fd, (He.glo_ok KX GN (c.fact 27 (f := .glo "tree_from_image") rfl)), F.kp, F.bindsN (fun _ _ _ _ _ _ us hl => match us, hl with | [_, _], _ => rfl), ?_⟩
  refine fn_def (bm := fun (a : Int × (List Nat) × Unit) => tree_from_image_b a.1 a.2.1) (par := (fun (a : Int × (List Nat) × Unit) (_ : Nat → V) => [(sv fInt a.1), (sv fTxt a.2.1)])) (res := (sv (fTree K fTxt))) (outs := (fun _ _ => [])) (Eh := (fun _ => eh0 6)) (cls := (fun e => e)) (outsE := (fun _ _ => [])) (R := (fun u r v => [none, none, none, none, none, some (pn v (sv (fTree K fTxt) r))])) (Nx := (fun u (s : Unit) => [none, none, none, none, none, none])) F sc_tree_from_image  4 none [5] [] [] (fun _ h => nomatch h) (fun _ _ => rfl) (by decide) (by decide) (fun _ _ => rfl) (fun _ _ _ => (.cons rfl .nil)) (fun _ h => nomatch h) (fun _ _ => .nil) (by decide) (fun cdv A outer s H E C a u => ?_)
  obtain ⟨p0, p1, _⟩ := a
  show FS _ _ _ _ [some (sv fInt p0), some (sv fTxt p1), none, none, none, none] _ (tree_from_image_b p0 p1) _ _ _
  unfold tree_from_image_b
  exact (fs_set 2 (T := sv fInt) C.nd (fv_bm PySem.F.plainAttrs_str PySem.F.slot_str_find PySem.F.type_str_find mt_find ty_str ml_int1 (fe_var 1 (hs := gives_v)) (va_cons fe_str fa_nil)) tk_v fun v1 => (fv_if1 (tv_cmp op_lt ol_B0 (fe_var 2 (hs := gives_v)) fe_int) (fun _ => (fs_raise C (er := .badForm) (pe := Er.badForm) rfl (He.exc_ok (c.fact 9 (f := .exc "BadForm") rfl)) (He.glo_ok KX GN (c.fact 10 (f := .glo "BadForm") rfl)) rfl (Le.imp (Le.none rfl)))) (fs_set 3 (T := sv fInt) C.nd (fv_callC C (ok_number_of KX GN c) (by decide) (ak_v ak_nil) rs_v (va_cons (fv_slice sl_str sp_str (fe_var 1 (hs := gives_v)) fo_none (vo_some (fe_var 2 (hs := gives_v)))) fa_nil)) tk_v fun v2 => (fv_if1 (tv_cmp op_gt ol_B0 (fe_var 3 (hs := gives_v)) (fe_globI (by rfl) (He.int_ok KX GN (c.fact 26 (f := .int "MAX_ENTRIES" 200) rfl)))) (fun _ => (fs_raise C (er := .badForm) (pe := Er.badForm) rfl (He.exc_ok (c.fact 9 (f := .exc "BadForm") rfl)) (He.glo_ok KX GN (c.fact 10 (f := .glo "BadForm") rfl)) rfl (Le.imp (Le.none rfl)))) (fs_set 4 (T := sv (fTree K fTxt)) C.nd (fe_callC C (ok_tree_of_nodes KX GN c) (by decide) (ak_b ak_nil) rs_v (fa_cons (fe_borrow (fv_callC C (ok_read_nodes KX GN c) (by decide) (ak_v (ak_v (ak_v ak_nil))) rs_o (va_cons (fe_var 1 (hs := gives_v)) (va_cons (fv_bin op_add ol_I0 (fe_var 2 (hs := gives_v)) fe_int) (va_cons (fe_var 3 (hs := gives_v)) fa_nil))))) fa_nil)) tk_v fun v6 => (fs_if1 (ft_not (ft_val (fv_callC C (ok_is_shaped KX GN c) (by decide) (ak_v (ak_v ak_nil)) rs_v (va_cons (fe_var 0 (hs := gives_v)) (va_cons (fe_var 4 (hs := gives_v)) fa_nil))))) (fun _ => (fs_raise C (er := .badForm) (pe := Er.badForm) rfl (He.exc_ok (c.fact 9 (f := .exc "BadForm") rfl)) (He.glo_ok KX GN (c.fact 10 (f := .glo "BadForm") rfl)) rfl (Le.imp (Le.none rfl)))) (fv_ret 5 (T := (sv (fTree K fTxt))) (mk := fun r8 => r8) (fe_var 4 (hs := gives_v)) tk_v (fun _ _ => (.of rfl (Le.imp (.drop (.drop (.drop (.drop (.drop (.keep .nil))))))))))))))))
abbrev st_law_read : Stmt := top 54
theorem sc_law_read : FnScope ["_law_seed", "_law_text", "e"] ["_law_seed", "_law_text"] (defScope st_law_read) := ⟨rfl, rfl, rfl, by decide +kernel, rfl, by decide +kernel, by decide +kernel⟩
theorem ok_law_read (KX : K.In h) (GN : h.Ns mainGlobals mg) (c : Sy fa fn fx K) : Cal P w K mg base "_law_read" ["_law_seed", "_law_text"] 210 (spP K (fun (a : Int × (List Nat) × Unit) => [(sv fInt a.1), (sv fTxt a.2.1)]) (fun a => law_read_m a.1 a.2.1) (sv (fTup K (tvc (fTree K fTxt) (tv1 fTxt))))) := by
  obtain ⟨fd, F⟩ := c.def_ 15 (d := mkD "_law_read" 54) rfl
  refine ⟨_, fd, (He.glo_ok KX GN (c.fact 37 (f := .glo "_law_read") rfl)), F.kp, F.bindsN (fun _ _ _ _ _ _ us hl => match us, hl with | [_, _], _ => rfl), ?_⟩
  refine fn_def (bm := fun (a : Int × (List Nat) × Unit) => law_read_b a.1 a.2.1) (par := (fun (a : Int × (List Nat) × Unit) (_ : Nat → V) => [(sv fInt a.1), (sv fTxt a.2.1)])) (res := (sv (fTup K (tvc (fTree K fTxt) (tv1 fTxt))))) (outs := (fun _ _ => [])) (Eh := (fun _ => eh0 4)) (cls := (fun e => e)) (outsE := (fun _ _ => [])) (R := (fun u r v => [none, none, none, some (pn v (sv (fTup K (tvc (fTree K fTxt) (tv1 fTxt))) r))])) (Nx := (fun u (s : Unit) => [none, none, none, none])) F sc_law_read  2 none [3] [] [] (fun _ h => nomatch h) (fun _ _ => rfl) (by decide) (by decide) (fun _ _ => rfl) (fun _ _ _ => (.cons rfl .nil)) (fun _ h => nomatch h) (fun _ _ => .nil) (by decide) (fun cdv A outer s H E C a u => ?_)
  obtain ⟨p0, p1, _⟩ := a
  show FS _ _ _ _ [some (sv fInt p0), some (sv fTxt p1), none, none] _ (law_read_b p0 p1) _ _ _
  unfold law_read_b
  exact (fs_seq (N1 := (fun (s2 : Unit) => [some (sv fInt p0), some (sv fTxt p1), none, none])) (ps_try (E1 := (⟨fun e1 => e1, fun e1 => [some (sv fInt p0), some (sv fTxt p1), none, none]⟩ : EH (Er))) C (hw_as (i := 2) (tab := [(.notAllowed, false), (.badForm, true), (.full, false), (.missing, false)]) (m := fun (e1 : Er) => ((exI [(.notAllowed, false), (.badForm, false), (.full, true), (.missing, true)] e1).bind fun b17 => if b17 = true then M.ok true else (exI [(.notAllowed, true), (.badForm, false), (.full, false), (.missing, false)] e1).bind fun b16 => if b16 = true then M.ok true else (exI [(.notAllowed, true), (.badForm, true), (.full, true), (.missing, true)] e1).bind fun b15 => M.ok (!b15)).bind fun b20 => if b20 = true then M.ok (.ret (Tr.nil, ([111, 116, 104, 101, 114] : List Nat))) else M.ok (.ret (Tr.nil, ([114, 101, 102, 117, 115, 101, 100] : List Nat)))) (p := fun (e1 : Er) => e1) C rfl rfl (by rfl) (by rfl) (nm_cls (He.glo_ok KX GN (c.fact 10 (f := .glo "BadForm") rfl))) (lk_cons (e0 := .notAllowed) (b0 := false) (He.exm_ok (c.fact 36 (f := .exm "NotAllowed" "BadForm" false) rfl)) (lk_cons (e0 := .badForm) (b0 := true) (He.exm_ok (c.fact 35 (f := .exm "BadForm" "BadForm" true) rfl)) (lk_cons (e0 := .full) (b0 := false) (He.exm_ok (c.fact 34 (f := .exm "Full" "BadForm" false) rfl)) (lk_cons (e0 := .missing) (b0 := false) (He.exm_ok (c.fact 33 (f := .exm "Missing" "BadForm" false) rfl)) lk_nil)))) (by decide) (fun _ => Nat.le_of_ble_eq_true (by rfl)) (fun _ => noS rfl) (fun _ => noS rfl) (fun _ => rfl) (fun _ => Le.imp (Le.none rfl)) (fun e1 a9 oe13 pn14 he12 hz10 hv11 => (fs_if1 (fw_t (fw_or (ft_val (fv_callB (call_isEL ((lk_cons (P := fun e _ => ExcC K (He.ga K e.name)) (e0 := .notAllowed) (b0 := false) (xExc_ok (c.ex 3 (f := xExc "NotAllowed") rfl)) (lk_cons (P := fun e _ => ExcC K (He.ga K e.name)) (e0 := .badForm) (b0 := true) (xExc_ok (c.ex 2 (f := xExc "BadForm") rfl)) (lk_cons (P := fun e _ => ExcC K (He.ga K e.name)) (e0 := .full) (b0 := false) (xExc_ok (c.ex 1 (f := xExc "Full") rfl)) (lk_cons (P := fun e _ => ExcC K (He.ga K e.name)) (e0 := .missing) (b0 := false) (xExc_ok (c.ex 0 (f := xExc "Missing") rfl)) (lk_nil (P := fun e _ => ExcC K (He.ga K e.name))))))) e1 true he12) hz10.zc hv11) (cl_isEL (e := e1) (ys := ["Full", "Missing"]) (tab := [(.notAllowed, false), (.badForm, false), (.full, true), (.missing, true)]) (lk_cons (e0 := .notAllowed) (b0 := false) (xKitL_ok (c.ex 7 (f := xKitL "NotAllowed" ["Full", "Missing"] false) rfl)) (lk_cons (e0 := .badForm) (b0 := false) (xKitL_ok (c.ex 6 (f := xKitL "BadForm" ["Full", "Missing"] false) rfl)) (lk_cons (e0 := .full) (b0 := true) (xKitL_ok (c.ex 5 (f := xKitL "Full" ["Full", "Missing"] true) rfl)) (lk_cons (e0 := .missing) (b0 := true) (xKitL_ok (c.ex 4 (f := xKitL "Missing" ["Full", "Missing"] true) rfl)) lk_nil)))) hT2) (He.free_ok KX GN (c.fact 30 (f := .free "isinstance") rfl)) (va_cons (fe_var 2 (hs := gives_v)) (va_cons (fv_tup (va_cons (fe_cls (He.glo_ok KX GN (c.fact 28 (f := .glo "Full") rfl))) (va_cons (fe_cls (He.glo_ok KX GN (c.fact 29 (f := .glo "Missing") rfl))) fa_nil)) (to_c to_1) (szl (szc (szc sz0)))) fa_nil)))) (fw_or (ft_val (fv_callB (call_isE ((lk_cons (P := fun e _ => ExcC K (He.ga K e.name)) (e0 := .notAllowed) (b0 := false) (xExc_ok (c.ex 3 (f := xExc "NotAllowed") rfl)) (lk_cons (P := fun e _ => ExcC K (He.ga K e.name)) (e0 := .badForm) (b0 := true) (xExc_ok (c.ex 2 (f := xExc "BadForm") rfl)) (lk_cons (P := fun e _ => ExcC K (He.ga K e.name)) (e0 := .full) (b0 := false) (xExc_ok (c.ex 1 (f := xExc "Full") rfl)) (lk_cons (P := fun e _ => ExcC K (He.ga K e.name)) (e0 := .missing) (b0 := false) (xExc_ok (c.ex 0 (f := xExc "Missing") rfl)) (lk_nil (P := fun e _ => ExcC K (He.ga K e.name))))))) e1 true he12) hz10.zc hv11) (cl_isE1 (e := e1) (tab := [(.notAllowed, true), (.badForm, false), (.full, false), (.missing, false)]) (lk_cons (e0 := .notAllowed) (b0 := true) (xKit_ok (c.ex 11 (f := xKit "NotAllowed" "NotAllowed" true) rfl)) (lk_cons (e0 := .badForm) (b0 := false) (xKit_ok (c.ex 10 (f := xKit "BadForm" "NotAllowed" false) rfl)) (lk_cons (e0 := .full) (b0 := false) (xKit_ok (c.ex 9 (f := xKit "Full" "NotAllowed" false) rfl)) (lk_cons (e0 := .missing) (b0 := false) (xKit_ok (c.ex 8 (f := xKit "Missing" "NotAllowed" false) rfl)) lk_nil))))) (He.free_ok KX GN (c.fact 30 (f := .free "isinstance") rfl)) (va_cons (fe_var 2 (hs := gives_v)) (va_cons (fe_cls (He.glo_ok KX GN (c.fact 31 (f := .glo "NotAllowed") rfl))) fa_nil)))) (fw_or1 (ft_not (ft_val (fv_callB (call_isE ((lk_cons (P := fun e _ => ExcC K (He.ga K e.name)) (e0 := .notAllowed) (b0 := false) (xExc_ok (c.ex 3 (f := xExc "NotAllowed") rfl)) (lk_cons (P := fun e _ => ExcC K (He.ga K e.name)) (e0 := .badForm) (b0 := true) (xExc_ok (c.ex 2 (f := xExc "BadForm") rfl)) (lk_cons (P := fun e _ => ExcC K (He.ga K e.name)) (e0 := .full) (b0 := false) (xExc_ok (c.ex 1 (f := xExc "Full") rfl)) (lk_cons (P := fun e _ => ExcC K (He.ga K e.name)) (e0 := .missing) (b0 := false) (xExc_ok (c.ex 0 (f := xExc "Missing") rfl)) (lk_nil (P := fun e _ => ExcC K (He.ga K e.name))))))) e1 true he12) hz10.zc hv11) (cl_isE1 (e := e1) (tab := [(.notAllowed, true), (.badForm, true), (.full, true), (.missing, true)]) (lk_cons (e0 := .notAllowed) (b0 := true) (xKit_ok (c.ex 15 (f := xKit "NotAllowed" "LetheError" true) rfl)) (lk_cons (e0 := .badForm) (b0 := true) (xKit_ok (c.ex 14 (f := xKit "BadForm" "LetheError" true) rfl)) (lk_cons (e0 := .full) (b0 := true) (xKit_ok (c.ex 13 (f := xKit "Full" "LetheError" true) rfl)) (lk_cons (e0 := .missing) (b0 := true) (xKit_ok (c.ex 12 (f := xKit "Missing" "LetheError" true) rfl)) lk_nil))))) (He.free_ok KX GN (c.fact 30 (f := .free "isinstance") rfl)) (va_cons (fe_var 2 (hs := gives_v)) (va_cons (fe_cls (He.glo_ok KX GN (c.fact 32 (f := .glo "LetheError") rfl))) fa_nil))))))))) (fun _ => (fv_ret 3 (T := (sv (fTup K (tvc (fTree K fTxt) (tv1 fTxt))))) (mk := fun r18 => r18) (fv_tup (va_cons (fv_trE fe_none) (va_cons fe_str fa_nil)) (to_c to_1) (szl (szc (szc sz0)))) tk_v (fun _ _ => (.of rfl (Le.imp (.drop (.drop (.drop (.keep .nil))))))))) (fv_ret 3 (T := (sv (fTup K (tvc (fTree K fTxt) (tv1 fTxt))))) (mk := fun r19 => r19) (fv_tup (va_cons (fv_trE fe_none) (va_cons fe_str fa_nil)) (to_c to_1) (szl (szc (szc sz0)))) tk_v (fun _ _ => (.of rfl (Le.imp (.drop (.drop (.drop (.keep .nil))))))))))) (fun W' pnv xev C => (fs_ret 3 (T := (sv (fTup K (tvc (fTree K fTxt) (tv1 fTxt))))) (mk := fun r8 => r8) (p := (fun e => e)) (hp := ⟨fun _ => rfl, fun _ => (.of rfl (Le.imp (.keep (.keep (.keep (.keep .nil))))))⟩) (fe_tup (fa_cons (fv_callC C (ok_tree_from_image KX GN c) (by decide) (ak_v (ak_v ak_nil)) rs_v (va_cons (fe_var 0 (hs := gives_v)) (va_cons (fe_var 1 (hs := gives_v)) fa_nil))) (fa_cons fe_str fa_nil)) (to_c to_1) (szl (szc (szc sz0)))) tk_v (fun _ _ => (.of rfl (Le.imp (.drop (.drop (.keep (.keep .nil)))))))))) fun s2 => (fs_nil (.of rfl (Le.imp (.drop (.drop (.keep (.keep .nil))))))))
abbrev st_law_numbers : Stmt := top 38
theorem sc_law_numbers : FnScope ["_law_cell_here", "_law_k", "_law_many", "_law_numbers_here", "_law_rest", "_law_j", "_law_mixed", "_law_twice"] ["_law_cell_here", "_law_k", "_law_many"] (defScope st_law_numbers) := ⟨rfl, rfl, rfl, by decide +kernel, rfl, by decide +kernel, by decide +kernel⟩
theorem ok_law_numbers (KX : K.In h) (GN : h.Ns mainGlobals mg) (c : Sy fa fn fx K) : Cal P w K mg base "_law_numbers" ["_law_cell_here", "_law_k", "_law_many"] 1 (spP K (fun (a : Int × Int × Int × Unit) => [(sv fInt a.1), (sv fInt a.2.1), (sv fInt a.2.2.1)]) (fun a => law_numbers_m a.1 a.2.1 a.2.2.1) (ob (tL K fInt))) := by
  obtain ⟨fd, F⟩ := c.def_ 16 (d := mkD "_law_numbers" 38) rfl
  refine ⟨_, fd, (He.glo_ok KX GN (c.fact 38 (f := .glo "_law_numbers") rfl)), F.kp, F.bindsN (fun _ _ _ _ _ _ us hl => match us, hl with | [_, _, _], _ => rfl), ?_⟩
  refine fn_def (bm := fun (a : Int × Int × Int × Unit) => law_numbers_b a.1 a.2.1 a.2.2.1) (par := (fun (a : Int × Int × Int × Unit) (_ : Nat → V) => [(sv fInt a.1), (sv fInt a.2.1), (sv fInt a.2.2.1)])) (res := (ob (tL K fInt))) (outs := (fun _ _ => [])) (Eh := (fun _ => eh0 9)) (cls := (fun e => e)) (outsE := (fun _ _ => [])) (R := (fun u r v => [none, none, none, none, none, none, none, none, some (pn v (ob (tL K fInt) r))])) (Nx := (fun u (s : Unit) => [none, none, none, none, none, none, none, none, none])) F sc_law_numbers  6 none [8] [] [] (fun _ h => nomatch h) (fun _ _ => rfl) (by decide) (by decide) (fun _ _ => rfl) (fun _ _ _ => (.cons rfl .nil)) (fun _ h => nomatch h) (fun _ _ => .nil) (by decide) (fun cdv A outer s H E C a u => ?_)
  obtain ⟨p0, p1, p2, _⟩ := a
  show FS _ _ _ _ [some (sv fInt p0), some (sv fInt p1), some (sv fInt p2), none, none, none, none, none, none] _ (law_numbers_b p0 p1 p2) _ _ _
  unfold law_numbers_b
  exact (fs_set 3 (T := ob (tL K fInt)) C.nd fe_nil tk_o fun v1 => (fv_if1 (tv_cmp op_ge ol_B0 (fe_var 0 (hs := gives_v)) (fv_bin op_pow (ol_Ic ⟨by decide, by decide, by decide⟩) fe_int fe_int)) (fun _ => (fs_set 4 (T := sv fInt) C.nd (fe_var 0 (hs := gives_v)) tk_v fun v2 => (fs_pin 3 rfl fun V3 => (fs_seq (N1 := (fun (s8 : Int × (List (Int))) => [some (sv fInt p0), some (sv fInt p1), some (sv fInt p2), some (pn V3 (ob (tL K fInt) s8.2)), some (sv fInt s8.1), none, none, none, none])) (pv_forR (Gs := (fun (s4 : Int × (List (Int))) => [some (sv fInt p0), some (sv fInt p1), some (sv fInt p2), some (pn V3 (ob (tL K fInt) s4.2)), some (sv fInt s4.1), none, none, none, none])) (tl' := [5, 4, 3]) (x0 := (v2, v1)) C (He.free_ok KX GN (c.fact 1 (f := .free "range") rfl)) (fe_var 2 (hs := gives_v)) (.of rfl (Le.imp (.keep (.keep (.keep (.keep (.keep (.keep (.keep (.keep (.keep .nil))))))))))) (fg_name 5 C.nd) (fun s4 a5 => (fs_app 3 (A := fInt) (as := s4.2) rfl (fe_var 3 (hs := gives_V)) (fv_bin op_mod (ol_Ic (by decide)) (fv_callTy call_int1 cl_int (He.free_ok KX GN (c.fact 3 (f := .free "int") rfl)) (va_cons (fe_var 4 (hs := gives_v)) fa_nil)) fe_int) fun v6 => (fs_set 4 (T := sv fInt) C.nd (fv_bin op_fdiv (ol_Ic ⟨by decide, by decide⟩) (fe_var 4 (hs := gives_v)) fe_int) tk_v fun v7 => (fs_nil (.of rfl (Le.imp (.keep (.keep (.keep (.keep (.keep (.drop (.keep (.keep (.keep .nil)))))))))))))))) fun s8 => (fs_retM 3 8 (fe_var 3 (hs := gives_V)) rfl (.of rfl (Le.imp (.drop (.drop (.drop (.keep (.drop (.keep (.keep (.keep (.keep .nil)))))))))))))))) (fs_set 6 (T := sv fInt) C.nd (fv_bin op_mod (ol_Ic (by decide)) (fv_callTy call_int1 cl_int (He.free_ok KX GN (c.fact 3 (f := .free "int") rfl)) (va_cons (fv_bin op_add ol_I0 (fv_bin op_add ol_I0 (fv_bin op_mul (ol_Ic (cmul_r (by decide))) (fe_var 0 (hs := gives_v)) fe_int) (fv_bin op_mul (ol_Ic (cmul_r (by decide))) (fe_var 1 (hs := gives_v)) fe_int)) fe_int) fa_nil)) fe_int) tk_v fun v9 => (fs_pin 3 rfl fun V10 => (fs_seq (N1 := (fun (s24 : Int × (List (Int))) => [some (sv fInt p0), some (sv fInt p1), some (sv fInt p2), some (pn V10 (ob (tL K fInt) s24.2)), none, none, some (sv fInt s24.1), none, none])) (pv_forR (Gs := (fun (s11 : Int × (List (Int))) => [some (sv fInt p0), some (sv fInt p1), some (sv fInt p2), some (pn V10 (ob (tL K fInt) s11.2)), none, none, some (sv fInt s11.1), none, none])) (tl' := [5, 6, 7, 3]) (x0 := (v9, v1)) C (He.free_ok KX GN (c.fact 1 (f := .free "range") rfl)) (fe_var 2 (hs := gives_v)) (.of rfl (Le.imp (.keep (.keep (.keep (.keep (.keep (.keep (.keep (.keep (.keep .nil))))))))))) (fg_name 5 C.nd) (fun s11 a12 => (fs_set 6 (T := sv fInt) C.nd (fv_bin op_mod (ol_Ic (by decide)) (fv_callTy call_int1 cl_int (He.free_ok KX GN (c.fact 3 (f := .free "int") rfl)) (va_cons (fv_bin op_add ol_I0 (fv_bin op_add ol_I0 (fv_bin op_mul (ol_Ic (cmul_r (by decide))) (fe_var 6 (hs := gives_v)) fe_int) (fv_bin op_mul (ol_Ic (cmul_r (by decide))) (fe_var 5 (hs := gives_v)) fe_int)) fe_int) fa_nil)) fe_int) tk_v fun v13 => (fs_set 7 (T := sv fInt) C.nd (fe_binr op_mod (fun _ => (ol_Ic (by decide))) (fe_callTy call_int1 (fun _ => cl_int) (He.free_ok KX GN (c.fact 3 (f := .free "int") rfl)) (fa_cons (fe_bin op_add (fun _ _ => ol_I0) (fe_bin op_add (fun _ _ => ol_I0) (fv_bin op_mul ol_mulN (fe_var 6 (hs := gives_v)) (fe_var 6 (hs := gives_v))) (fv_bin op_mul (ol_Ic (cmul_r (by decide))) (fe_var 1 (hs := gives_v)) fe_int)) (fe_var 5 (hs := gives_v))) fa_nil)) fe_int) tk_v fun v22 => (fs_app 3 (A := fInt) (as := s11.2) rfl (fe_var 3 (hs := gives_V)) (fv_bin op_mod (ol_Ic (by decide)) (fv_callTy call_int1 cl_int (He.free_ok KX GN (c.fact 3 (f := .free "int") rfl)) (va_cons (fv_bin op_fdiv (ol_Ic ⟨by decide, by decide⟩) (fe_var 7 (hs := gives_v)) fe_int) fa_nil)) fe_int) fun v23 => (fs_nil (.of rfl (Le.imp (.keep (.keep (.keep (.keep (.keep (.drop (.keep (.drop (.keep .nil))))))))))))))))) fun s24 => (fs_retM 3 8 (fe_var 3 (hs := gives_V)) rfl (.of rfl (Le.imp (.drop (.drop (.drop (.keep (.keep (.keep (.drop (.keep (.keep .nil)))))))))))))))))
abbrev st_law_value : Stmt := top 44
theorem sc_law_value : FnScope ["_law_number_here"] ["_law_number_here"] (defScope st_law_value) := ⟨rfl, rfl, rfl, by decide +kernel, rfl, by decide +kernel, by decide +kernel⟩
theorem ok_law_value (KX : K.In h) (GN : h.Ns mainGlobals mg) (c : Sy fa fn fx K) : Cal P w K mg base "_law_value" ["_law_number_here"] 1 (spP K (fun (a : Int × Unit) => [(sv fInt a.1)]) (fun a => law_value_m a.1) (sv fTxt)) := by
  obtain ⟨fd, F⟩ := c.def_ 17 (d := mkD "_law_value" 44) rfl
  refine ⟨_, fd, (He.glo_ok KX GN (c.fact 40 (f := .glo "_law_value") rfl)), F.kp, F.bindsN (fun _ _ _ _ _ _ us hl => match us, hl with | [_], _ => rfl), ?_⟩
  refine fn_def (bm := fun (a : Int × Unit) => law_value_b a.1) (par := (fun (a : Int × Unit) (_ : Nat → V) => [(sv fInt a.1)])) (res := (sv fTxt)) (outs := (fun _ _ => [])) (Eh := (fun _ => eh0 2)) (cls := (fun e => e)) (outsE := (fun _ _ => [])) (R := (fun u r v => [none, some (pn v (sv fTxt r))])) (Nx := (fun u (s : Unit) => [none, none])) F sc_law_value  1 none [1] [] [] (fun _ h => nomatch h) (fun _ _ => rfl) (by decide) (by decide) (fun _ _ => rfl) (fun _ _ _ => (.cons rfl .nil)) (fun _ h => nomatch h) (fun _ _ => .nil) (by decide) (fun cdv A outer s H E C a u => ?_)
  obtain ⟨p0, _⟩ := a
  show FS _ _ _ _ [some (sv fInt p0), none] _ (law_value_b p0) _ _ _
  unfold law_value_b
  exact (fv_if1 (tv_cmp op_eq ol_eqI (fv_bin op_mod (ol_Ic (by decide)) (fv_callTy call_int1 cl_int (He.free_ok KX GN (c.fact 3 (f := .free "int") rfl)) (va_cons (fe_var 0 (hs := gives_v)) fa_nil)) fe_int) fe_int) (fun _ => (fs_ret 1 (T := (sv fTxt)) (mk := fun r1 => r1) (fv_bin op_mulSt ol_mulSt fe_str fe_int) tk_v (fun _ _ => (.of rfl (Le.imp (.drop (.keep .nil))))))) (fs_ret 1 (T := (sv fTxt)) (mk := fun r6 => r6) (fe_bin op_add_str (fun _ _ => ol_cat) (fv_slice sl_str sp_str fe_str fo_none (vo_some (fv_bin op_mod (ol_Ic (by decide)) (fv_callTy call_int1 cl_int (He.free_ok KX GN (c.fact 3 (f := .free "int") rfl)) (va_cons (fe_var 0 (hs := gives_v)) fa_nil)) fe_int))) (fe_bin op_mulSt (fun _ _ => ol_mulSt) (fv_callTy call_str_int cl_str (He.free_ok KX GN (c.fact 39 (f := .free "str") rfl)) (va_cons (fv_bin op_mod (ol_Ic (by decide)) (fv_bin op_fdiv (ol_Ic ⟨by decide, by decide⟩) (fe_var 0 (hs := gives_v)) fe_int) fe_int) fa_nil)) (fv_bin op_mod (ol_Ic (by decide)) (fv_bin op_fdiv (ol_Ic ⟨by decide, by decide⟩) (fe_var 0 (hs := gives_v)) fe_int) fe_int))) tk_v (fun _ _ => (.of rfl (Le.imp (.drop (.keep .nil)))))))
abbrev st_split_tree : Stmt := top 22
theorem sc_split_tree : FnScope ["tree", "key", "lower", "upper"] ["tree", "key"] (defScope st_split_tree) := ⟨rfl, rfl, rfl, by decide +kernel, rfl, by decide +kernel, by decide +kernel⟩
theorem ok0_split_tree (KX : K.In h) (GN : h.Ns mainGlobals mg) (c : Sy fa fn fx K) : Cal P w K mg base "split_tree" ["tree", "key"] (2) (spP K (fun (a : (Tr (List Nat)) × (List Nat) × Unit) => [(sv (fTree K fTxt) a.1), (sv fTxt a.2.1)]) (fun a => (rg_split_tree_f 0).1 a.1 a.2.1) (sv (fTup K (tvc (fTree K fTxt) (tv1 (fTree K fTxt)))))) := by
  obtain ⟨fd, F⟩ := c.def_ 18 (d := mkD "split_tree" 22) rfl
  refine ⟨_, fd, (He.glo_ok KX GN (c.fact 41 (f := .glo "split_tree") rfl)), F.kp, F.bindsN (fun _ _ _ _ _ _ us hl => match us, hl with | [_, _], _ => rfl), ?_⟩
  refine fn_def (bm := fun (_ : (Tr (List Nat)) × (List Nat) × Unit) => none) (par := (fun (a : (Tr (List Nat)) × (List Nat) × Unit) (_ : Nat → V) => [(sv (fTree K fTxt) a.1), (sv fTxt a.2.1)])) (res := (sv (fTup K (tvc (fTree K fTxt) (tv1 (fTree K fTxt)))))) (outs := (fun _ _ => [])) (Eh := (fun _ => eh0 5)) (cls := (fun e => e)) (outsE := (fun _ _ => [])) (R := (fun u r v => [none, none, none, none, some (pn v (sv (fTup K (tvc (fTree K fTxt) (tv1 (fTree K fTxt)))) r))])) (Nx := (fun u (s : Unit) => [none, none, none, none, none])) F sc_split_tree (k := 1) 3 none [4] [] [] (fun _ h => nomatch h) (fun _ _ => rfl) (by decide) (by decide) (fun _ _ => rfl) (fun _ _ _ => (.cons rfl .nil)) (fun _ h => nomatch h) (fun _ _ => .nil) (by decide) (fun cdv A outer s H E C a u => ?_)
  exact PSs.weak pss_never fun D σ H ⟨B, F, T⟩ => T.ne rfl
theorem oks_split_tree (KX : K.In h) (GN : h.Ns mainGlobals mg) (c : Sy fa fn fx K) (n : Nat) (ih_split_tree : Cal P w K mg base "split_tree" ["tree", "key"] (2 + n) (spP K (fun (a : (Tr (List Nat)) × (List Nat) × Unit) => [(sv (fTree K fTxt) a.1), (sv fTxt a.2.1)]) (fun a => (rg_split_tree_f n).1 a.1 a.2.1) (sv (fTup K (tvc (fTree K fTxt) (tv1 (fTree K fTxt))))))) (ih_put_entry : Cal P w K mg base "put_entry" ["seed", "tree", "key", "value"] (2 + n) (spP K (fun (a : Int × (Tr (List Nat)) × (List Nat) × (List Nat) × Unit) => [(sv fInt a.1), (sv (fTree K fTxt) a.2.1), (sv fTxt a.2.2.1), (sv fTxt a.2.2.2.1)]) (fun a => (rg_split_tree_f n).2 a.1 a.2.1 a.2.2.1 a.2.2.2.1) (sv (fTree K fTxt)))) : Cal P w K mg base "split_tree" ["tree", "key"] (2 + (n + 1)) (spP K (fun (a : (Tr (List Nat)) × (List Nat) × Unit) => [(sv (fTree K fTxt) a.1), (sv fTxt a.2.1)]) (fun a => (rg_split_tree_f (n + 1)).1 a.1 a.2.1) (sv (fTup K (tvc (fTree K fTxt) (tv1 (fTree K fTxt)))))) := by
  obtain ⟨fd, F⟩ := c.def_ 18 (d := mkD "split_tree" 22) rfl
  refine ⟨_, fd, (He.glo_ok KX GN (c.fact 41 (f := .glo "split_tree") rfl)), F.kp, F.bindsN (fun _ _ _ _ _ _ us hl => match us, hl with | [_, _], _ => rfl), ?_⟩
  refine fn_def (bm := fun (a : (Tr (List Nat)) × (List Nat) × Unit) => split_tree_b (rg_split_tree_f n).1 (rg_split_tree_f n).2 a.1 a.2.1) (par := (fun (a : (Tr (List Nat)) × (List Nat) × Unit) (_ : Nat → V) => [(sv (fTree K fTxt) a.1), (sv fTxt a.2.1)])) (res := (sv (fTup K (tvc (fTree K fTxt) (tv1 (fTree K fTxt)))))) (outs := (fun _ _ => [])) (Eh := (fun _ => eh0 5)) (cls := (fun e => e)) (outsE := (fun _ _ => [])) (R := (fun u r v => [none, none, none, none, some (pn v (sv (fTup K (tvc (fTree K fTxt) (tv1 (fTree K fTxt)))) r))])) (Nx := (fun u (s : Unit) => [none, none, none, none, none])) F sc_split_tree (k := 2 + n) 3 none [4] [] [] (fun _ h => nomatch h) (fun _ _ => rfl) (by decide) (by decide) (fun _ _ => rfl) (fun _ _ _ => (.cons rfl .nil)) (fun _ h => nomatch h) (fun _ _ => .nil) (by decide) (fun cdv A outer s H E C a u => ?_)
  obtain ⟨p0, p1, _⟩ := a
  show FS _ _ _ _ [some (sv (fTree K fTxt) p0), some (sv fTxt p1), none, none, none] _ (split_tree_b (rg_split_tree_f n).1 (rg_split_tree_f n).2 p0 p1) _ _ _
  unfold split_tree_b
  exact (fv_if1 (tv_cmp op_isN ol_isTr (fe_var 0 (hs := gives_v)) fe_none) (fun _ => (fv_ret 4 (T := (sv (fTup K (tvc (fTree K fTxt) (tv1 (fTree K fTxt)))))) (mk := fun r1 => r1) (fv_tup (va_cons (fv_trE fe_none) (va_cons (fv_trE fe_none) fa_nil)) (to_c to_1) (szl (szc (szc sz0)))) tk_v (fun _ _ => (.of rfl (Le.imp (.drop (.drop (.keep (.keep (.keep .nil)))))))))) (fs_if1 (ft_cmp op_lt_str (fun _ _ => (ol_strcmp (f := fun i j => decide (i < j)))) (fv_ix ix_tup ol_trK (fe_var 0 (hs := gives_v)) fe_int) (fe_var 1 (hs := gives_v))) (fun _ => (fs_unp (fe_callC C ih_split_tree (by omega) (ak_v (ak_v ak_nil)) rs_v (fa_cons (fv_ix ix_tup ol_trR (fe_var 0 (hs := gives_v)) fe_int) (fa_cons (fe_var 1 (hs := gives_v)) fa_nil))) (fg_tup C.calm (fgs_c (fg_name 2 C.nd) (fgs_1 (fg_name 3 C.nd))) (tnc tn1)) fun v9 => (fs_ret 4 (T := (sv (fTup K (tvc (fTree K fTxt) (tv1 (fTree K fTxt)))))) (mk := fun r25 => r25) (fe_tup (fa_cons (fe_trN (fe_tup (fa_cons (fv_ix ix_tup ol_trK (fe_var 0 (hs := gives_v)) fe_int) (fa_cons (fv_ix ix_tup ol_trA (fe_var 0 (hs := gives_v)) fe_int) (fa_cons (fv_ix ix_tup ol_trL (fe_var 0 (hs := gives_v)) fe_int) (fa_cons (fe_var 2 (hs := gives_v)) fa_nil)))) (to_c (to_c (to_c to_1))) (szl (szc (szc (szc (szc sz0))))))) (fa_cons (fe_var 3 (hs := gives_v)) fa_nil)) (to_c to_1) (szl (szc (szc sz0)))) tk_v (fun _ _ => (.of rfl (Le.imp (.drop (.drop (.drop (.drop (.keep .nil))))))))))) (fs_unp (fe_callC C ih_split_tree (by omega) (ak_v (ak_v ak_nil)) rs_v (fa_cons (fv_ix ix_tup ol_trL (fe_var 0 (hs := gives_v)) fe_int) (fa_cons (fe_var 1 (hs := gives_v)) fa_nil))) (fg_tup C.calm (fgs_c (fg_name 2 C.nd) (fgs_1 (fg_name 3 C.nd))) (tnc tn1)) fun v31 => (fs_ret 4 (T := (sv (fTup K (tvc (fTree K fTxt) (tv1 (fTree K fTxt)))))) (mk := fun r47 => r47) (fe_tup (fa_cons (fe_var 2 (hs := gives_v)) (fa_cons (fe_trN (fe_tup (fa_cons (fv_ix ix_tup ol_trK (fe_var 0 (hs := gives_v)) fe_int) (fa_cons (fv_ix ix_tup ol_trA (fe_var 0 (hs := gives_v)) fe_int) (fa_cons (fe_var 3 (hs := gives_v)) (fa_cons (fv_ix ix_tup ol_trR (fe_var 0 (hs := gives_v)) fe_int) fa_nil)))) (to_c (to_c (to_c to_1))) (szl (szc (szc (szc (szc sz0))))))) fa_nil)) (to_c to_1) (szl (szc (szc sz0)))) tk_v (fun _ _ => (.of rfl (Le.imp (.drop (.drop (.drop (.drop (.keep .nil))))))))))))
abbrev st_put_entry : Stmt := top 23
theorem sc_put_entry : FnScope ["seed", "tree", "key", "value", "lower", "upper"] ["seed", "tree", "key", "value"] (defScope st_put_entry) := ⟨rfl, rfl, rfl, by decide +kernel, rfl, by decide +kernel, by decide +kernel⟩
theorem ok0_put_entry (KX : K.In h) (GN : h.Ns mainGlobals mg) (c : Sy fa fn fx K) : Cal P w K mg base "put_entry" ["seed", "tree", "key", "value"] (2) (spP K (fun (a : Int × (Tr (List Nat)) × (List Nat) × (List Nat) × Unit) => [(sv fInt a.1), (sv (fTree K fTxt) a.2.1), (sv fTxt a.2.2.1), (sv fTxt a.2.2.2.1)]) (fun a => (rg_split_tree_f 0).2 a.1 a.2.1 a.2.2.1 a.2.2.2.1) (sv (fTree K fTxt))) := by
  obtain ⟨fd, F⟩ := c.def_ 19 (d := mkD "put_entry" 23) rfl
  refine ⟨_, fd, (He.glo_ok KX GN (c.fact 42 (f := .glo "put_entry") rfl)), F.kp, F.bindsN (fun _ _ _ _ _ _ us hl => match us, hl with | [_, _, _, _], _ => rfl), ?_⟩
  refine fn_def (bm := fun (_ : Int × (Tr (List Nat)) × (List Nat) × (List Nat) × Unit) => none) (par := (fun (a : Int × (Tr (List Nat)) × (List Nat) × (List Nat) × Unit) (_ : Nat → V) => [(sv fInt a.1), (sv (fTree K fTxt) a.2.1), (sv fTxt a.2.2.1), (sv fTxt a.2.2.2.1)])) (res := (sv (fTree K fTxt))) (outs := (fun _ _ => [])) (Eh := (fun _ => eh0 7)) (cls := (fun e => e)) (outsE := (fun _ _ => [])) (R := (fun u r v => [none, none, none, none, none, none, some (pn v (sv (fTree K fTxt) r))])) (Nx := (fun u (s : Unit) => [none, none, none, none, none, none, none])) F sc_put_entry (k := 1) 3 none [6] [] [] (fun _ h => nomatch h) (fun _ _ => rfl) (by decide) (by decide) (fun _ _ => rfl) (fun _ _ _ => (.cons rfl .nil)) (fun _ h => nomatch h) (fun _ _ => .nil) (by decide) (fun cdv A outer s H E C a u => ?_)
  exact PSs.weak pss_never fun D σ H ⟨B, F, T⟩ => T.ne rfl
theorem oks_put_entry (KX : K.In h) (GN : h.Ns mainGlobals mg) (c : Sy fa fn fx K) (n : Nat) (ih_split_tree : Cal P w K mg base "split_tree" ["tree", "key"] (2 + n) (spP K (fun (a : (Tr (List Nat)) × (List Nat) × Unit) => [(sv (fTree K fTxt) a.1), (sv fTxt a.2.1)]) (fun a => (rg_split_tree_f n).1 a.1 a.2.1) (sv (fTup K (tvc (fTree K fTxt) (tv1 (fTree K fTxt))))))) (ih_put_entry : Cal P w K mg base "put_entry" ["seed", "tree", "key", "value"] (2 + n) (spP K (fun (a : Int × (Tr (List Nat)) × (List Nat) × (List Nat) × Unit) => [(sv fInt a.1), (sv (fTree K fTxt) a.2.1), (sv fTxt a.2.2.1), (sv fTxt a.2.2.2.1)]) (fun a => (rg_split_tree_f n).2 a.1 a.2.1 a.2.2.1 a.2.2.2.1) (sv (fTree K fTxt)))) : Cal P w K mg base "put_entry" ["seed", "tree", "key", "value"] (2 + (n + 1)) (spP K (fun (a : Int × (Tr (List Nat)) × (List Nat) × (List Nat) × Unit) => [(sv fInt a.1), (sv (fTree K fTxt) a.2.1), (sv fTxt a.2.2.1), (sv fTxt a.2.2.2.1)]) (fun a => (rg_split_tree_f (n + 1)).2 a.1 a.2.1 a.2.2.1 a.2.2.2.1) (sv (fTree K fTxt))) := by
  obtain ⟨fd, F⟩ := c.def_ 19 (d := mkD "put_entry" 23) rfl
  refine ⟨_, fd, (He.glo_ok KX GN (c.fact 42 (f := .glo "put_entry") rfl)), F.kp, F.bindsN (fun _ _ _ _ _ _ us hl => match us, hl with | [_, _, _, _], _ => rfl), ?_⟩
  refine fn_def (bm := fun (a : Int × (Tr (List Nat)) × (List Nat) × (List Nat) × Unit) => put_entry_b (rg_split_tree_f n).1 (rg_split_tree_f n).2 a.1 a.2.1 a.2.2.1 a.2.2.2.1) (par := (fun (a : Int × (Tr (List Nat)) × (List Nat) × (List Nat) × Unit) (_ : Nat → V) => [(sv fInt a.1), (sv (fTree K fTxt) a.2.1), (sv fTxt a.2.2.1), (sv fTxt a.2.2.2.1)])) (res := (sv (fTree K fTxt))) (outs := (fun _ _ => [])) (Eh := (fun _ => eh0 7)) (cls := (fun e => e)) (outsE := (fun _ _ => [])) (R := (fun u r v => [none, none, none, none, none, none, some (pn v (sv (fTree K fTxt) r))])) (Nx := (fun u (s : Unit) => [none, none, none, none, none, none, none])) F sc_put_entry (k := 2 + n) 3 none [6] [] [] (fun _ h => nomatch h) (fun _ _ => rfl) (by decide) (by decide) (fun _ _ => rfl) (fun _ _ _ => (.cons rfl .nil)) (fun _ h => nomatch h) (fun _ _ => .nil) (by decide) (fun cdv A outer s H E C a u => ?_)
  obtain ⟨p0, p1, p2, p3, _⟩ := a
  show FS _ _ _ _ [some (sv fInt p0), some (sv (fTree K fTxt) p1), some (sv fTxt p2), some (sv fTxt p3), none, none, none] _ (put_entry_b (rg_split_tree_f n).1 (rg_split_tree_f n).2 p0 p1 p2 p3) _ _ _
  unfold put_entry_b
  exact (fv_if1 (tv_cmp op_isN ol_isTr (fe_var 1 (hs := gives_v)) fe_none) (fun _ => (fv_ret 6 (T := (sv (fTree K fTxt))) (mk := fun r1 => r1) (fv_trN (fv_tup (va_cons (fe_var 2 (hs := gives_v)) (va_cons (fe_var 3 (hs := gives_v)) (va_cons (fv_trE fe_none) (va_cons (fv_trE fe_none) fa_nil)))) (to_c (to_c (to_c to_1))) (szl (szc (szc (szc (szc sz0))))))) tk_v (fun _ _ => (.of rfl (Le.imp (.drop (.drop (.drop (.drop (.keep (.keep (.keep .nil)))))))))))) (fs_if1 (ft_cmp op_eq (fun _ _ => ol_eqS) (fe_var 2 (hs := gives_v)) (fv_ix ix_tup ol_trK (fe_var 1 (hs := gives_v)) fe_int)) (fun _ => (fs_ret 6 (T := (sv (fTree K fTxt))) (mk := fun r14 => r14) (fe_trN (fe_tup (fa_cons (fe_var 2 (hs := gives_v)) (fa_cons (fe_var 3 (hs := gives_v)) (fa_cons (fv_ix ix_tup ol_trL (fe_var 1 (hs := gives_v)) fe_int) (fa_cons (fv_ix ix_tup ol_trR (fe_var 1 (hs := gives_v)) fe_int) fa_nil)))) (to_c (to_c (to_c to_1))) (szl (szc (szc (szc (szc sz0))))))) tk_v (fun _ _ => (.of rfl (Le.imp (.drop (.drop (.drop (.drop (.keep (.keep (.keep .nil)))))))))))) (fs_if1 (ft_val (fe_callC C (ok_above KX GN c) (by omega) (ak_v (ak_v (ak_v ak_nil))) rs_v (fa_cons (fe_var 0 (hs := gives_v)) (fa_cons (fe_var 2 (hs := gives_v)) (fa_cons (fv_ix ix_tup ol_trK (fe_var 1 (hs := gives_v)) fe_int) fa_nil))))) (fun _ => (fs_unp (fv_callC C ih_split_tree (by omega) (ak_v (ak_v ak_nil)) rs_v (va_cons (fe_var 1 (hs := gives_v)) (va_cons (fe_var 2 (hs := gives_v)) fa_nil))) (fg_tup C.calm (fgs_c (fg_name 4 C.nd) (fgs_1 (fg_name 5 C.nd))) (tnc tn1)) fun v22 => (fv_ret 6 (T := (sv (fTree K fTxt))) (mk := fun r23 => r23) (fv_trN (fv_tup (va_cons (fe_var 2 (hs := gives_v)) (va_cons (fe_var 3 (hs := gives_v)) (va_cons (fe_var 4 (hs := gives_v)) (va_cons (fe_var 5 (hs := gives_v)) fa_nil)))) (to_c (to_c (to_c to_1))) (szl (szc (szc (szc (szc sz0))))))) tk_v (fun _ _ => (.of rfl (Le.imp (.drop (.drop (.drop (.drop (.drop (.drop (.keep .nil))))))))))))) (fs_if1 (ft_cmp op_lt_str (fun _ _ => (ol_strcmp (f := fun i j => decide (i < j)))) (fe_var 2 (hs := gives_v)) (fv_ix ix_tup ol_trK (fe_var 1 (hs := gives_v)) fe_int)) (fun _ => (fs_ret 6 (T := (sv (fTree K fTxt))) (mk := fun r45 => r45) (fe_trN (fe_tup (fa_cons (fv_ix ix_tup ol_trK (fe_var 1 (hs := gives_v)) fe_int) (fa_cons (fv_ix ix_tup ol_trA (fe_var 1 (hs := gives_v)) fe_int) (fa_cons (fe_callC C ih_put_entry (by omega) (ak_v (ak_v (ak_v (ak_v ak_nil)))) rs_v (fa_cons (fe_var 0 (hs := gives_v)) (fa_cons (fv_ix ix_tup ol_trL (fe_var 1 (hs := gives_v)) fe_int) (fa_cons (fe_var 2 (hs := gives_v)) (fa_cons (fe_var 3 (hs := gives_v)) fa_nil))))) (fa_cons (fv_ix ix_tup ol_trR (fe_var 1 (hs := gives_v)) fe_int) fa_nil)))) (to_c (to_c (to_c to_1))) (szl (szc (szc (szc (szc sz0))))))) tk_v (fun _ _ => (.of rfl (Le.imp (.drop (.drop (.drop (.drop (.keep (.keep (.keep .nil)))))))))))) (fs_ret 6 (T := (sv (fTree K fTxt))) (mk := fun r65 => r65) (fe_trN (fe_tup (fa_cons (fv_ix ix_tup ol_trK (fe_var 1 (hs := gives_v)) fe_int) (fa_cons (fv_ix ix_tup ol_trA (fe_var 1 (hs := gives_v)) fe_int) (fa_cons (fv_ix ix_tup ol_trL (fe_var 1 (hs := gives_v)) fe_int) (fa_cons (fe_callC C ih_put_entry (by omega) (ak_v (ak_v (ak_v (ak_v ak_nil)))) rs_v (fa_cons (fe_var 0 (hs := gives_v)) (fa_cons (fv_ix ix_tup ol_trR (fe_var 1 (hs := gives_v)) fe_int) (fa_cons (fe_var 2 (hs := gives_v)) (fa_cons (fe_var 3 (hs := gives_v)) fa_nil))))) fa_nil)))) (to_c (to_c (to_c to_1))) (szl (szc (szc (szc (szc sz0))))))) tk_v (fun _ _ => (.of rfl (Le.imp (.drop (.drop (.drop (.drop (.keep (.keep (.keep .nil)))))))))))))))
theorem okr_rg_split_tree (KX : K.In h) (GN : h.Ns mainGlobals mg) (c : Sy fa fn fx K) : ∀ n : Nat, (Cal P w K mg base "split_tree" ["tree", "key"] (2 + n) (spP K (fun (a : (Tr (List Nat)) × (List Nat) × Unit) => [(sv (fTree K fTxt) a.1), (sv fTxt a.2.1)]) (fun a => (rg_split_tree_f n).1 a.1 a.2.1) (sv (fTup K (tvc (fTree K fTxt) (tv1 (fTree K fTxt))))))) ∧ (Cal P w K mg base "put_entry" ["seed", "tree", "key", "value"] (2 + n) (spP K (fun (a : Int × (Tr (List Nat)) × (List Nat) × (List Nat) × Unit) => [(sv fInt a.1), (sv (fTree K fTxt) a.2.1), (sv fTxt a.2.2.1), (sv fTxt a.2.2.2.1)]) (fun a => (rg_split_tree_f n).2 a.1 a.2.1 a.2.2.1 a.2.2.2.1) (sv (fTree K fTxt))))
  | 0 => ⟨ok0_split_tree KX GN c, ok0_put_entry KX GN c⟩
  | n + 1 => ⟨oks_split_tree KX GN c n (okr_rg_split_tree KX GN c n).1 (okr_rg_split_tree KX GN c n).2, oks_put_entry KX GN c n (okr_rg_split_tree KX GN c n).1 (okr_rg_split_tree KX GN c n).2⟩
theorem ok_put_entry (KX : K.In h) (GN : h.Ns mainGlobals mg) (c : Sy fa fn fx K) : Cal P w K mg base "put_entry" ["seed", "tree", "key", "value"] (207) (spP K (fun (a : Int × (Tr (List Nat)) × (List Nat) × (List Nat) × Unit) => [(sv fInt a.1), (sv (fTree K fTxt) a.2.1), (sv fTxt a.2.2.1), (sv fTxt a.2.2.2.1)]) (fun a => put_entry_m a.1 a.2.1 a.2.2.1 a.2.2.2.1) (sv (fTree K fTxt))) := by
  exact (okr_rg_split_tree KX GN c 205).2
abbrev st_law_pack : Stmt := top 40
theorem sc_law_pack : FnScope ["_law_parts", "_law_part_here"] ["_law_parts"] (defScope st_law_pack) := ⟨rfl, rfl, rfl, by decide +kernel, rfl, by decide +kernel, by decide +kernel⟩
theorem ok_law_pack (KX : K.In h) (GN : h.Ns mainGlobals mg) (c : Sy fa fn fx K) : Cal P w K mg base "_law_pack" ["_law_parts"] 1 (spP K (fun (a : (List (List Nat)) × Unit) => [(bw (tL K fTxt) a.1)]) (fun a => law_pack_m a.1) (sv fTxt)) := by
  obtain ⟨fd, F⟩ := c.def_ 20 (d := mkD "_law_pack" 40) rfl
  refine ⟨_, fd, (He.glo_ok KX GN (c.fact 43 (f := .glo "_law_pack") rfl)), F.kp, F.bindsN (fun _ _ _ _ _ _ us hl => match us, hl with | [_], _ => rfl), ?_⟩
  refine fn_def (bm := fun (a : (List (List Nat)) × Unit) => law_pack_b a.1) (par := (fun (a : (List (List Nat)) × Unit) (_ : Nat → V) => [(bw (tL K fTxt) a.1)])) (res := (sv fTxt)) (outs := (fun _ _ => [])) (Eh := (fun _ => eh0 3)) (cls := (fun e => e)) (outsE := (fun _ _ => [])) (R := (fun u r v => [none, none, some (pn v (sv fTxt r))])) (Nx := (fun u (s : Unit) => [none, none, none])) F sc_law_pack  2 none [2] [] [] (fun _ h => nomatch h) (fun _ _ => rfl) (by decide) (by decide) (fun _ _ => rfl) (fun _ _ _ => (.cons rfl .nil)) (fun _ h => nomatch h) (fun _ _ => .nil) (by decide) (fun cdv A outer s H E C a u => ?_)
  obtain ⟨p0, _⟩ := a
  show FS _ _ _ _ [some (bw (tL K fTxt) p0), none, none] _ (law_pack_b p0) _ _ _
  unfold law_pack_b
  exact (fs_ret 2 (T := (sv fTxt)) (mk := fun r11 => r11) (fe_bm PySem.F.plainAttrs_str PySem.F.slot_str_join PySem.F.type_str_join mt_join ty_str (fun _ _ => ml_join) fe_str (fa_cons (fe_borrow (fv_lcL (A := fTxt) (own := [("_law_part_here", 1)]) (Gw := [some (bw (tL K fTxt) p0), none, none]) (c := fun (a1 : List Nat) => M.ok (true)) (f := fun (a1 : List Nat) => ((M.need ((a1.length : Int).natAbs.log2 < 1920 ∧ tOk (strI (a1.length : Int))) (M.ok (strI (a1.length : Int)))).bind fun x2 => (M.ok (([58] : List Nat))).bind fun x3 => M.need (x2.length + x3.length ≤ sizeLine) (M.ok (x2 ++ x3))).bind fun x4 => (M.ok (a1)).bind fun x5 => M.need (x4.length + x5.length ≤ sizeLine) (M.ok (x4 ++ x5))) C (fe_var 0 (hs := gives_b)) (.of rfl (Le.imp (.keep (.keep (.keep .nil))))) (hw_of rfl) (blkOk_by (N := ["_law_parts", "_law_part_here"]) (sc := defScope st_law_pack) (by decide +kernel)) (fun sq6 Hq6 Cq6 lq6 fq6 => (fg_name 1 (C.blk _ sq6 Hq6 Cq6 lq6 fq6).nd)) (fun a1 sq6 Hq6 Cq6 lq6 fq6 => fts_nil) (fun a1 sq6 Hq6 Cq6 lq6 fq6 => (fe_bin op_add_str (fun _ _ => ol_cat) (fe_bin op_add_str (fun _ _ => ol_cat) (fv_callTy call_str_int cl_str (He.free_ok KX GN (c.fact 39 (f := .free "str") rfl)) (va_cons (fv_callB call_len cl_lenS (He.free_ok KX GN (c.fact 0 (f := .free "len") rfl)) (va_cons (fe_var 1 (hs := gives_v)) fa_nil)) fa_nil)) fe_str) (fe_var 1 (hs := gives_v)))))) fa_nil)) tk_v (fun _ _ => (.of rfl (Le.imp (.drop (.keep (.keep .nil)))))))
abbrev st_law_nodes : Stmt := top 45
theorem sc_law_nodes : FnScope ["_law_tree_here", "_law_mark"] ["_law_tree_here"] (defScope st_law_nodes) := ⟨rfl, rfl, rfl, by decide +kernel, rfl, by decide +kernel, by decide +kernel⟩
theorem okn_law_nodes (KX : K.In h) (GN : h.Ns mainGlobals mg) (c : Sy fa fn fx K) : ∀ n : Nat, Cal P w K mg base "_law_nodes" ["_law_tree_here"] (1 + n) (spP K (fun (a : (Tr (List Nat)) × Unit) => [(sv (fTree K fTxt) a.1)]) (fun a => law_nodes_f n a.1) (sv fTxt))
  | 0 => by
    obtain ⟨fd, F⟩ := c.def_ 21 (d := mkD "_law_nodes" 45) rfl
    refine ⟨_, fd, (He.glo_ok KX GN (c.fact 44 (f := .glo "_law_nodes") rfl)), F.kp, F.bindsN (fun _ _ _ _ _ _ us hl => match us, hl with | [_], _ => rfl), ?_⟩
    refine fn_def (bm := fun (_ : (Tr (List Nat)) × Unit) => none) (par := (fun (a : (Tr (List Nat)) × Unit) (_ : Nat → V) => [(sv (fTree K fTxt) a.1)])) (res := (sv fTxt)) (outs := (fun _ _ => [])) (Eh := (fun _ => eh0 3)) (cls := (fun e => e)) (outsE := (fun _ _ => [])) (R := (fun u r v => [none, none, some (pn v (sv fTxt r))])) (Nx := (fun u (s : Unit) => [none, none, none])) F sc_law_nodes (k := 0) 2 none [2] [] [] (fun _ h => nomatch h) (fun _ _ => rfl) (by decide) (by decide) (fun _ _ => rfl) (fun _ _ _ => (.cons rfl .nil)) (fun _ h => nomatch h) (fun _ _ => .nil) (by decide) (fun cdv A outer s H E C a u => ?_)
    exact PSs.weak pss_never fun D σ H ⟨B, F, T⟩ => T.ne rfl
  | n + 1 => by
    have ih := okn_law_nodes KX GN c n
    obtain ⟨fd, F⟩ := c.def_ 21 (d := mkD "_law_nodes" 45) rfl
    refine ⟨_, fd, (He.glo_ok KX GN (c.fact 44 (f := .glo "_law_nodes") rfl)), F.kp, F.bindsN (fun _ _ _ _ _ _ us hl => match us, hl with | [_], _ => rfl), ?_⟩
    refine fn_def (bm := fun (a : (Tr (List Nat)) × Unit) => law_nodes_b (law_nodes_f n) a.1) (par := (fun (a : (Tr (List Nat)) × Unit) (_ : Nat → V) => [(sv (fTree K fTxt) a.1)])) (res := (sv fTxt)) (outs := (fun _ _ => [])) (Eh := (fun _ => eh0 3)) (cls := (fun e => e)) (outsE := (fun _ _ => [])) (R := (fun u r v => [none, none, some (pn v (sv fTxt r))])) (Nx := (fun u (s : Unit) => [none, none, none])) F sc_law_nodes (k := 1 + n) 2 none [2] [] [] (fun _ h => nomatch h) (fun _ _ => rfl) (by decide) (by decide) (fun _ _ => rfl) (fun _ _ _ => (.cons rfl .nil)) (fun _ h => nomatch h) (fun _ _ => .nil) (by decide) (fun cdv A outer s H E C a u => ?_)
    obtain ⟨p0, _⟩ := a
    show FS _ _ _ _ [some (sv (fTree K fTxt) p0), none, none] _ (law_nodes_b (law_nodes_f n) p0) _ _ _
    unfold law_nodes_b
    exact (fv_if1 (tv_cmp op_isN ol_isTr (fe_var 0 (hs := gives_v)) fe_none) (fun _ => (fv_ret 2 (T := (sv fTxt)) (mk := fun r1 => r1) fe_str tk_v (fun _ _ => (.of rfl (Le.imp (.drop (.keep (.keep .nil)))))))) (fs_set 1 (T := sv fInt) C.nd (fe_bin op_add (fun _ _ => ol_I0) (fe_callTy call_int1 (fun _ => cl_intB) (He.free_ok KX GN (c.fact 3 (f := .free "int") rfl)) (fa_cons (fe_cmp op_notN (fun _ _ => ol_ntTr) (fv_ix ix_tup ol_trL (fe_var 0 (hs := gives_v)) fe_int) fe_none) fa_nil)) (fe_bin op_mul (fun _ _ => ol_mulN) fe_int (fe_callTy call_int1 (fun _ => cl_intB) (He.free_ok KX GN (c.fact 3 (f := .free "int") rfl)) (fa_cons (fe_cmp op_notN (fun _ _ => ol_ntTr) (fv_ix ix_tup ol_trR (fe_var 0 (hs := gives_v)) fe_int) fe_none) fa_nil)))) tk_v fun v16 => (fs_ret 2 (T := (sv fTxt)) (mk := fun r37 => r37) (fe_bin op_add_str (fun _ _ => ol_cat) (fe_bin op_add_str (fun _ _ => ol_cat) (fe_bin op_add_str (fun _ _ => ol_cat) (fv_callTy call_str_int cl_str (He.free_ok KX GN (c.fact 39 (f := .free "str") rfl)) (va_cons (fe_var 1 (hs := gives_v)) fa_nil)) (fe_callC C (ok_law_pack KX GN c) (by omega) (ak_b ak_nil) rs_v (fa_cons (fe_borrow (fe_list (fa_cons (fv_ix ix_tup ol_trK (fe_var 0 (hs := gives_v)) fe_int) (fa_cons (fv_ix ix_tup ol_trA (fe_var 0 (hs := gives_v)) fe_int) fa_nil)) (lo_cons (lo_cons lo_nil)))) fa_nil))) (fe_callC C ih (by omega) (ak_v ak_nil) rs_v (fa_cons (fv_ix ix_tup ol_trL (fe_var 0 (hs := gives_v)) fe_int) fa_nil))) (fe_callC C ih (by omega) (ak_v ak_nil) rs_v (fa_cons (fv_ix ix_tup ol_trR (fe_var 0 (hs := gives_v)) fe_int) fa_nil))) tk_v (fun _ _ => (.of rfl (Le.imp (.drop (.drop (.keep .nil)))))))))
theorem ok_law_nodes (KX : K.In h) (GN : h.Ns mainGlobals mg) (c : Sy fa fn fx K) : Cal P w K mg base "_law_nodes" ["_law_tree_here"] 206 (spP K (fun (a : (Tr (List Nat)) × Unit) => [(sv (fTree K fTxt) a.1)]) (fun a => law_nodes_m a.1) (sv fTxt)) := by
  exact okn_law_nodes KX GN c 205
abbrev st_law_cell : Stmt := top 37
theorem sc_law_cell : FnScope ["_law_script", "_law_k"] ["_law_script", "_law_k"] (defScope st_law_cell) := ⟨rfl, rfl, rfl, by decide +kernel, rfl, by decide +kernel, by decide +kernel⟩
theorem ok_law_cell (KX : K.In h) (GN : h.Ns mainGlobals mg) (c : Sy fa fn fx K) : Cal P w K mg base "_law_cell" ["_law_script", "_law_k"] 1 (spP K (fun (a : (List (Int)) × Int × Unit) => [(bw (tL K fInt) a.1), (sv fInt a.2.1)]) (fun a => law_cell_m a.1 a.2.1) (sv fInt)) := by
  obtain ⟨fd, F⟩ := c.def_ 22 (d := mkD "_law_cell" 37) rfl
  refine ⟨_, fd, (He.glo_ok KX GN (c.fact 45 (f := .glo "_law_cell") rfl)), F.kp, F.bindsN (fun _ _ _ _ _ _ us hl => match us, hl with | [_, _], _ => rfl), ?_⟩
  refine fn_def (bm := fun (a : (List (Int)) × Int × Unit) => law_cell_b a.1 a.2.1) (par := (fun (a : (List (Int)) × Int × Unit) (_ : Nat → V) => [(bw (tL K fInt) a.1), (sv fInt a.2.1)])) (res := (sv fInt)) (outs := (fun _ _ => [])) (Eh := (fun _ => eh0 3)) (cls := (fun e => e)) (outsE := (fun _ _ => [])) (R := (fun u r v => [none, none, some (pn v (sv fInt r))])) (Nx := (fun u (s : Unit) => [none, none, none])) F sc_law_cell  1 none [2] [] [] (fun _ h => nomatch h) (fun _ _ => rfl) (by decide) (by decide) (fun _ _ => rfl) (fun _ _ _ => (.cons rfl .nil)) (fun _ h => nomatch h) (fun _ _ => .nil) (by decide) (fun cdv A outer s H E C a u => ?_)
  obtain ⟨p0, p1, _⟩ := a
  show FS _ _ _ _ [some (bw (tL K fInt) p0), some (sv fInt p1), none] _ (law_cell_b p0 p1) _ _ _
  unfold law_cell_b
  exact (fv_if1 (tv_cmp op_lt ol_B0 (fe_var 1 (hs := gives_v)) (fv_callB call_len cl_lenL (He.free_ok KX GN (c.fact 0 (f := .free "len") rfl)) (va_cons (fe_var 0 (hs := gives_b)) fa_nil))) (fun _ => (fs_ret 2 (T := (sv fInt)) (mk := fun r1 => r1) (fv_ix ix_list ol_ixL (fe_var 0 (hs := gives_b)) (fe_var 1 (hs := gives_v))) tk_v (fun _ _ => (.of rfl (Le.imp (.drop (.drop (.keep .nil)))))))) (fv_ret 2 (T := (sv fInt)) (mk := fun r2 => r2) fe_int tk_v (fun _ _ => (.of rfl (Le.imp (.drop (.drop (.keep .nil))))))))
abbrev st_law_key : Stmt := top 43
theorem sc_law_key : FnScope ["_law_number_here", "_law_fill", "_law_signs", "_law_length", "_law_place", "_law_sign"] ["_law_number_here", "_law_fill"] (defScope st_law_key) := ⟨rfl, rfl, rfl, by decide +kernel, rfl, by decide +kernel, by decide +kernel⟩
theorem ok_law_key (KX : K.In h) (GN : h.Ns mainGlobals mg) (c : Sy fa fn fx K) : Cal P w K mg base "_law_key" ["_law_number_here", "_law_fill"] 1 (spP K (fun (a : Int × (List Nat) × Unit) => [(sv fInt a.1), (sv fTxt a.2.1)]) (fun a => law_key_m a.1 a.2.1) (sv fTxt)) := by
  obtain ⟨fd, F⟩ := c.def_ 23 (d := mkD "_law_key" 43) rfl
  refine ⟨_, fd, (He.glo_ok KX GN (c.fact 46 (f := .glo "_law_key") rfl)), F.kp, F.bindsN (fun _ _ _ _ _ _ us hl => match us, hl with | [_, _], _ => rfl), ?_⟩
  refine fn_def (bm := fun (a : Int × (List Nat) × Unit) => law_key_b a.1 a.2.1) (par := (fun (a : Int × (List Nat) × Unit) (_ : Nat → V) => [(sv fInt a.1), (sv fTxt a.2.1)])) (res := (sv fTxt)) (outs := (fun _ _ => [])) (Eh := (fun _ => eh0 7)) (cls := (fun e => e)) (outsE := (fun _ _ => [])) (R := (fun u r v => [none, none, none, none, none, none, some (pn v (sv fTxt r))])) (Nx := (fun u (s : Unit) => [none, none, none, none, none, none, none])) F sc_law_key  5 none [6] [] [] (fun _ h => nomatch h) (fun _ _ => rfl) (by decide) (by decide) (fun _ _ => rfl) (fun _ _ _ => (.cons rfl .nil)) (fun _ h => nomatch h) (fun _ _ => .nil) (by decide) (fun cdv A outer s H E C a u => ?_)
  obtain ⟨p0, p1, _⟩ := a
  show FS _ _ _ _ [some (sv fInt p0), some (sv fTxt p1), none, none, none, none, none] _ (law_key_b p0 p1) _ _ _
  unfold law_key_b
  exact (fs_set 2 (T := sv fTxt) C.nd fe_str tk_v fun v1 => (fs_set 3 (T := sv fInt) C.nd (fv_bin op_add ol_I0 fe_int (fv_bin op_mod (ol_Ic (by decide)) (fv_callTy call_int1 cl_int (He.free_ok KX GN (c.fact 3 (f := .free "int") rfl)) (va_cons (fe_var 0 (hs := gives_v)) fa_nil)) fe_int)) tk_v fun v2 => (fs_seq (N1 := (fun (s3 : Int) => [some (sv fInt p0), some (sv fTxt p1), some (sv fTxt v1), some (sv fInt s3), none, none, none])) (pv_ifj (tv_cmp op_eq ol_eqI (fv_bin op_mod (ol_Ic (by decide)) (fv_callTy call_int1 cl_int (He.free_ok KX GN (c.fact 3 (f := .free "int") rfl)) (va_cons (fe_var 0 (hs := gives_v)) fa_nil)) fe_int) fe_int) (fs_set 3 (T := sv fInt) C.nd fe_int tk_v fun v4 => (fs_nil (.of rfl (Le.imp (.keep (.keep (.keep (.keep (.keep (.keep (.keep .nil))))))))))) (fs_nil (.of rfl (Le.imp (.keep (.keep (.keep (.keep (.keep (.keep (.keep .nil))))))))))) fun s3 => (fs_set 4 (T := sv fInt) C.nd (fv_bin op_mod ol_modN (fv_bin op_fdiv (ol_Ic ⟨by decide, by decide⟩) (fe_var 0 (hs := gives_v)) fe_int) (fe_var 3 (hs := gives_v))) tk_v fun v5 => (fs_set 5 (T := sv fTxt) C.nd (fe_ix ix_str (fun _ _ => ol_ixS) (fe_var 2 (hs := gives_v)) (fv_bin op_mod ol_modN (fv_bin op_fdiv (ol_Ic ⟨by decide, by decide⟩) (fe_var 0 (hs := gives_v)) fe_int) (fv_callB call_len cl_lenS (He.free_ok KX GN (c.fact 0 (f := .free "len") rfl)) (va_cons (fe_var 2 (hs := gives_v)) fa_nil)))) tk_v fun v8 => (fs_ret 6 (T := (sv fTxt)) (mk := fun r13 => r13) (fe_bin op_add_str (fun _ _ => ol_cat) (fe_bin op_add_str (fun _ _ => ol_cat) (fv_bin op_mulSt ol_mulSt (fe_var 1 (hs := gives_v)) (fe_var 4 (hs := gives_v))) (fe_var 5 (hs := gives_v))) (fv_bin op_mulSt ol_mulSt (fe_var 1 (hs := gives_v)) (fv_bin op_sub ol_I0 (fv_bin op_sub ol_I0 (fe_var 3 (hs := gives_v)) fe_int) (fe_var 4 (hs := gives_v))))) tk_v (fun _ _ => (.of rfl (Le.imp (.drop (.drop (.drop (.drop (.drop (.drop (.keep .nil))))))))))))))))
abbrev st_pack : Stmt := top 13
theorem sc_pack : FnScope ["parts", "part"] ["parts"] (defScope st_pack) := ⟨rfl, rfl, rfl, by decide +kernel, rfl, by decide +kernel, by decide +kernel⟩
theorem ok_pack (KX : K.In h) (GN : h.Ns mainGlobals mg) (c : Sy fa fn fx K) : Cal P w K mg base "pack" ["parts"] 1 (spP K (fun (a : (List (List Nat)) × Unit) => [(bw (tL K fTxt) a.1)]) (fun a => pack_m a.1) (sv fTxt)) := by
  obtain ⟨fd, F⟩ := c.def_ 24 (d := mkD "pack" 13) rfl
  refine ⟨_, fd, (He.glo_ok KX GN (c.fact 47 (f := .glo "pack") rfl)), F.kp, F.bindsN (fun _ _ _ _ _ _ us hl => match us, hl with | [_], _ => rfl), ?_⟩
  refine fn_def (bm := fun (a : (List (List Nat)) × Unit) => pack_b a.1) (par := (fun (a : (List (List Nat)) × Unit) (_ : Nat → V) => [(bw (tL K fTxt) a.1)])) (res := (sv fTxt)) (outs := (fun _ _ => [])) (Eh := (fun _ => eh0 3)) (cls := (fun e => e)) (outsE := (fun _ _ => [])) (R := (fun u r v => [none, none, some (pn v (sv fTxt r))])) (Nx := (fun u (s : Unit) => [none, none, none])) F sc_pack  2 none [2] [] [] (fun _ h => nomatch h) (fun _ _ => rfl) (by decide) (by decide) (fun _ _ => rfl) (fun _ _ _ => (.cons rfl .nil)) (fun _ h => nomatch h) (fun _ _ => .nil) (by decide) (fun cdv A outer s H E C a u => ?_)
  obtain ⟨p0, _⟩ := a
  show FS _ _ _ _ [some (bw (tL K fTxt) p0), none, none] _ (pack_b p0) _ _ _
  unfold pack_b
  exact (fs_ret 2 (T := (sv fTxt)) (mk := fun r7 => r7) (fe_bm PySem.F.plainAttrs_str PySem.F.slot_str_join PySem.F.type_str_join mt_join ty_str (fun _ _ => ml_join) fe_str (fa_cons (fe_borrow (fv_lcL (A := fTxt) (own := [("part", 1)]) (Gw := [some (bw (tL K fTxt) p0), none, none]) (c := fun (a1 : List Nat) => M.ok (true)) (f := fun (a1 : List Nat) => joinM [M.need ((a1.length : Int).natAbs.log2 < 1920 ∧ tOk (strI (a1.length : Int))) (M.ok (strI (a1.length : Int))), M.ok (([58] : List Nat)), M.ok (a1)] []) C (fe_var 0 (hs := gives_b)) (.of rfl (Le.imp (.keep (.keep (.keep .nil))))) (hw_of rfl) (blkOk_by (N := ["parts", "part"]) (sc := defScope st_pack) (by decide +kernel)) (fun sq2 Hq2 Cq2 lq2 fq2 => (fg_name 1 (C.blk _ sq2 Hq2 Cq2 lq2 fq2).nd)) (fun a1 sq2 Hq2 Cq2 lq2 fq2 => fts_nil) (fun a1 sq2 Hq2 Cq2 lq2 fq2 => (fe_joined (.cons (fmt_iv (fv_callB call_len cl_lenS (He.free_ok KX GN (c.fact 0 (f := .free "len") rfl)) (va_cons (fe_var 1 (hs := gives_v)) fa_nil))) (.cons fe_str (.cons (fmt_sv (fe_var 1 (hs := gives_v))) .nil))))))) fa_nil)) tk_v (fun _ _ => (.of rfl (Le.imp (.drop (.keep (.keep .nil)))))))
abbrev st_gather_image : Stmt := top 26
theorem sc_gather_image : FnScope ["tree", "parts", "mark"] ["tree", "parts"] (defScope st_gather_image) := ⟨rfl, rfl, rfl, by decide +kernel, rfl, by decide +kernel, by decide +kernel⟩
theorem okn_gather_image (KX : K.In h) (GN : h.Ns mainGlobals mg) (c : Sy fa fn fx K) : ∀ n : Nat, Cal P w K mg base "gather_image" ["tree", "parts"] (1 + n) (spG K (fun (a : (Tr (List Nat)) × (List (List Nat)) × Unit) (u : Nat → V) => [(sv (fTree K fTxt) a.1), (pn (u 1) (ob (tL K fTxt) a.2.1))]) (fun a => gather_image_f n a.1 a.2.1) (fun (_ : List (List Nat)) => sv fUnit ()) (fun (r : List (List Nat)) (u : Nat → V) => [((u 1), ob (tL K fTxt) r)]) (fun e => e.1) (fun (e : Er × (List (List Nat))) (u : Nat → V) => [((u 1), ob (tL K fTxt) e.2)]))
  | 0 => by
    obtain ⟨fd, F⟩ := c.def_ 25 (d := mkD "gather_image" 26) rfl
    refine ⟨_, fd, (He.glo_ok KX GN (c.fact 48 (f := .glo "gather_image") rfl)), F.kp, F.bindsN (fun _ _ _ _ _ _ us hl => match us, hl with | [_, _], _ => rfl), ?_⟩
    refine fn_def (bm := fun (_ : (Tr (List Nat)) × (List (List Nat)) × Unit) => none) (par := (fun (a : (Tr (List Nat)) × (List (List Nat)) × Unit) (u : Nat → V) => [(sv (fTree K fTxt) a.1), (pn (u 1) (ob (tL K fTxt) a.2.1))])) (res := (fun (_ : List (List Nat)) => sv fUnit ())) (outs := (fun (r : List (List Nat)) (u : Nat → V) => [((u 1), ob (tL K fTxt) r)])) (Eh := (fun u => (⟨fun e => e.1, fun e => [none, some (pn (u 1) (ob (tL K fTxt) e.2)), none, none]⟩ : EH (Er × (List (List Nat)))))) (cls := (fun e => e.1)) (outsE := (fun (e : Er × (List (List Nat))) (u : Nat → V) => [((u 1), ob (tL K fTxt) e.2)])) (R := (fun u r v => [none, some (pn (u 1) (ob (tL K fTxt) r)), none, some (pn v (sv fUnit ()))])) (Nx := (fun u (s : (List (List Nat))) => [none, some (pn (u 1) (ob (tL K fTxt) s)), none, none])) F sc_gather_image (k := 0) 2 (some fun (s : (List (List Nat))) => s) [3, 1] [1] [1] (fun _ h _ _ _ _ => by cases h; exact ⟨rfl, rfl⟩) (fun _ _ => rfl) (by decide) (by decide) (fun _ _ => rfl) (fun _ _ _ => (.cons rfl (.cons rfl .nil))) (fun _ h _ _ => by cases h; exact (.cons rfl .nil)) (fun _ _ => (.cons rfl .nil)) (by decide) (fun cdv A outer s H E C a u => ?_)
    exact PSs.weak pss_never fun D σ H ⟨B, F, T⟩ => T.ne rfl
  | n + 1 => by
    have ih := okn_gather_image KX GN c n
    obtain ⟨fd, F⟩ := c.def_ 25 (d := mkD "gather_image" 26) rfl
    refine ⟨_, fd, (He.glo_ok KX GN (c.fact 48 (f := .glo "gather_image") rfl)), F.kp, F.bindsN (fun _ _ _ _ _ _ us hl => match us, hl with | [_, _], _ => rfl), ?_⟩
    refine fn_def (bm := fun (a : (Tr (List Nat)) × (List (List Nat)) × Unit) => gather_image_b (gather_image_f n) a.1 a.2.1) (par := (fun (a : (Tr (List Nat)) × (List (List Nat)) × Unit) (u : Nat → V) => [(sv (fTree K fTxt) a.1), (pn (u 1) (ob (tL K fTxt) a.2.1))])) (res := (fun (_ : List (List Nat)) => sv fUnit ())) (outs := (fun (r : List (List Nat)) (u : Nat → V) => [((u 1), ob (tL K fTxt) r)])) (Eh := (fun u => (⟨fun e => e.1, fun e => [none, some (pn (u 1) (ob (tL K fTxt) e.2)), none, none]⟩ : EH (Er × (List (List Nat)))))) (cls := (fun e => e.1)) (outsE := (fun (e : Er × (List (List Nat))) (u : Nat → V) => [((u 1), ob (tL K fTxt) e.2)])) (R := (fun u r v => [none, some (pn (u 1) (ob (tL K fTxt) r)), none, some (pn v (sv fUnit ()))])) (Nx := (fun u (s : (List (List Nat))) => [none, some (pn (u 1) (ob (tL K fTxt) s)), none, none])) F sc_gather_image (k := 1 + n) 2 (some fun (s : (List (List Nat))) => s) [3, 1] [1] [1] (fun _ h _ _ _ _ => by cases h; exact ⟨rfl, rfl⟩) (fun _ _ => rfl) (by decide) (by decide) (fun _ _ => rfl) (fun _ _ _ => (.cons rfl (.cons rfl .nil))) (fun _ h _ _ => by cases h; exact (.cons rfl .nil)) (fun _ _ => (.cons rfl .nil)) (by decide) (fun cdv A outer s H E C a u => ?_)
    obtain ⟨p0, p1, _⟩ := a
    show FS _ _ _ _ [some (sv (fTree K fTxt) p0), some (pn (u 1) (ob (tL K fTxt) p1)), none, none] _ (gather_image_b (gather_image_f n) p0 p1) _ _ _
    unfold gather_image_b
    exact (fv_ifend (p := (fun e => (e, p1))) (hp := ⟨fun _ => rfl, fun _ => (.of rfl (Le.imp (.drop (.keep (.keep (.keep .nil))))))⟩) (tv_cmp op_notN ol_ntTr (fe_var 0 (hs := gives_v)) fe_none) (fs_set 2 (T := sv fInt) (p := (fun e => (e, p1))) (hp := ⟨fun _ => rfl, fun _ => (.of rfl (Le.imp (.drop (.keep (.keep (.keep .nil))))))⟩) C.nd (fe_bin op_add (fun _ _ => ol_I0) (fe_callTy call_int1 (fun _ => cl_intB) (He.free_ok KX GN (c.fact 3 (f := .free "int") rfl)) (fa_cons (fe_cmp op_notN (fun _ _ => ol_ntTr) (fv_ix ix_tup ol_trL (fe_var 0 (hs := gives_v)) fe_int) fe_none) fa_nil)) (fe_bin op_mul (fun _ _ => ol_mulN) fe_int (fe_callTy call_int1 (fun _ => cl_intB) (He.free_ok KX GN (c.fact 3 (f := .free "int") rfl)) (fa_cons (fe_cmp op_notN (fun _ _ => ol_ntTr) (fv_ix ix_tup ol_trR (fe_var 0 (hs := gives_v)) fe_int) fe_none) fa_nil)))) tk_v fun v15 => (fs_app 1 (A := fTxt) (as := p1) (p := (fun e => (e, p1))) (hp := ⟨fun _ => rfl, fun _ => (.of rfl (Le.imp (.drop (.keep (.drop (.keep .nil))))))⟩) rfl (fe_var 1 (hs := gives_V)) (fe_bin op_add_str (fun _ _ => ol_cat) (fv_callTy call_str_int cl_str (He.free_ok KX GN (c.fact 39 (f := .free "str") rfl)) (va_cons (fe_var 2 (hs := gives_v)) fa_nil)) (fe_callC C (ok_pack KX GN c) (by omega) (ak_b ak_nil) rs_v (fa_cons (fe_borrow (fe_list (fa_cons (fv_ix ix_tup ol_trK (fe_var 0 (hs := gives_v)) fe_int) (fa_cons (fv_ix ix_tup ol_trA (fe_var 0 (hs := gives_v)) fe_int) fa_nil)) (lo_cons (lo_cons lo_nil)))) fa_nil))) fun v26 => (fx_expr (fx_call' (A := fun (_ : List (List Nat)) (_ : Hp) (v : V) => v = .non) (g := fun a31 => (a31.1, (p1 ++ [v26]), ())) (ks := [1]) (kt := [1]) (kte := [1]) (κ := [none, some 1]) (w := (fun | 1 => (u 1) | _ => .non)) (q := (fun (e34 : Er × (List (List Nat))) => (e34.1, e34.2))) (p := (fun e => (e, (p1 ++ [v26])))) (hp := ⟨fun _ => rfl, fun _ => (.of rfl (Le.imp (.drop (.keep (.drop (.keep .nil))))))⟩) C ih (by omega) (fa_cons (fv_ix ix_tup ol_trL (fe_var 0 (hs := gives_v)) fe_int) (fa_cons (fe_var 1 (hs := gives_V)) fa_nil)) (ag_cons ag_v (ag_cons (ag_p 1 rfl) ag_nil)) ⟨own_all rfl, by decide, by decide, fun _ => (.pin rfl .nil), by decide, by decide, fun _ => (.pin rfl .nil), by decide, fun _ => rfl, (fun e34 => (.of rfl (Le.imp (.drop (.keep (.drop (.keep .nil)))))))⟩ (fun r Y F H v ms h => h.1)) fun z33 _ => (fx_expr (fx_call' (A := fun (_ : List (List Nat)) (_ : Hp) (v : V) => v = .non) (g := fun a39 => (a39.1, z33, ())) (ks := [1]) (kt := [1]) (kte := [1]) (κ := [none, some 1]) (w := (fun | 1 => (u 1) | _ => .non)) (q := (fun (e42 : Er × (List (List Nat))) => (e42.1, e42.2))) (p := (fun e => (e, z33))) (hp := ⟨fun _ => rfl, fun _ => (.of rfl (Le.imp (.drop (.keep (.drop (.keep .nil))))))⟩) C ih (by omega) (fa_cons (fv_ix ix_tup ol_trR (fe_var 0 (hs := gives_v)) fe_int) (fa_cons (fe_var 1 (hs := gives_V)) fa_nil)) (ag_cons ag_v (ag_cons (ag_p 1 rfl) ag_nil)) ⟨own_all rfl, by decide, by decide, fun _ => (.pin rfl .nil), by decide, by decide, fun _ => (.pin rfl .nil), by decide, fun _ => rfl, (fun e42 => (.of rfl (Le.imp (.drop (.keep (.drop (.keep .nil)))))))⟩ (fun r Y F H v ms h => h.1)) fun z41 _ => (fs_nil (.of rfl (Le.imp (.drop (.keep (.drop (.keep .nil))))))))))) (fs_nil (.of rfl (Le.imp (.drop (.keep (.keep (.keep .nil))))))))
theorem ok_gather_image (KX : K.In h) (GN : h.Ns mainGlobals mg) (c : Sy fa fn fx K) : Cal P w K mg base "gather_image" ["tree", "parts"] 206 (spG K (fun (a : (Tr (List Nat)) × (List (List Nat)) × Unit) (u : Nat → V) => [(sv (fTree K fTxt) a.1), (pn (u 1) (ob (tL K fTxt) a.2.1))]) (fun a => gather_image_m a.1 a.2.1) (fun (_ : List (List Nat)) => sv fUnit ()) (fun (r : List (List Nat)) (u : Nat → V) => [((u 1), ob (tL K fTxt) r)]) (fun e => e.1) (fun (e : Er × (List (List Nat))) (u : Nat → V) => [((u 1), ob (tL K fTxt) e.2)])) := by
  exact okn_gather_image KX GN c 205
abbrev st_tree_image : Stmt := top 25
theorem sc_tree_image : FnScope ["tree", "parts"] ["tree"] (defScope st_tree_image) := ⟨rfl, rfl, rfl, by decide +kernel, rfl, by decide +kernel, by decide +kernel⟩
theorem ok_tree_image (KX : K.In h) (GN : h.Ns mainGlobals mg) (c : Sy fa fn fx K) : Cal P w K mg base "tree_image" ["tree"] 207 (spP K (fun (a : (Tr (List Nat)) × Unit) => [(sv (fTree K fTxt) a.1)]) (fun a => tree_image_m a.1) (sv fTxt)) := by
  obtain ⟨fd, F⟩ := c.def_ 26 (d := mkD "tree_image" 25) rfl
  refine ⟨_, fd, (He.glo_ok KX GN (c.fact 49 (f := .glo "tree_image") rfl)), F.kp, F.bindsN (fun _ _ _ _ _ _ us hl => match us, hl with | [_], _ => rfl), ?_⟩
  refine fn_def (bm := fun (a : (Tr (List Nat)) × Unit) => tree_image_b a.1) (par := (fun (a : (Tr (List Nat)) × Unit) (_ : Nat → V) => [(sv (fTree K fTxt) a.1)])) (res := (sv fTxt)) (outs := (fun _ _ => [])) (Eh := (fun _ => eh0 3)) (cls := (fun e => e)) (outsE := (fun _ _ => [])) (R := (fun u r v => [none, none, some (pn v (sv fTxt r))])) (Nx := (fun u (s : Unit) => [none, none, none])) F sc_tree_image  2 none [2] [] [] (fun _ h => nomatch h) (fun _ _ => rfl) (by decide) (by decide) (fun _ _ => rfl) (fun _ _ _ => (.cons rfl .nil)) (fun _ h => nomatch h) (fun _ _ => .nil) (by decide) (fun cdv A outer s H E C a u => ?_)
  obtain ⟨p0, _⟩ := a
  show FS _ _ _ _ [some (sv (fTree K fTxt) p0), none, none] _ (tree_image_b p0) _ _ _
  unfold tree_image_b
  exact (fs_set 1 (T := ob (tL K fTxt)) C.nd fe_nil tk_o fun v1 => (fs_pin 1 rfl fun V2 => (fx_expr (fxv_call (A := fun (_ : List (List Nat)) (_ : Hp) (v : V) => v = .non) (g := fun a3 => (a3.1, v1, ())) (ks := [1]) (kt := [1]) (kte := [1]) (κ := [none, some 1]) (w := (fun | 1 => V2 | _ => .non)) (q := (fun (e6 : Er × (List (List Nat))) => e6.1)) C (ok_gather_image KX GN c) (by decide) (va_cons (fe_var 0 (hs := gives_v)) (va_cons (fe_var 1 (hs := gives_V)) fa_nil)) (ag_cons ag_v (ag_cons (ag_p 1 rfl) ag_nil)) ⟨own_all rfl, by decide, by decide, fun _ => (.pin rfl .nil), by decide, by decide, fun _ => (.pin rfl .nil), by decide, fun _ => rfl, (fun _ => Le.imp (Le.none rfl))⟩ (fun r Y F H v ms h => h.1)) fun z5 _ => (fs_ret 2 (T := (sv fTxt)) (mk := fun r11 => r11) (fe_bin op_add_str (fun _ _ => ol_cat) (fe_bin op_add_str (fun _ _ => ol_cat) (fv_callTy call_str_int cl_str (He.free_ok KX GN (c.fact 39 (f := .free "str") rfl)) (va_cons (fv_callB call_len cl_lenL (He.free_ok KX GN (c.fact 0 (f := .free "len") rfl)) (va_cons (fe_var 1 (hs := (gives_pn gives_o))) fa_nil)) fa_nil)) fe_str) (fv_bm PySem.F.plainAttrs_str PySem.F.slot_str_join PySem.F.type_str_join mt_join ty_str ml_join fe_str (va_cons (fe_var 1 (hs := (gives_pn gives_o))) fa_nil))) tk_v (fun _ _ => (.of rfl (Le.imp (.drop (.drop (.keep .nil))))))))))
abbrev st_law_number : Stmt := top 47
theorem sc_law_number : FnScope ["_law_text", "_law_sign"] ["_law_text"] (defScope st_law_number) := ⟨rfl, rfl, rfl, by decide +kernel, rfl, by decide +kernel, by decide +kernel⟩
theorem ok_law_number (KX : K.In h) (GN : h.Ns mainGlobals mg) (c : Sy fa fn fx K) : Cal P w K mg base "_law_number" ["_law_text"] 1 (spP K (fun (a : (List Nat) × Unit) => [(sv fTxt a.1)]) (fun a => law_number_m a.1) (sv (fOpt fInt))) := by
  obtain ⟨fd, F⟩ := c.def_ 27 (d := mkD "_law_number" 47) rfl
  refine ⟨_, fd, (He.glo_ok KX GN (c.fact 50 (f := .glo "_law_number") rfl)), F.kp, F.bindsN (fun _ _ _ _ _ _ us hl => match us, hl with | [_], _ => rfl), ?_⟩
  refine fn_def (bm := fun (a : (List Nat) × Unit) => law_number_b a.1) (par := (fun (a : (List Nat) × Unit) (_ : Nat → V) => [(sv fTxt a.1)])) (res := (sv (fOpt fInt))) (outs := (fun _ _ => [])) (Eh := (fun _ => eh0 3)) (cls := (fun e => e)) (outsE := (fun _ _ => [])) (R := (fun u r v => [none, none, some (pn v (sv (fOpt fInt) r))])) (Nx := (fun u (s : Unit) => [none, none, none])) F sc_law_number  2 none [2] [] [] (fun _ h => nomatch h) (fun _ _ => rfl) (by decide) (by decide) (fun _ _ => rfl) (fun _ _ _ => (.cons rfl .nil)) (fun _ h => nomatch h) (fun _ _ => .nil) (by decide) (fun cdv A outer s H E C a u => ?_)
  obtain ⟨p0, _⟩ := a
  show FS _ _ _ _ [some (sv fTxt p0), none, none] _ (law_number_b p0) _ _ _
  unfold law_number_b
  exact (fs_if1 (fw_t (fw_or (tv_cmp op_lt ol_B0 (fv_callB call_len cl_lenS (He.free_ok KX GN (c.fact 0 (f := .free "len") rfl)) (va_cons (fe_var 0 (hs := gives_v)) fa_nil)) fe_int) (fw_or (tv_cmp op_gt ol_B0 (fv_callB call_len cl_lenS (He.free_ok KX GN (c.fact 0 (f := .free "len") rfl)) (va_cons (fe_var 0 (hs := gives_v)) fa_nil)) fe_int) (fw_or1 (fw_t (fw_and (tv_cmp op_gt ol_B0 (fv_callB call_len cl_lenS (He.free_ok KX GN (c.fact 0 (f := .free "len") rfl)) (va_cons (fe_var 0 (hs := gives_v)) fa_nil)) fe_int) (fw_and1 (ft_cmp op_eq (fun _ _ => ol_eqS) (fv_ix ix_str ol_ixS (fe_var 0 (hs := gives_v)) fe_int) fe_str)))))))) (fun _ => (fv_ret 2 (T := (sv (fOpt fInt))) (mk := fun r6 => r6) (fe_optN fe_none) tk_v (fun _ _ => (.of rfl (Le.imp (.drop (.keep (.keep .nil)))))))) (fs_seq (N1 := (fun (s10 : Unit) => [some (sv fTxt p0), none, none])) (pv_forS (Gs := (fun (s7 : Unit) => [some (sv fTxt p0), none, none])) (tl' := [1]) (x0 := ()) C (fe_var 0 (hs := gives_v)) (.of rfl (Le.imp (.keep (.keep (.keep .nil))))) (fg_name 1 C.nd) (fun s7 a8 => (fv_ifend (tv_cmp op_lt ol_B0 (fv_bm PySem.F.plainAttrs_str PySem.F.slot_str_find PySem.F.type_str_find mt_find ty_str ml_int1 fe_str (va_cons (fe_var 1 (hs := gives_v)) fa_nil)) fe_int) (fv_ret 2 (T := (sv (fOpt fInt))) (mk := fun r9 => r9) (fe_optN fe_none) tk_v (fun _ _ => (.of rfl (Le.imp (.drop (.drop (.keep .nil))))))) (fs_nil (.of rfl (Le.imp (.keep (.drop (.keep .nil))))))))) fun s10 => (fs_ret 2 (T := (sv (fOpt fInt))) (mk := fun r12 => r12) (fe_optS (nn_int) (fv_callTy call_int_str cl_intS (He.free_ok KX GN (c.fact 3 (f := .free "int") rfl)) (va_cons (fe_var 0 (hs := gives_v)) fa_nil))) tk_v (fun _ _ => (.of rfl (Le.imp (.drop (.keep (.keep .nil)))))))))
abbrev st_law_part : Stmt := top 48
theorem sc_law_part : FnScope ["_law_text", "_law_at", "_law_colon", "_law_size_here"] ["_law_text", "_law_at"] (defScope st_law_part) := ⟨rfl, rfl, rfl, by decide +kernel, rfl, by decide +kernel, by decide +kernel⟩
theorem ok_law_part (KX : K.In h) (GN : h.Ns mainGlobals mg) (c : Sy fa fn fx K) : Cal P w K mg base "_law_part" ["_law_text", "_law_at"] 2 (spP K (fun (a : (List Nat) × Int × Unit) => [(sv fTxt a.1), (sv fInt a.2.1)]) (fun a => law_part_m a.1 a.2.1) (sv (fOpt (fTup K (tvc fTxt (tv1 fInt)))))) := by
  obtain ⟨fd, F⟩ := c.def_ 28 (d := mkD "_law_part" 48) rfl
  refine ⟨_, fd, (He.glo_ok KX GN (c.fact 51 (f := .glo "_law_part") rfl)), F.kp, F.bindsN (fun _ _ _ _ _ _ us hl => match us, hl with | [_, _], _ => rfl), ?_⟩
  refine fn_def (bm := fun (a : (List Nat) × Int × Unit) => law_part_b a.1 a.2.1) (par := (fun (a : (List Nat) × Int × Unit) (_ : Nat → V) => [(sv fTxt a.1), (sv fInt a.2.1)])) (res := (sv (fOpt (fTup K (tvc fTxt (tv1 fInt)))))) (outs := (fun _ _ => [])) (Eh := (fun _ => eh0 5)) (cls := (fun e => e)) (outsE := (fun _ _ => [])) (R := (fun u r v => [none, none, none, none, some (pn v (sv (fOpt (fTup K (tvc fTxt (tv1 fInt)))) r))])) (Nx := (fun u (s : Unit) => [none, none, none, none, none])) F sc_law_part  3 none [4] [] [] (fun _ h => nomatch h) (fun _ _ => rfl) (by decide) (by decide) (fun _ _ => rfl) (fun _ _ _ => (.cons rfl .nil)) (fun _ h => nomatch h) (fun _ _ => .nil) (by decide) (fun cdv A outer s H E C a u => ?_)
  obtain ⟨p0, p1, _⟩ := a
  show FS _ _ _ _ [some (sv fTxt p0), some (sv fInt p1), none, none, none] _ (law_part_b p0 p1) _ _ _
  unfold law_part_b
  exact (fs_set 2 (T := sv fInt) C.nd (fv_bm PySem.F.plainAttrs_str PySem.F.slot_str_find PySem.F.type_str_find mt_find3 ty_str ml_int3 (fe_var 0 (hs := gives_v)) (va_cons fe_str (va_cons (fe_var 1 (hs := gives_v)) fa_nil))) tk_v fun v1 => (fv_if1 (tv_cmp op_lt ol_B0 (fe_var 2 (hs := gives_v)) fe_int) (fun _ => (fv_ret 4 (T := (sv (fOpt (fTup K (tvc fTxt (tv1 fInt)))))) (mk := fun r2 => r2) (fe_optN fe_none) tk_v (fun _ _ => (.of rfl (Le.imp (.drop (.drop (.drop (.keep (.keep .nil)))))))))) (fs_set 3 (T := sv (fOpt fInt)) C.nd (fv_callC C (ok_law_number KX GN c) (by decide) (ak_v ak_nil) rs_v (va_cons (fv_slice sl_str sp_str (fe_var 0 (hs := gives_v)) (vo_some (fe_var 1 (hs := gives_v))) (vo_some (fe_var 2 (hs := gives_v)))) fa_nil)) tk_v fun v3 => (fs_optC 3 (A := fInt) rfl (fs_if1 (fw_t (fw_or (tv_cmp op_isN ol_isNU (fe_var 3 (hs := gives_v)) fe_none) (fw_or1 ft_never))) (fun _ => (fv_ret 4 (T := (sv (fOpt (fTup K (tvc fTxt (tv1 fInt)))))) (mk := fun r6 => r6) (fe_optN fe_none) tk_v (fun _ _ => (.of rfl (Le.imp (.drop (.drop (.drop (.drop (.keep .nil)))))))))) fs_never) fun w4 => (fv_if1 (fw_t (vw_or (tv_cmp op_isN (ol_isNV (nn_int)) (fe_var 3 (hs := gives_v)) fe_none) (fw_or1 (tv_cmp op_gt ol_B0 (fv_bin op_add ol_I0 (fv_bin op_add ol_I0 (fe_var 2 (hs := gives_v)) fe_int) (fe_var 3 (hs := gives_v))) (fv_callB call_len cl_lenS (He.free_ok KX GN (c.fact 0 (f := .free "len") rfl)) (va_cons (fe_var 0 (hs := gives_v)) fa_nil)))))) (fun _ => (fv_ret 4 (T := (sv (fOpt (fTup K (tvc fTxt (tv1 fInt)))))) (mk := fun r8 => r8) (fe_optN fe_none) tk_v (fun _ _ => (.of rfl (Le.imp (.drop (.drop (.drop (.drop (.keep .nil)))))))))) (fv_ret 4 (T := (sv (fOpt (fTup K (tvc fTxt (tv1 fInt)))))) (mk := fun r9 => r9) (fv_optS (nn_tup) (fv_tup (va_cons (fv_slice sl_str sp_str (fe_var 0 (hs := gives_v)) (vo_some (fv_bin op_add ol_I0 (fe_var 2 (hs := gives_v)) fe_int)) (vo_some (fv_bin op_add ol_I0 (fv_bin op_add ol_I0 (fe_var 2 (hs := gives_v)) fe_int) (fe_var 3 (hs := gives_v))))) (va_cons (fv_bin op_add ol_I0 (fv_bin op_add ol_I0 (fe_var 2 (hs := gives_v)) fe_int) (fe_var 3 (hs := gives_v))) fa_nil)) (to_c to_1) (szl (szc (szc sz0))))) tk_v (fun _ _ => (.of rfl (Le.imp (.drop (.drop (.drop (.drop (.keep .nil))))))))))))))
abbrev st_law_due : Stmt := top 49
theorem sc_law_due : FnScope ["_law_seed", "_law_image", "_law_cut", "_law_content", "_law_at", "_law_turn", "_law_key_here", "_law_value_here", "_law_due_here"] ["_law_seed", "_law_image"] (defScope st_law_due) := ⟨rfl, rfl, rfl, by decide +kernel, rfl, by decide +kernel, by decide +kernel⟩
theorem ok_law_due (KX : K.In h) (GN : h.Ns mainGlobals mg) (c : Sy fa fn fx K) : Cal P w K mg base "_law_due" ["_law_seed", "_law_image"] 208 (spP K (fun (a : Int × (List Nat) × Unit) => [(sv fInt a.1), (sv fTxt a.2.1)]) (fun a => law_due_m a.1 a.2.1) (sv (fSum fTxt (fTree K fTxt)))) := by
  obtain ⟨fd, F⟩ := c.def_ 29 (d := mkD "_law_due" 49) rfl
  refine ⟨_, fd, (He.glo_ok KX GN (c.fact 53 (f := .glo "_law_due") rfl)), F.kp, F.bindsN (fun _ _ _ _ _ _ us hl => match us, hl with | [_, _], _ => rfl), ?_⟩
  refine fn_def (bm := fun (a : Int × (List Nat) × Unit) => law_due_b a.1 a.2.1) (par := (fun (a : Int × (List Nat) × Unit) (_ : Nat → V) => [(sv fInt a.1), (sv fTxt a.2.1)])) (res := (sv (fSum fTxt (fTree K fTxt)))) (outs := (fun _ _ => [])) (Eh := (fun _ => eh0 10)) (cls := (fun e => e)) (outsE := (fun _ _ => [])) (R := (fun u r v => [none, none, none, none, none, none, none, none, none, some (pn v (sv (fSum fTxt (fTree K fTxt)) r))])) (Nx := (fun u (s : Unit) => [none, none, none, none, none, none, none, none, none, none])) F sc_law_due  8 none [9] [] [] (fun _ h => nomatch h) (fun _ _ => rfl) (by decide) (by decide) (fun _ _ => rfl) (fun _ _ _ => (.cons rfl .nil)) (fun _ h => nomatch h) (fun _ _ => .nil) (by decide) (fun cdv A outer s H E C a u => ?_)
  obtain ⟨p0, p1, _⟩ := a
  show FS _ _ _ _ [some (sv fInt p0), some (sv fTxt p1), none, none, none, none, none, none, none, none] _ (law_due_b p0 p1) _ _ _
  unfold law_due_b
  exact (fs_set 2 (T := sv fInt) C.nd (fv_bm PySem.F.plainAttrs_str PySem.F.slot_str_find PySem.F.type_str_find mt_find ty_str ml_int1 (fe_var 1 (hs := gives_v)) (va_cons fe_str fa_nil)) tk_v fun v1 => (fs_if1 (fw_t (fw_or (tv_cmp op_lt ol_B0 (fe_var 2 (hs := gives_v)) fe_int) (fw_or (ft_cmp op_isN (fun _ _ => ol_isN) (fv_callC C (ok_law_number KX GN c) (by decide) (ak_v ak_nil) rs_v (va_cons (fv_slice sl_str sp_str (fe_var 1 (hs := gives_v)) fo_none (vo_some (fe_var 2 (hs := gives_v)))) fa_nil)) fe_none) (fw_or1 (ft_cmp op_gt (fun _ _ => ol_B0) (fv_callTy call_int_str cl_intS (He.free_ok KX GN (c.fact 3 (f := .free "int") rfl)) (va_cons (fv_slice sl_str sp_str (fe_var 1 (hs := gives_v)) fo_none (vo_some (fe_var 2 (hs := gives_v)))) fa_nil)) fe_int))))) (fun _ => (fv_ret 9 (T := (sv (fSum fTxt (fTree K fTxt)))) (mk := fun r8 => r8) (fv_inl fe_str) tk_v (fun _ _ => (.of rfl (Le.imp (.drop (.drop (.drop (.keep (.keep (.keep (.keep (.keep (.keep (.keep .nil))))))))))))))) (fs_set 3 (T := ob (tD kT fTxt)) C.nd fe_dnew tk_o fun v9 => (fs_set 4 (T := sv fInt) C.nd (fv_bin op_add ol_I0 (fe_var 2 (hs := gives_v)) fe_int) tk_v fun v10 => (fs_pin 3 rfl fun V11 => (fs_seq (N1 := (fun (s27 : Int × (List ((List Nat) × (List Nat)))) => [some (sv fInt p0), some (sv fTxt p1), some (sv fInt v1), some (pn V11 (ob (tD kT fTxt) s27.2)), some (sv fInt s27.1), none, none, none, none, none])) (ps_forR (Gs := (fun (s12 : Int × (List ((List Nat) × (List Nat)))) => [some (sv fInt p0), some (sv fTxt p1), some (sv fInt v1), some (pn V11 (ob (tD kT fTxt) s12.2)), some (sv fInt s12.1), none, none, none, none, none])) (tl' := [5, 6, 7, 4, 3]) (x0 := (v10, v9)) C (He.free_ok KX GN (c.fact 1 (f := .free "range") rfl)) (fv_callTy call_int_str cl_intS (He.free_ok KX GN (c.fact 3 (f := .free "int") rfl)) (va_cons (fv_slice sl_str sp_str (fe_var 1 (hs := gives_v)) fo_none (vo_some (fe_var 2 (hs := gives_v)))) fa_nil)) (.of rfl (Le.imp (.keep (.keep (.keep (.keep (.keep (.keep (.keep (.keep (.keep (.keep .nil)))))))))))) (fg_name 5 C.nd) (fun s12 a13 => (fs_set 6 (T := sv (fOpt (fTup K (tvc fTxt (tv1 fInt))))) C.nd (fv_callC C (ok_law_part KX GN c) (by decide) (ak_v (ak_v ak_nil)) rs_v (va_cons (fe_var 1 (hs := gives_v)) (va_cons (fv_bin op_add ol_I0 (fe_var 4 (hs := gives_v)) fe_int) fa_nil))) tk_v fun v14 => (fs_optC 6 (A := (fTup K (tvc fTxt (tv1 fInt)))) rfl (fv_if1 (tv_cmp op_isN ol_isNU (fe_var 6 (hs := gives_v)) fe_none) (fun _ => (fv_ret 9 (T := (sv (fSum fTxt (fTree K fTxt)))) (mk := fun r16 => r16) (fv_inl fe_str) tk_v (fun _ _ => (.of rfl (Le.imp (.drop (.drop (.drop (.drop (.drop (.drop (.drop (.keep (.keep (.keep .nil))))))))))))))) fs_never) fun w15 => (fv_if1 (tv_cmp op_isN (ol_isNV (nn_tup)) (fe_var 6 (hs := gives_v)) fe_none) (fun _ => fs_never) (fs_set 7 (T := sv (fOpt (fTup K (tvc fTxt (tv1 fInt))))) C.nd (fv_callC C (ok_law_part KX GN c) (by decide) (ak_v (ak_v ak_nil)) rs_v (va_cons (fe_var 1 (hs := gives_v)) (va_cons (fv_ix ix_tup (ol_ixT (partS part1)) (fe_var 6 (hs := gives_v)) fe_int) fa_nil))) tk_v fun v17 => (fs_optC 7 (A := (fTup K (tvc fTxt (tv1 fInt)))) rfl (fs_if1 (fw_t (fw_or (tv_cmp op_isN ol_isNU (fe_var 7 (hs := gives_v)) fe_none) (fw_or (tv_not (tv_chain op_le op_le ol_B0 ol_B0 fe_int (fv_callB call_len cl_lenS (He.free_ok KX GN (c.fact 0 (f := .free "len") rfl)) (va_cons (fv_ix ix_tup (ol_ixT part0) (fe_var 6 (hs := gives_v)) fe_int) fa_nil)) fe_int)) (fw_or1 ft_never)))) (fun _ => (fv_ret 9 (T := (sv (fSum fTxt (fTree K fTxt)))) (mk := fun r21 => r21) (fv_inl fe_str) tk_v (fun _ _ => (.of rfl (Le.imp (.drop (.drop (.drop (.drop (.drop (.drop (.drop (.drop (.keep (.keep .nil))))))))))))))) fs_never) fun w18 => (fv_if1 (fw_t (vw_or (tv_cmp op_isN (ol_isNV (nn_tup)) (fe_var 7 (hs := gives_v)) fe_none) (vw_or (tv_not (tv_chain op_le op_le ol_B0 ol_B0 fe_int (fv_callB call_len cl_lenS (He.free_ok KX GN (c.fact 0 (f := .free "len") rfl)) (va_cons (fv_ix ix_tup (ol_ixT part0) (fe_var 6 (hs := gives_v)) fe_int) fa_nil)) fe_int)) (fw_or1 (tv_cmp op_gt ol_B0 (fv_callB call_len cl_lenS (He.free_ok KX GN (c.fact 0 (f := .free "len") rfl)) (va_cons (fv_ix ix_tup (ol_ixT part0) (fe_var 7 (hs := gives_v)) fe_int) fa_nil)) fe_int))))) (fun _ => (fv_ret 9 (T := (sv (fSum fTxt (fTree K fTxt)))) (mk := fun r23 => r23) (fv_inl fe_str) tk_v (fun _ _ => (.of rfl (Le.imp (.drop (.drop (.drop (.drop (.drop (.drop (.drop (.drop (.keep (.keep .nil))))))))))))))) (fs_dput (j := 3) (T := kT) (A := fTxt) (d := s12.2) C rfl (fe_var 3 (hs := gives_V)) (fv_ix ix_tup (ol_ixT part0) (fe_var 7 (hs := gives_v)) fe_int) (fv_ix ix_tup (ol_ixT part0) (fe_var 6 (hs := gives_v)) fe_int) fun k25 v24 => (fs_set 4 (T := sv fInt) C.nd (fv_ix ix_tup (ol_ixT (partS part1)) (fe_var 7 (hs := gives_v)) fe_int) tk_v fun v26 => (fs_nil (.of rfl (Le.imp (.keep (.keep (.keep (.keep (.keep (.drop (.drop (.drop (.keep (.keep .nil))))))))))))))))))))))) fun s27 => (fs_set 8 (T := sv (fTree K fTxt)) C.nd (fe_callC C (ok_law_tree KX GN c) (by decide) (ak_v (ak_b ak_nil)) rs_v (fa_cons (fe_var 0 (hs := gives_v)) (fa_cons (fe_borrow (fv_lcL (A := fTxt) (own := [("_law_key_here", 6)]) (Gw := [some (sv fInt p0), some (sv fTxt p1), some (sv fInt v1), some (pn V11 (ob (tD kT fTxt) s27.2)), some (sv fInt s27.1), none, none, none, none, none]) (c := fun (a28 : List Nat) => M.ok (true)) (f := fun (a28 : List Nat) => ((M.ok (a28)).bind fun x33 => (((M.ok (s27.2)).bind fun d29 => (M.ok (a28)).bind fun k30 => oget (dget d29 k30)).bind fun x31 => (M.ok ()).bind fun y32 => M.ok (x31, y32)).bind fun y34 => M.ok (x33, y34)).bind fun a35 => M.ok (a35.1, a35.2.1)) C (fe_borrow (fv_callB (call_sortedDA C.calm) cl_sortDA (He.free_ok KX GN (c.fact 52 (f := .free "sorted") rfl)) (va_cons (fe_var 3 (hs := (gives_pn gives_o))) fa_nil))) (.of rfl (Le.imp (.keep (.keep (.keep (.keep (.keep (.keep (.keep (.keep (.keep (.keep .nil)))))))))))) (hw_of rfl) (blkOk_by (N := ["_law_seed", "_law_image", "_law_cut", "_law_content", "_law_at", "_law_turn", "_law_key_here", "_law_value_here", "_law_due_here"]) (sc := defScope st_law_due) (by decide +kernel)) (fun sq36 Hq36 Cq36 lq36 fq36 => (fg_name 6 (C.blk _ sq36 Hq36 Cq36 lq36 fq36).nd)) (fun a28 sq36 Hq36 Cq36 lq36 fq36 => fts_nil) (fun a28 sq36 Hq36 Cq36 lq36 fq36 => (fe_tup (fa_cons (fe_var 6 (hs := gives_v)) (fa_cons (fe_dget (T := kT) (A := fTxt) (C.blk _ sq36 Hq36 Cq36 lq36 fq36) (fe_var 3 (hs := (gives_pn gives_o))) (fe_var 6 (hs := gives_v))) fa_nil)) (to_c to_1) (szl (szc (szc sz0))))))) fa_nil))) tk_v fun v42 => (fs_if1 (ft_cmp op_ne (fun _ _ => ol_neS) (fe_bin op_add_str (fun _ _ => ol_cat) (fe_bin op_add_str (fun _ _ => ol_cat) (fv_callTy call_str_int cl_str (He.free_ok KX GN (c.fact 39 (f := .free "str") rfl)) (va_cons (fv_callB call_lenDR cl_lenD (He.free_ok KX GN (c.fact 0 (f := .free "len") rfl)) (va_cons (fe_var 3 (hs := (gives_pn gives_o))) fa_nil)) fa_nil)) fe_str) (fv_callC C (ok_law_nodes KX GN c) (by decide) (ak_v ak_nil) rs_v (va_cons (fe_var 8 (hs := gives_v)) fa_nil))) (fe_var 1 (hs := gives_v))) (fun _ => (fv_ret 9 (T := (sv (fSum fTxt (fTree K fTxt)))) (mk := fun r49 => r49) (fv_inl fe_str) tk_v (fun _ _ => (.of rfl (Le.imp (.drop (.drop (.drop (.drop (.drop (.keep (.keep (.keep (.drop (.keep .nil))))))))))))))) (fv_ret 9 (T := (sv (fSum fTxt (fTree K fTxt)))) (mk := fun r50 => r50) (fv_inr (fe_var 8 (hs := gives_v))) tk_v (fun _ _ => (.of rfl (Le.imp (.drop (.drop (.drop (.drop (.drop (.keep (.keep (.keep (.drop (.keep .nil))))))))))))))))))))))
abbrev st_law_told : Stmt := top 50
theorem sc_law_told : FnScope ["_law_seed", "_law_text", "_law_due_here", "_law_read_here"] ["_law_seed", "_law_text"] (defScope st_law_told) := ⟨rfl, rfl, rfl, by decide +kernel, rfl, by decide +kernel, by decide +kernel⟩
theorem ok_law_told (KX : K.In h) (GN : h.Ns mainGlobals mg) (c : Sy fa fn fx K) : Cal P w K mg base "_law_told" ["_law_seed", "_law_text"] 211 (spP K (fun (a : Int × (List Nat) × Unit) => [(sv fInt a.1), (sv fTxt a.2.1)]) (fun a => law_told_m a.1 a.2.1) (sv fBool)) := by
  obtain ⟨fd, F⟩ := c.def_ 30 (d := mkD "_law_told" 50) rfl
  refine ⟨_, fd, (He.glo_ok KX GN (c.fact 54 (f := .glo "_law_told") rfl)), F.kp, F.bindsN (fun _ _ _ _ _ _ us hl => match us, hl with | [_, _], _ => rfl), ?_⟩
  refine fn_def (bm := fun (a : Int × (List Nat) × Unit) => law_told_b a.1 a.2.1) (par := (fun (a : Int × (List Nat) × Unit) (_ : Nat → V) => [(sv fInt a.1), (sv fTxt a.2.1)])) (res := (sv fBool)) (outs := (fun _ _ => [])) (Eh := (fun _ => eh0 5)) (cls := (fun e => e)) (outsE := (fun _ _ => [])) (R := (fun u r v => [none, none, none, none, some (pn v (sv fBool r))])) (Nx := (fun u (s : Unit) => [none, none, none, none, none])) F sc_law_told  3 none [4] [] [] (fun _ h => nomatch h) (fun _ _ => rfl) (by decide) (by decide) (fun _ _ => rfl) (fun _ _ _ => (.cons rfl .nil)) (fun _ h => nomatch h) (fun _ _ => .nil) (by decide) (fun cdv A outer s H E C a u => ?_)
  obtain ⟨p0, p1, _⟩ := a
  show FS _ _ _ _ [some (sv fInt p0), some (sv fTxt p1), none, none, none] _ (law_told_b p0 p1) _ _ _
  unfold law_told_b
  exact (fs_set 2 (T := sv (fSum fTxt (fTree K fTxt))) C.nd (fv_callC C (ok_law_due KX GN c) (by decide) (ak_v (ak_v ak_nil)) rs_v (va_cons (fe_var 0 (hs := gives_v)) (va_cons (fe_var 1 (hs := gives_v)) fa_nil))) tk_v fun v1 => (fs_set 3 (T := sv (fTup K (tvc (fTree K fTxt) (tv1 fTxt)))) C.nd (fv_callC C (ok_law_read KX GN c) (by decide) (ak_v (ak_v ak_nil)) rs_v (va_cons (fe_var 0 (hs := gives_v)) (va_cons (fe_var 1 (hs := gives_v)) fa_nil))) tk_v fun v2 => (fv_if1 (tv_cmp (op_eqW C.u256) (ol_eqSumS dTxt) (fe_var 2 (hs := gives_v)) fe_str) (fun _ => (fv_ret 4 (T := (sv fBool)) (mk := fun r3 => r3) (fv_cmp op_eq ol_eqS (fv_ix ix_tup (ol_ixT (partS part1)) (fe_var 3 (hs := gives_v)) fe_int) fe_str) tk_v (fun _ _ => (.of rfl (Le.imp (.drop (.drop (.drop (.drop (.keep .nil)))))))))) (fs_ret 4 (T := (sv fBool)) (mk := fun r11 => r11) (fe_cmp (op_eqW C.u256) (fun _ _ => (ol_eqTrS dTxt 0)) (fe_var 3 (hs := gives_v)) (fe_tup (fa_cons (fe_unr (fe_var 2 (hs := gives_v))) (fa_cons fe_str fa_nil)) (to_c to_1) (szl (szc (szc sz0))))) tk_v (fun _ _ => (.of rfl (Le.imp (.drop (.drop (.drop (.drop (.keep .nil))))))))))))
abbrev st_law_spoilt : Stmt := top 46
theorem sc_law_spoilt : FnScope ["_law_image", "_law_numbers_here", "_law_place", "_law_sign", "_law_way", "_law_cut", "_law_many"] ["_law_image", "_law_numbers_here"] (defScope st_law_spoilt) := ⟨rfl, rfl, rfl, by decide +kernel, rfl, by decide +kernel, by decide +kernel⟩
theorem ok_law_spoilt (KX : K.In h) (GN : h.Ns mainGlobals mg) (c : Sy fa fn fx K) : Cal P w K mg base "_law_spoilt" ["_law_image", "_law_numbers_here"] 1 (spP K (fun (a : (List Nat) × (List (Int)) × Unit) => [(sv fTxt a.1), (bw (tL K fInt) a.2.1)]) (fun a => law_spoilt_m a.1 a.2.1) (sv fTxt)) := by
  obtain ⟨fd, F⟩ := c.def_ 31 (d := mkD "_law_spoilt" 46) rfl
  refine ⟨_, fd, (He.glo_ok KX GN (c.fact 56 (f := .glo "_law_spoilt") rfl)), F.kp, F.bindsN (fun _ _ _ _ _ _ us hl => match us, hl with | [_, _], _ => rfl), ?_⟩
  refine fn_def (bm := fun (a : (List Nat) × (List (Int)) × Unit) => law_spoilt_b a.1 a.2.1) (par := (fun (a : (List Nat) × (List (Int)) × Unit) (_ : Nat → V) => [(sv fTxt a.1), (bw (tL K fInt) a.2.1)])) (res := (sv fTxt)) (outs := (fun _ _ => [])) (Eh := (fun _ => eh0 8)) (cls := (fun e => e)) (outsE := (fun _ _ => [])) (R := (fun u r v => [none, none, none, none, none, none, none, some (pn v (sv fTxt r))])) (Nx := (fun u (s : Unit) => [none, none, none, none, none, none, none, none])) F sc_law_spoilt  6 none [7] [] [] (fun _ h => nomatch h) (fun _ _ => rfl) (by decide) (by decide) (fun _ _ => rfl) (fun _ _ _ => (.cons rfl .nil)) (fun _ h => nomatch h) (fun _ _ => .nil) (by decide) (fun cdv A outer s H E C a u => ?_)
  obtain ⟨p0, p1, _⟩ := a
  show FS _ _ _ _ [some (sv fTxt p0), some (bw (tL K fInt) p1), none, none, none, none, none, none] _ (law_spoilt_b p0 p1) _ _ _
  unfold law_spoilt_b
  exact (fs_set 2 (T := sv fInt) C.nd (fe_bin op_mod (fun _ _ => ol_modN) (fe_callTy call_int1 (fun _ => cl_int) (He.free_ok KX GN (c.fact 3 (f := .free "int") rfl)) (fa_cons (fv_ix ix_list ol_ixL (fe_var 1 (hs := gives_b)) fe_int) fa_nil)) (fv_bin op_add ol_I0 (fv_callB call_len cl_lenS (He.free_ok KX GN (c.fact 0 (f := .free "len") rfl)) (va_cons (fe_var 0 (hs := gives_v)) fa_nil)) fe_int)) tk_v fun v6 => (fs_set 3 (T := sv fTxt) C.nd (fe_ix ix_str (fun _ _ => ol_ixS) fe_str (fe_binr op_mod (fun _ => (ol_Ic (by decide))) (fe_callTy call_int1 (fun _ => cl_int) (He.free_ok KX GN (c.fact 3 (f := .free "int") rfl)) (fa_cons (fv_ix ix_list ol_ixL (fe_var 1 (hs := gives_b)) fe_int) fa_nil)) fe_int)) tk_v fun v13 => (fs_set 4 (T := sv fInt) C.nd (fe_binr op_mod (fun _ => (ol_Ic (by decide))) (fe_callTy call_int1 (fun _ => cl_int) (He.free_ok KX GN (c.fact 3 (f := .free "int") rfl)) (fa_cons (fv_ix ix_list ol_ixL (fe_var 1 (hs := gives_b)) fe_int) fa_nil)) fe_int) tk_v fun v18 => (fv_if1 (tv_cmp op_eq ol_eqI (fe_var 4 (hs := gives_v)) fe_int) (fun _ => (fs_ret 7 (T := (sv fTxt)) (mk := fun r21 => r21) (fe_bin op_add_str (fun _ _ => ol_cat) (fv_bin op_add_str ol_cat (fv_slice sl_str sp_str (fe_var 0 (hs := gives_v)) fo_none (vo_some (fe_var 2 (hs := gives_v)))) (fe_var 3 (hs := gives_v))) (fv_slice sl_str sp_str (fe_var 0 (hs := gives_v)) (vo_some (fv_bin op_add ol_I0 (fe_var 2 (hs := gives_v)) fe_int)) fo_none)) tk_v (fun _ _ => (.of rfl (Le.imp (.drop (.drop (.drop (.drop (.drop (.keep (.keep (.keep .nil))))))))))))) (fv_if1 (tv_cmp op_eq ol_eqI (fe_var 4 (hs := gives_v)) fe_int) (fun _ => (fs_ret 7 (T := (sv fTxt)) (mk := fun r22 => r22) (fv_bin op_add_str ol_cat (fv_slice sl_str sp_str (fe_var 0 (hs := gives_v)) fo_none (vo_some (fe_var 2 (hs := gives_v)))) (fv_slice sl_str sp_str (fe_var 0 (hs := gives_v)) (vo_some (fv_bin op_add ol_I0 (fe_var 2 (hs := gives_v)) fe_int)) fo_none)) tk_v (fun _ _ => (.of rfl (Le.imp (.drop (.drop (.drop (.drop (.drop (.keep (.keep (.keep .nil))))))))))))) (fv_if1 (tv_cmp op_eq ol_eqI (fe_var 4 (hs := gives_v)) fe_int) (fun _ => (fs_ret 7 (T := (sv fTxt)) (mk := fun r25 => r25) (fe_bin op_add_str (fun _ _ => ol_cat) (fv_bin op_add_str ol_cat (fv_slice sl_str sp_str (fe_var 0 (hs := gives_v)) fo_none (vo_some (fe_var 2 (hs := gives_v)))) (fe_var 3 (hs := gives_v))) (fv_slice sl_str sp_str (fe_var 0 (hs := gives_v)) (vo_some (fe_var 2 (hs := gives_v))) fo_none)) tk_v (fun _ _ => (.of rfl (Le.imp (.drop (.drop (.drop (.drop (.drop (.keep (.keep (.keep .nil))))))))))))) (fv_if1 (tv_cmp op_eq ol_eqI (fe_var 4 (hs := gives_v)) fe_int) (fun _ => (fv_ret 7 (T := (sv fTxt)) (mk := fun r26 => r26) (fv_slice sl_str sp_str (fe_var 0 (hs := gives_v)) (vo_some (fe_var 2 (hs := gives_v))) fo_none) tk_v (fun _ _ => (.of rfl (Le.imp (.drop (.drop (.drop (.drop (.drop (.keep (.keep (.keep .nil))))))))))))) (fv_if1 (tv_cmp op_eq ol_eqI (fe_var 4 (hs := gives_v)) fe_int) (fun _ => (fs_ret 7 (T := (sv fTxt)) (mk := fun r27 => r27) (fv_bin op_add_str ol_cat (fe_var 0 (hs := gives_v)) (fv_slice sl_str sp_str (fe_var 0 (hs := gives_v)) (vo_some (fe_var 2 (hs := gives_v))) fo_none)) tk_v (fun _ _ => (.of rfl (Le.imp (.drop (.drop (.drop (.drop (.drop (.keep (.keep (.keep .nil))))))))))))) (fs_set 5 (T := sv fInt) C.nd (fv_bm PySem.F.plainAttrs_str PySem.F.slot_str_find PySem.F.type_str_find mt_find ty_str ml_int1 (fe_var 0 (hs := gives_v)) (va_cons fe_str fa_nil)) tk_v fun v28 => (fs_set 6 (T := sv fInt) C.nd (fv_callTy call_int_str cl_intS (He.free_ok KX GN (c.fact 3 (f := .free "int") rfl)) (va_cons (fv_slice sl_str sp_str (fe_var 0 (hs := gives_v)) fo_none (vo_some (fe_var 5 (hs := gives_v)))) fa_nil)) tk_v fun v29 => (fv_if1 (tv_cmp op_eq ol_eqI (fe_var 4 (hs := gives_v)) fe_int) (fun _ => (fs_ret 7 (T := (sv fTxt)) (mk := fun r32 => r32) (fe_bin op_add_str (fun _ _ => ol_cat) (fv_callTy call_str_int cl_str (He.free_ok KX GN (c.fact 39 (f := .free "str") rfl)) (va_cons (fv_bin op_add ol_I0 (fe_var 6 (hs := gives_v)) fe_int) fa_nil)) (fv_slice sl_str sp_str (fe_var 0 (hs := gives_v)) (vo_some (fe_var 5 (hs := gives_v))) fo_none)) tk_v (fun _ _ => (.of rfl (Le.imp (.drop (.drop (.drop (.drop (.drop (.drop (.drop (.keep .nil))))))))))))) (fs_ret 7 (T := (sv fTxt)) (mk := fun r35 => r35) (fe_bin op_add_str (fun _ _ => ol_cat) (fv_callTy call_str_int cl_str (He.free_ok KX GN (c.fact 39 (f := .free "str") rfl)) (va_cons (fv_callB (call_max2 C.calm) cl_max2 (He.free_ok KX GN (c.fact 55 (f := .free "max") rfl)) (va_cons fe_int (va_cons (fv_bin op_sub ol_I0 (fe_var 6 (hs := gives_v)) fe_int) fa_nil))) fa_nil)) (fv_slice sl_str sp_str (fe_var 0 (hs := gives_v)) (vo_some (fe_var 5 (hs := gives_v))) fo_none)) tk_v (fun _ _ => (.of rfl (Le.imp (.drop (.drop (.drop (.drop (.drop (.drop (.drop (.keep .nil)))))))))))))))))))))))
abbrev st_Order_image : Stmt := meth 34 10
theorem sc_Order_image : FnScope ["self"] ["self"] (defScope st_Order_image) := ⟨rfl, rfl, rfl, by decide +kernel, rfl, by decide +kernel, by decide +kernel⟩
theorem ok_Order_image (KX : K.In h) (GN : h.Ns mainGlobals mg) (c : Sy fa fn fx K) : CalM P w K mg base (He.ga K "Order") "image" ["self"] 208 (spP K (fun (a : (Int × (Tr (List Nat)) × Int) × Unit) => [(bw (tBx (He.ga K "Order") (U_Order K)) a.1)]) (fun a => Order_image_m a.1) (sv fTxt)) := by
  obtain ⟨fd, F⟩ := c.def_ 32 (d := mkM "Order" "image" "Order.image" 34 10) rfl
  refine ⟨_, fd, He.meth_ok (c.fact 59 (f := .meth "Order" "image") rfl), F.bindsN (fun _ _ _ _ _ _ us hl => match us, hl with | [_], _ => rfl), ?_⟩
  refine fn_def (bm := fun (a : (Int × (Tr (List Nat)) × Int) × Unit) => Order_image_b a.1) (par := (fun (a : (Int × (Tr (List Nat)) × Int) × Unit) (_ : Nat → V) => [(bw (tBx (He.ga K "Order") (U_Order K)) a.1)])) (res := (sv fTxt)) (outs := (fun _ _ => [])) (Eh := (fun _ => eh0 5)) (cls := (fun e => e)) (outsE := (fun _ _ => [])) (R := (fun u r v => [none, some (pn v (sv fTxt r)), none, none, none])) (Nx := (fun u (s : Unit) => [none, none, none, none, none])) F sc_Order_image  4 none [1] [] [] (fun _ h => nomatch h) (fun _ _ => rfl) (by decide) (by decide) (fun _ _ => rfl) (fun _ _ _ => (.cons rfl .nil)) (fun _ h => nomatch h) (fun _ _ => .nil) (by decide) (fun cdv A outer s H E C a u => ?_)
  obtain ⟨p0, _⟩ := a
  show FS _ _ _ _ [some (bw (tB (He.ga K "Order")) [("seed", ce (tF fInt) p0.1), ("_tree", ce (tF (fTree K fTxt)) p0.2.1), ("_many", ce (tF fInt) p0.2.2)]), none, none, none, none] _ (Order_image_b p0) _ _ _
  unfold Order_image_b
  exact (fs_ret 1 (T := (sv fTxt)) (mk := fun r1 => r1) (fv_callC C (ok_tree_image KX GN c) (by decide) (ak_v ak_nil) rs_v (va_cons (fe_fldN 1 (fe_var 0 (hs := (gives_b (T := tB (He.ga K "Order")) (a := [("seed", ce (tF fInt) p0.1), ("_tree", ce (tF (fTree K fTxt)) p0.2.1), ("_many", ce (tF fInt) p0.2.2)])))) cg_v nd_Order (He.cls_ok (c.fact 57 (f := .cls "Order") rfl)) (He.noat_ok (c.fact 58 (f := .noat "Order" "_tree") rfl))) fa_nil)) tk_v (fun _ _ => (.of rfl (Le.imp (.drop (.keep (.keep (.keep (.keep .nil)))))))))
abbrev st_law_great : Stmt := top 53
theorem sc_law_great : FnScope ["_law_seed", "_law_many", "_law_rows", "_law_k"] ["_law_seed", "_law_many"] (defScope st_law_great) := ⟨rfl, rfl, rfl, by decide +kernel, rfl, by decide +kernel, by decide +kernel⟩
theorem ok_law_great (KX : K.In h) (GN : h.Ns mainGlobals mg) (c : Sy fa fn fx K) : Cal P w K mg base "_law_great" ["_law_seed", "_law_many"] 208 (spP K (fun (a : Int × Int × Unit) => [(sv fInt a.1), (sv fInt a.2.1)]) (fun a => law_great_m a.1 a.2.1) (sv fTxt)) := by
  obtain ⟨fd, F⟩ := c.def_ 33 (d := mkD "_law_great" 53) rfl
  refine ⟨_, fd, (He.glo_ok KX GN (c.fact 60 (f := .glo "_law_great") rfl)), F.kp, F.bindsN (fun _ _ _ _ _ _ us hl => match us, hl with | [_, _], _ => rfl), ?_⟩
  refine fn_def (bm := fun (a : Int × Int × Unit) => law_great_b a.1 a.2.1) (par := (fun (a : Int × Int × Unit) (_ : Nat → V) => [(sv fInt a.1), (sv fInt a.2.1)])) (res := (sv fTxt)) (outs := (fun _ _ => [])) (Eh := (fun _ => eh0 5)) (cls := (fun e => e)) (outsE := (fun _ _ => [])) (R := (fun u r v => [none, none, none, none, some (pn v (sv fTxt r))])) (Nx := (fun u (s : Unit) => [none, none, none, none, none])) F sc_law_great  3 none [4] [] [] (fun _ h => nomatch h) (fun _ _ => rfl) (by decide) (by decide) (fun _ _ => rfl) (fun _ _ _ => (.cons rfl .nil)) (fun _ h => nomatch h) (fun _ _ => .nil) (by decide) (fun cdv A outer s H E C a u => ?_)
  obtain ⟨p0, p1, _⟩ := a
  show FS _ _ _ _ [some (sv fInt p0), some (sv fInt p1), none, none, none] _ (law_great_b p0 p1) _ _ _
  unfold law_great_b
  exact (fv_setLcR 2 (E := (fTup K (tvc fTxt (tv1 fTxt)))) (own := [("_law_k", 3)]) (Gw := [some (sv fInt p0), some (sv fInt p1), none, none, none]) (c := fun (a1 : Int) => M.ok (true)) (f := fun (a1 : Int) => (((M.ok (([107] : List Nat))).bind fun x2 => (M.need (((1000 : Int) + a1).natAbs.log2 < 1920 ∧ tOk (strI ((1000 : Int) + a1))) (M.ok (strI ((1000 : Int) + a1)))).bind fun x3 => M.need (x2.length + x3.length ≤ sizeLine) (M.ok (x2 ++ x3))).bind fun x6 => ((M.need (a1.natAbs.log2 < 1920 ∧ tOk (strI a1)) (M.ok (strI a1))).bind fun x4 => (M.ok ()).bind fun y5 => M.ok (x4, y5)).bind fun y7 => M.ok (x6, y7)).bind fun a8 => M.ok (a8.1, a8.2.1)) C (He.free_ok KX GN (c.fact 1 (f := .free "range") rfl)) (fe_var 1 (hs := gives_v)) (.of rfl (Le.imp (.keep (.keep (.keep (.keep (.keep .nil))))))) (hw_of rfl) (blkOk_by (N := ["_law_seed", "_law_many", "_law_rows", "_law_k"]) (sc := defScope st_law_great) (by decide +kernel)) (fun sq9 Hq9 Cq9 lq9 fq9 => (fg_name 3 (C.blk _ sq9 Hq9 Cq9 lq9 fq9).nd)) (fun a1 sq9 Hq9 Cq9 lq9 fq9 => fts_nil) (fun a1 sq9 Hq9 Cq9 lq9 fq9 => (fe_tup (fa_cons (fe_bin op_add_str (fun _ _ => ol_cat) fe_str (fv_callTy call_str_int cl_str (He.free_ok KX GN (c.fact 39 (f := .free "str") rfl)) (va_cons (fv_bin op_add ol_I0 fe_int (fe_var 3 (hs := gives_v))) fa_nil))) (fa_cons (fv_callTy call_str_int cl_str (He.free_ok KX GN (c.fact 39 (f := .free "str") rfl)) (va_cons (fe_var 3 (hs := gives_v)) fa_nil)) fa_nil)) (to_c to_1) (szl (szc (szc sz0))))) fun v10 => (fs_ret 4 (T := (sv fTxt)) (mk := fun r18 => r18) (fe_bin op_add_str (fun _ _ => ol_cat) (fe_bin op_add_str (fun _ _ => ol_cat) (fv_callTy call_str_int cl_str (He.free_ok KX GN (c.fact 39 (f := .free "str") rfl)) (va_cons (fe_var 1 (hs := gives_v)) fa_nil)) fe_str) (fe_callC C (ok_law_nodes KX GN c) (by decide) (ak_v ak_nil) rs_v (fa_cons (fv_callC C (ok_law_tree KX GN c) (by decide) (ak_v (ak_b ak_nil)) rs_v (va_cons (fe_var 0 (hs := gives_v)) (va_cons (fe_var 2 (hs := gives_o)) fa_nil))) fa_nil))) tk_v (fun _ _ => (.of rfl (Le.imp (.drop (.drop (.drop (.keep (.keep .nil))))))))))
abbrev st_Order_init : Stmt := meth 34 0
theorem sc_Order_init : FnScope ["self", "seed"] ["self", "seed"] (defScope st_Order_init) := ⟨rfl, rfl, rfl, by decide +kernel, rfl, by decide +kernel, by decide +kernel⟩
theorem ok_Order_init (KX : K.In h) (GN : h.Ns mainGlobals mg) (c : Sy fa fn fx K) : CalI P w K mg base (He.ga K "Order") "Order" ["self", "seed"] 1 (spI K (He.ga K "Order") (U_Order K) (fun (a : Int × Unit) => [(sv fInt a.1)]) (fun a => Order_init_m a.1)) := by
  obtain ⟨fd, F⟩ := c.def_ 34 (d := mkM "Order" "__init__" "Order.__init__" 34 0) rfl
  refine ⟨_, fd, He.mkr_ok (c.fact 63 (f := .mkr "Order") rfl), (He.glo_ok KX GN (c.fact 64 (f := .glo "Order") rfl)), F.bindsN (fun _ _ _ _ _ _ us hl => match us, hl with | [_, _], _ => rfl), ?_⟩
  refine fn_def (bm := fun (a : Int × Unit) => Order_init_b a.1) (par := (fun (a : Int × Unit) (u : Nat → V) => ((pn (u 0) (ob (tB (He.ga K "Order")) [])) :: [(sv fInt a.1)]))) (res := (fun (_ : (Int × (Tr (List Nat)) × Int)) => sv fUnit ())) (outs := (fun (r : (Int × (Tr (List Nat)) × Int)) (u : Nat → V) => [((u 0), ob (tBx (He.ga K "Order") (U_Order K)) r)])) (Eh := (fun _ => eh0 6)) (cls := (fun e => e)) (outsE := (fun _ _ => [])) (R := (fun u r v => [some (pn (u 0) (bx (He.ga K "Order") [("seed", ce (tF fInt) r.1), ("_tree", ce (tF (fTree K fTxt)) r.2.1), ("_many", ce (tF fInt) r.2.2)])), none, some (pn v (sv fUnit ())), none, none, none])) (Nx := (fun u (s : (Int × (Tr (List Nat)) × Int)) => [some (pn (u 0) (bx (He.ga K "Order") [("seed", ce (tF fInt) s.1), ("_tree", ce (tF (fTree K fTxt)) s.2.1), ("_many", ce (tF fInt) s.2.2)])), none, none, none, none, none])) F sc_Order_init  4 (some fun (s : (Int × (Tr (List Nat)) × Int)) => s) [2, 0] [0] [] (fun _ h _ _ _ _ => by cases h; exact ⟨rfl, rfl⟩) (fun _ _ => rfl) (by decide) (by decide) (fun _ _ => rfl) (fun _ _ _ => (.cons rfl (.cons rfl .nil))) (fun _ h _ _ => by cases h; exact (.cons rfl .nil)) (fun _ _ => .nil) (by decide) (fun cdv A outer s H E C a u => ?_)
  obtain ⟨p1, _⟩ := a
  show FS _ _ _ _ [some (pn (u 0) (bx (He.ga K "Order") [])), some (sv fInt p1), none, none, none, none] _ (Order_init_b p1) _ _ _
  unfold Order_init_b
  exact (fs_fldI (q := (u 0)) (C := (He.ga K "Order")) (l := []) (c := (ce (tF fInt))) (names := []) 0 (fe_var 0 (hs := gives_V)) (fe_var 1 (hs := gives_v)) tc_v (by decide +kernel) (He.cls_ok (c.fact 57 (f := .cls "Order") rfl)) (He.noat_ok (c.fact 62 (f := .noat "Order" "seed") rfl)) fun v1 => (fs_re (G1 := [some (pn (u 0) (bx (He.ga K "Order") [("seed", ce (tF fInt) v1)])), some (sv fInt p1), none, none, none, none]) (fs_fldI (q := (u 0)) (C := (He.ga K "Order")) (l := [("seed", ce (tF fInt) v1)]) (c := (ce (tF (fTree K fTxt)))) (names := ["seed"]) 0 (fe_var 0 (hs := gives_V)) (fv_trE fe_none) tc_v (by decide +kernel) (He.cls_ok (c.fact 57 (f := .cls "Order") rfl)) (He.noat_ok (c.fact 58 (f := .noat "Order" "_tree") rfl)) fun v2 => (fs_re (G1 := [some (pn (u 0) (bx (He.ga K "Order") [("seed", ce (tF fInt) v1), ("_tree", ce (tF (fTree K fTxt)) v2)])), some (sv fInt p1), none, none, none, none]) (fs_fldI (q := (u 0)) (C := (He.ga K "Order")) (l := [("seed", ce (tF fInt) v1), ("_tree", ce (tF (fTree K fTxt)) v2)]) (c := (ce (tF fInt))) (names := ["seed", "_tree"]) 0 (fe_var 0 (hs := gives_V)) fe_int tc_v (by decide +kernel) (He.cls_ok (c.fact 57 (f := .cls "Order") rfl)) (He.noat_ok (c.fact 61 (f := .noat "Order" "_many") rfl)) fun v3 => (fs_re (G1 := [some (pn (u 0) (bx (He.ga K "Order") [("seed", ce (tF fInt) v1), ("_tree", ce (tF (fTree K fTxt)) v2), ("_many", ce (tF fInt) v3)])), some (sv fInt p1), none, none, none, none]) (fs_nil (.of rfl (Le.imp (.keep (.drop (.keep (.keep (.keep (.keep .nil)))))))))))))))
abbrev st_Order_adopt : Stmt := meth 34 12
theorem sc_Order_adopt : FnScope ["self", "tree"] ["self", "tree"] (defScope st_Order_adopt) := ⟨rfl, rfl, rfl, by decide +kernel, rfl, by decide +kernel, by decide +kernel⟩
theorem ok_Order_adopt (KX : K.In h) (GN : h.Ns mainGlobals mg) (c : Sy fa fn fx K) : CalM P w K mg base (He.ga K "Order") "adopt" ["self", "tree"] 208 (spG K (fun (a : (Int × (Tr (List Nat)) × Int) × (Tr (List Nat)) × Unit) (u : Nat → V) => [(pn (u 0) (ob (tBx (He.ga K "Order") (U_Order K)) a.1)), (sv (fTree K fTxt) a.2.1)]) (fun a => Order_adopt_m a.1 a.2.1) (fun (_ : (Int × (Tr (List Nat)) × Int)) => sv fUnit ()) (fun (r : (Int × (Tr (List Nat)) × Int)) (u : Nat → V) => [((u 0), ob (tBx (He.ga K "Order") (U_Order K)) r)]) (fun e => e.1) (fun (e : Er × (Int × (Tr (List Nat)) × Int)) (u : Nat → V) => [((u 0), ob (tBx (He.ga K "Order") (U_Order K)) e.2)])) := by
  obtain ⟨fd, F⟩ := c.def_ 35 (d := mkM "Order" "adopt" "Order.adopt" 34 12) rfl
  refine ⟨_, fd, He.meth_ok (c.fact 65 (f := .meth "Order" "adopt") rfl), F.bindsN (fun _ _ _ _ _ _ us hl => match us, hl with | [_, _], _ => rfl), ?_⟩
  refine fn_def (bm := fun (a : (Int × (Tr (List Nat)) × Int) × (Tr (List Nat)) × Unit) => Order_adopt_b a.1 a.2.1) (par := (fun (a : (Int × (Tr (List Nat)) × Int) × (Tr (List Nat)) × Unit) (u : Nat → V) => [(pn (u 0) (ob (tBx (He.ga K "Order") (U_Order K)) a.1)), (sv (fTree K fTxt) a.2.1)])) (res := (fun (_ : (Int × (Tr (List Nat)) × Int)) => sv fUnit ())) (outs := (fun (r : (Int × (Tr (List Nat)) × Int)) (u : Nat → V) => [((u 0), ob (tBx (He.ga K "Order") (U_Order K)) r)])) (Eh := (fun u => (⟨fun e => e.1, fun e => [some (pn (u 0) (bx (He.ga K "Order") [("seed", ce (tF fInt) e.2.1), ("_tree", ce (tF (fTree K fTxt)) e.2.2.1), ("_many", ce (tF fInt) e.2.2.2)])), none, none, none, none, none]⟩ : EH (Er × (Int × (Tr (List Nat)) × Int))))) (cls := (fun e => e.1)) (outsE := (fun (e : Er × (Int × (Tr (List Nat)) × Int)) (u : Nat → V) => [((u 0), ob (tBx (He.ga K "Order") (U_Order K)) e.2)])) (R := (fun u r v => [some (pn (u 0) (bx (He.ga K "Order") [("seed", ce (tF fInt) r.1), ("_tree", ce (tF (fTree K fTxt)) r.2.1), ("_many", ce (tF fInt) r.2.2)])), none, some (pn v (sv fUnit ())), none, none, none])) (Nx := (fun u (s : (Int × (Tr (List Nat)) × Int)) => [some (pn (u 0) (bx (He.ga K "Order") [("seed", ce (tF fInt) s.1), ("_tree", ce (tF (fTree K fTxt)) s.2.1), ("_many", ce (tF fInt) s.2.2)])), none, none, none, none, none])) F sc_Order_adopt  4 (some fun (s : (Int × (Tr (List Nat)) × Int)) => s) [2, 0] [0] [0] (fun _ h _ _ _ _ => by cases h; exact ⟨rfl, rfl⟩) (fun _ _ => rfl) (by decide) (by decide) (fun _ _ => rfl) (fun _ _ _ => (.cons rfl (.cons rfl .nil))) (fun _ h _ _ => by cases h; exact (.cons rfl .nil)) (fun _ _ => (.cons rfl .nil)) (by decide) (fun cdv A outer s H E C a u => ?_)
  obtain ⟨p0, p1, _⟩ := a
  show FS _ _ _ _ [some (pn (u 0) (bx (He.ga K "Order") [("seed", ce (tF fInt) p0.1), ("_tree", ce (tF (fTree K fTxt)) p0.2.1), ("_many", ce (tF fInt) p0.2.2)])), some (sv (fTree K fTxt) p1), none, none, none, none] _ (Order_adopt_b p0 p1) _ _ _
  unfold Order_adopt_b
  exact (fs_fldN (q := (u 0)) (C := (He.ga K "Order")) (l := [("seed", ce (tF fInt) p0.1), ("_tree", ce (tF (fTree K fTxt)) p0.2.1), ("_many", ce (tF fInt) p0.2.2)]) (c := (ce (tF (fTree K fTxt)))) (p := (fun e => (e, p0))) (hp := ⟨fun _ => rfl, fun _ => (.of rfl (Le.imp (.keep (.drop (.keep (.keep (.keep (.keep .nil))))))))⟩) 0 1 (fe_var 0 (hs := gives_V)) (fe_var 1 (hs := gives_v)) tc_v nd_Order (He.cls_ok (c.fact 57 (f := .cls "Order") rfl)) (He.noat_ok (c.fact 58 (f := .noat "Order" "_tree") rfl)) fun v1 => (fs_re (G1 := [some (pn (u 0) (bx (He.ga K "Order") [("seed", ce (tF fInt) p0.1), ("_tree", ce (tF (fTree K fTxt)) v1), ("_many", ce (tF fInt) p0.2.2)])), some (sv (fTree K fTxt) p1), none, none, none, none]) (fs_fldN (q := (u 0)) (C := (He.ga K "Order")) (l := [("seed", ce (tF fInt) p0.1), ("_tree", ce (tF (fTree K fTxt)) v1), ("_many", ce (tF fInt) p0.2.2)]) (c := (ce (tF fInt))) (p := (fun e => (e, (p0.1, v1, p0.2.2)))) (hp := ⟨fun _ => rfl, fun _ => (.of rfl (Le.imp (.keep (.drop (.keep (.keep (.keep (.keep .nil))))))))⟩) 0 2 (fe_var 0 (hs := gives_V)) (fe_callB call_len (fun _ => cl_lenL) (He.free_ok KX GN (c.fact 0 (f := .free "len") rfl)) (fa_cons (fe_borrow (fv_callC C (ok_tree_entries KX GN c) (by decide) (ak_v ak_nil) rs_o (va_cons (fe_var 1 (hs := gives_v)) fa_nil))) fa_nil)) tc_v nd_Order (He.cls_ok (c.fact 57 (f := .cls "Order") rfl)) (He.noat_ok (c.fact 61 (f := .noat "Order" "_many") rfl)) fun v5 => (fs_re (G1 := [some (pn (u 0) (bx (He.ga K "Order") [("seed", ce (tF fInt) p0.1), ("_tree", ce (tF (fTree K fTxt)) v1), ("_many", ce (tF fInt) v5)])), some (sv (fTree K fTxt) p1), none, none, none, none]) (fs_nil (.of rfl (Le.imp (.keep (.drop (.keep (.keep (.keep (.keep .nil)))))))))))))
abbrev st_load_order : Stmt := top 35
theorem sc_load_order : FnScope ["seed", "image", "order"] ["seed", "image"] (defScope st_load_order) := ⟨rfl, rfl, rfl, by decide +kernel, rfl, by decide +kernel, by decide +kernel⟩
theorem ok_load_order (KX : K.In h) (GN : h.Ns mainGlobals mg) (c : Sy fa fn fx K) : Cal P w K mg base "load_order" ["seed", "image"] 210 (spP K (fun (a : Int × (List Nat) × Unit) => [(sv fInt a.1), (sv fTxt a.2.1)]) (fun a => load_order_m a.1 a.2.1) (ob (tBx (He.ga K "Order") (U_Order K)))) := by
  obtain ⟨fd, F⟩ := c.def_ 36 (d := mkD "load_order" 35) rfl
  refine ⟨_, fd, (He.glo_ok KX GN (c.fact 66 (f := .glo "load_order") rfl)), F.kp, F.bindsN (fun _ _ _ _ _ _ us hl => match us, hl with | [_, _], _ => rfl), ?_⟩
  refine fn_def (bm := fun (a : Int × (List Nat) × Unit) => load_order_b a.1 a.2.1) (par := (fun (a : Int × (List Nat) × Unit) (_ : Nat → V) => [(sv fInt a.1), (sv fTxt a.2.1)])) (res := (ob (tBx (He.ga K "Order") (U_Order K)))) (outs := (fun _ _ => [])) (Eh := (fun _ => eh0 7)) (cls := (fun e => e)) (outsE := (fun _ _ => [])) (R := (fun u r v => [none, none, none, some (pn v (bx (He.ga K "Order") [("seed", ce (tF fInt) r.1), ("_tree", ce (tF (fTree K fTxt)) r.2.1), ("_many", ce (tF fInt) r.2.2)])), none, none, none])) (Nx := (fun u (s : Unit) => [none, none, none, none, none, none, none])) F sc_load_order  5 none [3] [] [] (fun _ h => nomatch h) (fun _ _ => rfl) (by decide) (by decide) (fun _ _ => rfl) (fun _ _ _ => (.cons rfl .nil)) (fun _ h => nomatch h) (fun _ _ => .nil) (by decide) (fun cdv A outer s H E C a u => ?_)
  obtain ⟨p0, p1, _⟩ := a
  show FS _ _ _ _ [some (sv fInt p0), some (sv fTxt p1), none, none, none, none, none] _ (load_order_b p0 p1) _ _ _
  unfold load_order_b
  exact (fs_set 2 (T := fun (v9 : (Int × (Tr (List Nat)) × Int)) => (bx (He.ga K "Order") [("seed", ce (tF fInt) v9.1), ("_tree", ce (tF (fTree K fTxt)) v9.2.1), ("_many", ce (tF fInt) v9.2.2)])) C.nd (fe_make C (ok_Order_init KX GN c) (by decide) (ak_v ak_nil) (va_cons (fe_var 0 (hs := gives_v)) fa_nil)) tk_o fun v1 => (fs_pin 2 rfl fun V2 => (fx_expr (fx_meth (A := fun (_ : (Int × (Tr (List Nat)) × Int)) (_ : Hp) (v : V) => v = .non) (names := nm_Order) (g := fun a5 => (v1, a5.1, ())) (ks := [2]) (kt := [2]) (kte := [2]) (κ := [some 2, none]) (w := (fun | 0 => V2 | _ => .non)) (q := (fun (e8 : Er × (Int × (Tr (List Nat)) × Int)) => e8.1)) 2 C (ok_Order_adopt KX GN c) (by decide) (He.cls_ok (c.fact 57 (f := .cls "Order") rfl)) rfl (by decide +kernel) rfl (gives_o (T := (tBx (He.ga K "Order") (U_Order K))) (a := v1)) (fe_var 2 (hs := gives_V)) (fa_cons (fv_callC C (ok_tree_from_image KX GN c) (by decide) (ak_v (ak_v ak_nil)) rs_v (va_cons (fe_var 0 (hs := gives_v)) (va_cons (fe_var 1 (hs := gives_v)) fa_nil))) fa_nil) (ag_cons (ag_p (q := V2) (T := (bx (He.ga K "Order") [("seed", ce (tF fInt) v1.1), ("_tree", ce (tF (fTree K fTxt)) v1.2.1), ("_many", ce (tF fInt) v1.2.2)])) 2 rfl) (ag_cons ag_v ag_nil)) ⟨own_all rfl, by decide, by decide, fun _ => (.pin rfl .nil), by decide, by decide, fun _ => (.pin rfl .nil), by decide, fun _ => rfl, (fun _ => Le.imp (Le.none rfl))⟩ (fun r Y F H v ms h => h.1)) fun z7 _ => (fs_re (G1 := [some (sv fInt p0), some (sv fTxt p1), some (pn V2 (bx (He.ga K "Order") [("seed", ce (tF fInt) z7.1), ("_tree", ce (tF (fTree K fTxt)) z7.2.1), ("_many", ce (tF fInt) z7.2.2)])), none, none, none, none]) (fs_retM 2 3 (fe_var 2 (hs := gives_V)) rfl (.of rfl (Le.imp (.drop (.drop (.keep (.keep (.keep (.keep (.keep .nil))))))))))))))
abbrev st_law_size : Stmt := top 52
theorem sc_law_size : FnScope ["_law_tree_here"] ["_law_tree_here"] (defScope st_law_size) := ⟨rfl, rfl, rfl, by decide +kernel, rfl, by decide +kernel, by decide +kernel⟩
theorem okn_law_size (KX : K.In h) (GN : h.Ns mainGlobals mg) (c : Sy fa fn fx K) : ∀ n : Nat, Cal P w K mg base "_law_size" ["_law_tree_here"] (1 + n) (spP K (fun (a : (Tr (List Nat)) × Unit) => [(sv (fTree K fTxt) a.1)]) (fun a => law_size_f n a.1) (sv fInt))
  | 0 => by
    obtain ⟨fd, F⟩ := c.def_ 37 (d := mkD "_law_size" 52) rfl
    refine ⟨_, fd, (He.glo_ok KX GN (c.fact 67 (f := .glo "_law_size") rfl)), F.kp, F.bindsN (fun _ _ _ _ _ _ us hl => match us, hl with | [_], _ => rfl), ?_⟩
    refine fn_def (bm := fun (_ : (Tr (List Nat)) × Unit) => none) (par := (fun (a : (Tr (List Nat)) × Unit) (_ : Nat → V) => [(sv (fTree K fTxt) a.1)])) (res := (sv fInt)) (outs := (fun _ _ => [])) (Eh := (fun _ => eh0 2)) (cls := (fun e => e)) (outsE := (fun _ _ => [])) (R := (fun u r v => [none, some (pn v (sv fInt r))])) (Nx := (fun u (s : Unit) => [none, none])) F sc_law_size (k := 0) 1 none [1] [] [] (fun _ h => nomatch h) (fun _ _ => rfl) (by decide) (by decide) (fun _ _ => rfl) (fun _ _ _ => (.cons rfl .nil)) (fun _ h => nomatch h) (fun _ _ => .nil) (by decide) (fun cdv A outer s H E C a u => ?_)
    exact PSs.weak pss_never fun D σ H ⟨B, F, T⟩ => T.ne rfl
  | n + 1 => by
    have ih := okn_law_size KX GN c n
    obtain ⟨fd, F⟩ := c.def_ 37 (d := mkD "_law_size" 52) rfl
    refine ⟨_, fd, (He.glo_ok KX GN (c.fact 67 (f := .glo "_law_size") rfl)), F.kp, F.bindsN (fun _ _ _ _ _ _ us hl => match us, hl with | [_], _ => rfl), ?_⟩
    refine fn_def (bm := fun (a : (Tr (List Nat)) × Unit) => law_size_b (law_size_f n) a.1) (par := (fun (a : (Tr (List Nat)) × Unit) (_ : Nat → V) => [(sv (fTree K fTxt) a.1)])) (res := (sv fInt)) (outs := (fun _ _ => [])) (Eh := (fun _ => eh0 2)) (cls := (fun e => e)) (outsE := (fun _ _ => [])) (R := (fun u r v => [none, some (pn v (sv fInt r))])) (Nx := (fun u (s : Unit) => [none, none])) F sc_law_size (k := 1 + n) 1 none [1] [] [] (fun _ h => nomatch h) (fun _ _ => rfl) (by decide) (by decide) (fun _ _ => rfl) (fun _ _ _ => (.cons rfl .nil)) (fun _ h => nomatch h) (fun _ _ => .nil) (by decide) (fun cdv A outer s H E C a u => ?_)
    obtain ⟨p0, _⟩ := a
    show FS _ _ _ _ [some (sv (fTree K fTxt) p0), none] _ (law_size_b (law_size_f n) p0) _ _ _
    unfold law_size_b
    exact (fv_if1 (tv_cmp op_isN ol_isTr (fe_var 0 (hs := gives_v)) fe_none) (fun _ => (fv_ret 1 (T := (sv fInt)) (mk := fun r1 => r1) fe_int tk_v (fun _ _ => (.of rfl (Le.imp (.drop (.keep .nil))))))) (fs_ret 1 (T := (sv fInt)) (mk := fun r12 => r12) (fe_bin op_add (fun _ _ => ol_I0) (fe_bin op_add (fun _ _ => ol_I0) fe_int (fe_callC C ih (by omega) (ak_v ak_nil) rs_v (fa_cons (fv_ix ix_tup ol_trL (fe_var 0 (hs := gives_v)) fe_int) fa_nil))) (fe_callC C ih (by omega) (ak_v ak_nil) rs_v (fa_cons (fv_ix ix_tup ol_trR (fe_var 0 (hs := gives_v)) fe_int) fa_nil))) tk_v (fun _ _ => (.of rfl (Le.imp (.drop (.keep .nil)))))))
theorem ok_law_size (KX : K.In h) (GN : h.Ns mainGlobals mg) (c : Sy fa fn fx K) : Cal P w K mg base "_law_size" ["_law_tree_here"] 206 (spP K (fun (a : (Tr (List Nat)) × Unit) => [(sv (fTree K fTxt) a.1)]) (fun a => law_size_m a.1) (sv fInt)) := by
  exact okn_law_size KX GN c 205
abbrev st_law : Stmt := top 55
theorem sc_law : FnScope ["_law_script", "_law_seed", "_law_fill", "_law_content", "_law_spoils", "_law_k", "_law_numbers_here", "_law_tree_here", "_law_key_here", "_law_rows", "_law_due_here", "_law_image", "_law_odd_here", "_law_empty"] ["_law_script"] (defScope st_law) := ⟨rfl, rfl, rfl, by decide +kernel, rfl, by decide +kernel, by decide +kernel⟩
theorem ok_law (KX : K.In h) (GN : h.Ns mainGlobals mg) (c : Sy fa fn fx K) : ∃ fd : FuncData, (∀ (s : Shared) (v : Value), BindsTo s fd ⟨[v], []⟩ [("_law_script", v)]) ∧ ∀ base : Heap, FnOk P w K mg base (L2N.CX P w) 212 (He.ga K "law") fd ["_law_script"] (spP K (fun (a : (List (Int)) × Unit) => [(bw (tL K fInt) a.1)]) (fun a => law_m a.1) (sv fBool)) := by
  obtain ⟨fd, F⟩ := c.def_ 38 (d := mkD "law" 55) rfl
  refine ⟨fd, fun s v => (FunD.bindsA (ps := ["_law_script"]) F fun _ _ _ _ _ _ us hl => match us, hl with | [_], _ => rfl) s [v] rfl, fun base => ?_⟩
  refine fn_def (bm := fun (a : (List (Int)) × Unit) => law_b a.1) (par := (fun (a : (List (Int)) × Unit) (_ : Nat → V) => [(bw (tL K fInt) a.1)])) (res := (sv fBool)) (outs := (fun _ _ => [])) (Eh := (fun _ => eh0 15)) (cls := (fun e => e)) (outsE := (fun _ _ => [])) (R := (fun u r v => [none, none, none, none, none, none, none, none, none, none, none, none, none, none, some (pn v (sv fBool r))])) (Nx := (fun u (s : Unit) => [none, none, none, none, none, none, none, none, none, none, none, none, none, none, none])) F sc_law  14 none [14] [] [] (fun _ h => nomatch h) (fun _ _ => rfl) (by decide) (by decide) (fun _ _ => rfl) (fun _ _ _ => (.cons rfl .nil)) (fun _ h => nomatch h) (fun _ _ => .nil) (by decide) (fun cdv A outer s H E C a u => ?_)
  obtain ⟨p0, _⟩ := a
  show FS _ _ _ _ [some (bw (tL K fInt) p0), none, none, none, none, none, none, none, none, none, none, none, none, none, none] _ (law_b p0) _ _ _
  unfold law_b
  exact (fs_set 1 (T := sv fInt) C.nd (fe_binr op_mod (fun _ => (ol_Ic (by decide))) (fe_callTy call_int1 (fun _ => cl_int) (He.free_ok KX GN (c.fact 3 (f := .free "int") rfl)) (fa_cons (fv_callC C (ok_law_cell KX GN c) (by decide) (ak_b (ak_v ak_nil)) rs_v (va_cons (fe_var 0 (hs := gives_b)) (va_cons fe_int fa_nil))) fa_nil)) fe_int) tk_v fun v5 => (fs_set 2 (T := sv fTxt) C.nd (fe_ix ix_str (fun _ _ => ol_ixS) fe_str (fe_binr op_mod (fun _ => (ol_Ic (by decide))) (fe_binr op_fdiv (fun _ => (ol_Ic ⟨by decide, by decide⟩)) (fv_callC C (ok_law_cell KX GN c) (by decide) (ak_b (ak_v ak_nil)) rs_v (va_cons (fe_var 0 (hs := gives_b)) (va_cons fe_int fa_nil))) fe_int) fe_int)) tk_v fun v10 => (fs_set 3 (T := ob (tD kT fTxt)) C.nd fe_dnew tk_o fun v11 => (fs_set 4 (T := ob (tL K (fLst K fInt))) C.nd fe_nil tk_o fun v12 => (fs_pin 3 rfl fun V13 => (fs_pin 4 rfl fun V14 => (fs_seq (N1 := (fun (s46 : (List ((List Nat) × (List Nat))) × (List (List (Int)))) => [some (bw (tL K fInt) p0), some (sv fInt v5), some (sv fTxt v10), some (pn V13 (ob (tD kT fTxt) s46.1)), some (pn V14 (ob (tL K (fLst K fInt)) s46.2)), none, none, none, none, none, none, none, none, none, none])) (ps_forR2 (Gs := (fun (s15 : (List ((List Nat) × (List Nat))) × (List (List (Int)))) => [some (bw (tL K fInt) p0), some (sv fInt v5), some (sv fTxt v10), some (pn V13 (ob (tD kT fTxt) s15.1)), some (pn V14 (ob (tL K (fLst K fInt)) s15.2)), none, none, none, none, none, none, none, none, none, none])) (tl' := [5, 6, 3, 4]) (x0 := (v11, v12)) C (He.free_ok KX GN (c.fact 1 (f := .free "range") rfl)) fe_int (fv_callB (call_max2 C.calm) cl_max2 (He.free_ok KX GN (c.fact 55 (f := .free "max") rfl)) (va_cons fe_int (va_cons (fv_callB (call_min2 C.calm) cl_min2 (He.free_ok KX GN (c.fact 68 (f := .free "min") rfl)) (va_cons (fv_callB call_len cl_lenL (He.free_ok KX GN (c.fact 0 (f := .free "len") rfl)) (va_cons (fe_var 0 (hs := gives_b)) fa_nil)) (va_cons fe_int fa_nil))) fa_nil))) (.of rfl (Le.imp (.keep (.keep (.keep (.keep (.keep (.keep (.keep (.keep (.keep (.keep (.keep (.keep (.keep (.keep (.keep .nil))))))))))))))))) (fg_name 5 C.nd) (fun s15 a16 => (fs_set 6 (T := ob (tL K fInt)) C.nd (fe_callC C (ok_law_numbers KX GN c) (by decide) (ak_v (ak_v (ak_v ak_nil))) rs_o (fa_cons (fv_callC C (ok_law_cell KX GN c) (by decide) (ak_b (ak_v ak_nil)) rs_v (va_cons (fe_var 0 (hs := gives_b)) (va_cons (fe_var 5 (hs := gives_v)) fa_nil))) (fa_cons (fe_var 5 (hs := gives_v)) (fa_cons fe_int fa_nil)))) tk_o fun v24 => (fs_dput (j := 3) (T := kT) (A := fTxt) (d := s15.1) C rfl (fe_var 3 (hs := gives_V)) (fe_callC C (ok_law_value KX GN c) (by decide) (ak_v ak_nil) rs_v (fa_cons (fv_ix ix_list ol_ixL (fe_var 6 (hs := gives_o)) fe_int) fa_nil)) (fe_callC C (ok_law_key KX GN c) (by decide) (ak_v (ak_v ak_nil)) rs_v (fa_cons (fv_ix ix_list ol_ixL (fe_var 6 (hs := gives_o)) fe_int) (fa_cons (fe_var 2 (hs := gives_v)) fa_nil))) fun k34 v33 => (fs_dput (j := 3) (T := kT) (A := fTxt) (d := (dput s15.1 k34 v33)) C rfl (fe_var 3 (hs := gives_V)) (fe_callC C (ok_law_value KX GN c) (by decide) (ak_v ak_nil) rs_v (fa_cons (fv_ix ix_list ol_ixL (fe_var 6 (hs := gives_o)) fe_int) fa_nil)) (fe_callC C (ok_law_key KX GN c) (by decide) (ak_v (ak_v ak_nil)) rs_v (fa_cons (fv_ix ix_list ol_ixL (fe_var 6 (hs := gives_o)) fe_int) (fa_cons fe_str fa_nil))) fun k44 v43 => (fs_app 4 (A := (fLst K fInt)) (as := s15.2) rfl (fe_var 4 (hs := gives_V)) (fe_freeze (fv_slice sl_list sp_list (fe_var 6 (hs := gives_o)) (vo_some fe_int) (vo_some fe_int))) fun v45 => (fs_nil (.of rfl (Le.imp (.keep (.keep (.keep (.keep (.keep (.drop (.drop (.keep (.keep (.keep (.keep (.keep (.keep (.keep (.keep .nil)))))))))))))))))))))))) fun s46 => (fs_set 7 (T := sv (fTree K fTxt)) C.nd (fv_trE fe_none) tk_v fun v47 => (fs_pin 0 rfl fun V48 => (fs_seq (N1 := (fun (s63 : (Tr (List Nat))) => [some (pn V48 (bw (tL K fInt) p0)), some (sv fInt v5), some (sv fTxt v10), some (pn V13 (ob (tD kT fTxt) s46.1)), some (pn V14 (ob (tL K (fLst K fInt)) s46.2)), none, none, some (sv (fTree K fTxt) s63), none, none, none, none, none, none, none])) (ps_lendP (Eh1 := (eh0 15)) (R1 := (fun r v => [none, none, none, none, none, none, none, none, none, none, none, none, none, none, some (pn v (sv fBool r))])) (N1 := (fun (s63 : (Tr (List Nat))) => [some (pn V48 (bw (tL K fInt) p0)), some (sv fInt v5), some (sv fTxt v10), some (pn V13 (bw (tD kT fTxt) s46.1)), some (pn V14 (ob (tL K (fLst K fInt)) s46.2)), none, none, some (sv (fTree K fTxt) s63), none, none, none, none, none, none, none])) (Gb1 := fun _ => []) 3 rfl (ps_forD (Gs := (fun (s49 : (Tr (List Nat))) => [some (pn V48 (bw (tL K fInt) p0)), some (sv fInt v5), some (sv fTxt v10), some (pn V13 (bw (tD kT fTxt) s46.1)), some (pn V14 (ob (tL K (fLst K fInt)) s46.2)), none, none, some (sv (fTree K fTxt) s49), none, none, none, none, none, none, none])) (tl' := [8, 7]) (x0 := v47) (T := kT) (Bv := fTxt) (d := s46.1) 3 C di_keys ds_b (dp_keys (fe_var 3 (hs := gives_V))) rfl (.of rfl (Le.imp (.keep (.keep (.keep (.keep (.keep (.keep (.keep (.keep (.keep (.keep (.keep (.keep (.keep (.keep (.keep .nil))))))))))))))))) (fg_name 8 C.nd) (fun W' C => (fun s49 a50 => (fs_set 7 (T := sv (fTree K fTxt)) C.nd (fe_callC C (ok_put_entry KX GN c) (by decide) (ak_v (ak_v (ak_v (ak_v ak_nil)))) rs_v (fa_cons (fe_var 1 (hs := gives_v)) (fa_cons (fe_var 7 (hs := gives_v)) (fa_cons (fe_var 8 (hs := gives_v)) (fa_cons (fe_dget (T := kT) (A := fTxt) C (fe_var 3 (hs := (gives_pn gives_b))) (fe_var 8 (hs := gives_v))) fa_nil))))) tk_v fun v62 => (fs_nil (.of rfl (Le.imp (.keep (.keep (.keep (.keep (.keep (.keep (.keep (.keep (.drop (.keep (.keep (.keep (.keep (.keep (.keep .nil)))))))))))))))))))))) (fun _ => rfl) (fun _ _ => (.skip (.skip (.skip (.skip (.skip (.skip (.skip (.skip (.skip (.skip (.skip (.skip (.skip (.skip (.yf (fun _ _ _ _ _ _ h => h) .nil)))))))))))))))) (fun _ => forL_nobk _ _ _) (fun _ => (.same (.yf (fun _ _ _ _ _ _ h => h) (.yf (fun _ _ _ _ _ _ h => h) (.back (.yf (fun _ _ _ _ _ _ h => h) (.skip (.skip (.yf (fun _ _ _ _ _ _ h => h) (.skip (.skip (.skip (.skip (.skip (.skip (.skip .nil)))))))))))))))) (fun _ => Bk0.none rfl rfl) (fun _ => ⟨_, rfl⟩)) fun s63 => (fs_setLcL 9 (E := (fTup K (tvc fTxt (tv1 fTxt)))) (A := fTxt) (own := [("_law_key_here", 8)]) (Gw := [some (pn V48 (bw (tL K fInt) p0)), some (sv fInt v5), some (sv fTxt v10), some (pn V13 (ob (tD kT fTxt) s46.1)), some (pn V14 (ob (tL K (fLst K fInt)) s46.2)), none, none, some (sv (fTree K fTxt) s63), none, none, none, none, none, none, none]) (c := fun (a64 : List Nat) => M.ok (true)) (f := fun (a64 : List Nat) => ((M.ok (a64)).bind fun x69 => (((M.ok (s46.1)).bind fun d65 => (M.ok (a64)).bind fun k66 => oget (dget d65 k66)).bind fun x67 => (M.ok ()).bind fun y68 => M.ok (x67, y68)).bind fun y70 => M.ok (x69, y70)).bind fun a71 => M.ok (a71.1, a71.2.1)) C (fe_borrow (fv_callB (call_sortedDA C.calm) cl_sortDA (He.free_ok KX GN (c.fact 52 (f := .free "sorted") rfl)) (va_cons (fe_var 3 (hs := (gives_pn gives_o))) fa_nil))) (.of rfl (Le.imp (.keep (.keep (.keep (.keep (.keep (.keep (.keep (.keep (.keep (.keep (.keep (.keep (.keep (.keep (.keep .nil))))))))))))))))) (hw_of rfl) (blkOk_by (N := ["_law_script", "_law_seed", "_law_fill", "_law_content", "_law_spoils", "_law_k", "_law_numbers_here", "_law_tree_here", "_law_key_here", "_law_rows", "_law_due_here", "_law_image", "_law_odd_here", "_law_empty"]) (sc := defScope st_law) (by decide +kernel)) (fun sq72 Hq72 Cq72 lq72 fq72 => (fg_name 8 (C.blk _ sq72 Hq72 Cq72 lq72 fq72).nd)) (fun a64 sq72 Hq72 Cq72 lq72 fq72 => fts_nil) (fun a64 sq72 Hq72 Cq72 lq72 fq72 => (fe_tup (fa_cons (fe_var 8 (hs := gives_v)) (fa_cons (fe_dget (T := kT) (A := fTxt) (C.blk _ sq72 Hq72 Cq72 lq72 fq72) (fe_var 3 (hs := (gives_pn gives_o))) (fe_var 8 (hs := gives_v))) fa_nil)) (to_c to_1) (szl (szc (szc sz0))))) fun v73 => (fs_set 10 (T := sv (fTree K fTxt)) C.nd (fv_callC C (ok_law_tree KX GN c) (by decide) (ak_v (ak_b ak_nil)) rs_v (va_cons (fe_var 1 (hs := gives_v)) (va_cons (fe_var 9 (hs := gives_o)) fa_nil))) tk_v fun v74 => (fs_set 11 (T := sv fTxt) C.nd (fe_bin op_add_str (fun _ _ => ol_cat) (fe_bin op_add_str (fun _ _ => ol_cat) (fv_callTy call_str_int cl_str (He.free_ok KX GN (c.fact 39 (f := .free "str") rfl)) (va_cons (fv_callB call_len cl_lenL (He.free_ok KX GN (c.fact 0 (f := .free "len") rfl)) (va_cons (fe_var 9 (hs := gives_o)) fa_nil)) fa_nil)) fe_str) (fv_callC C (ok_law_nodes KX GN c) (by decide) (ak_v ak_nil) rs_v (va_cons (fe_var 10 (hs := gives_v)) fa_nil))) tk_v fun v79 => (fs_if1 (fw_t (fw_or (ft_cmp op_ne (fun _ _ => ol_neS) (fv_callC C (ok_tree_image KX GN c) (by decide) (ak_v ak_nil) rs_v (va_cons (fe_var 7 (hs := gives_v)) fa_nil)) (fe_var 11 (hs := gives_v))) (fw_or1 (tv_cmp (op_neW C.u256) (ol_neTrW dTxt 0) (fe_var 7 (hs := gives_v)) (fe_var 10 (hs := gives_v)))))) (fun _ => (fv_ret 14 (T := (sv fBool)) (mk := fun r83 => r83) fe_bool tk_v (fun _ _ => (.of rfl (Le.imp (.drop (.drop (.drop (.drop (.drop (.keep (.keep (.drop (.keep (.drop (.drop (.drop (.keep (.keep (.keep .nil)))))))))))))))))))) (fs_seq (N1 := (fun (s116 : Unit) => [some (pn V48 (bw (tL K fInt) p0)), some (sv fInt v5), some (sv fTxt v10), some (pn V13 (ob (tD kT fTxt) s46.1)), some (pn V14 (ob (tL K (fLst K fInt)) s46.2)), none, none, some (sv (fTree K fTxt) s63), none, some (ob (tL K (fTup K (tvc fTxt (tv1 fTxt)))) v73), some (sv (fTree K fTxt) v74), some (sv fTxt v79), none, none, none])) (pv_forF (Gs := (fun (s84 : Unit) => [some (pn V48 (bw (tL K fInt) p0)), some (sv fInt v5), some (sv fTxt v10), some (pn V13 (ob (tD kT fTxt) s46.1)), some (pn V14 (ob (tL K (fLst K fInt)) s46.2)), none, none, some (sv (fTree K fTxt) s63), none, some (ob (tL K (fTup K (tvc fTxt (tv1 fTxt)))) v73), some (sv (fTree K fTxt) v74), some (sv fTxt v79), none, none, none])) (tl' := [6]) (x0 := ()) (A := (fLst K fInt)) (l := fun _ => s46.2) C (fe_var 4 (hs := gives_V)) (src_p 4 ls_o (fun _ => rfl)) (.of rfl (Le.imp (.keep (.keep (.keep (.keep (.keep (.keep (.keep (.keep (.keep (.keep (.keep (.keep (.keep (.keep (.keep .nil))))))))))))))))) (fg_name 6 C.nd) (fun s84 a85 => (fs_if1 (ft_not (ft_val (fe_callC C (ok_law_told KX GN c) (by decide) (ak_v (ak_v ak_nil)) rs_v (fa_cons (fe_var 1 (hs := gives_v)) (fa_cons (fv_callC C (ok_law_spoilt KX GN c) (by decide) (ak_v (ak_b ak_nil)) rs_v (va_cons (fe_var 11 (hs := gives_v)) (va_cons (fe_read (fe_var 6 (hs := gives_v))) fa_nil))) fa_nil))))) (fun _ => (fv_ret 14 (T := (sv fBool)) (mk := fun r92 => r92) fe_bool tk_v (fun _ _ => (.of rfl (Le.imp (.drop (.drop (.drop (.drop (.drop (.keep (.drop (.drop (.keep (.drop (.drop (.drop (.keep (.keep (.keep .nil)))))))))))))))))))) (fs_if1 (ft_not (ft_val (fe_callC C (ok_law_told KX GN c) (by decide) (ak_v (ak_v ak_nil)) rs_v (fa_cons (fe_binr op_mod (fun _ => (ol_Ic (by decide))) (fe_callTy call_int1 (fun _ => cl_int) (He.free_ok KX GN (c.fact 3 (f := .free "int") rfl)) (fa_cons (fe_bin op_add (fun _ _ => ol_I0) (fv_bin op_add ol_I0 (fe_var 1 (hs := gives_v)) fe_int) (fv_ix ix_list ol_ixL (fe_read (fe_var 6 (hs := gives_v))) fe_int)) fa_nil)) fe_int) (fa_cons (fe_var 11 (hs := gives_v)) fa_nil))))) (fun _ => (fv_ret 14 (T := (sv fBool)) (mk := fun r105 => r105) fe_bool tk_v (fun _ _ => (.of rfl (Le.imp (.drop (.drop (.drop (.drop (.drop (.keep (.drop (.drop (.keep (.drop (.drop (.drop (.keep (.keep (.keep .nil)))))))))))))))))))) (fs_ifend (fw_t (fw_or (ft_cmp (op_neW C.u256) (fun _ _ => (ol_neTrW dTxt 0)) (fv_callC C (ok_tree_from_image KX GN c) (by decide) (ak_v (ak_v ak_nil)) rs_v (va_cons (fe_var 1 (hs := gives_v)) (va_cons (fe_var 11 (hs := gives_v)) fa_nil))) (fe_var 10 (hs := gives_v))) (fw_or1 (ft_cmp op_ne (fun _ _ => ol_neS) (fe_methB0 (names := nm_Order) C (ok_Order_image KX GN c) (by decide) (He.cls_ok (c.fact 57 (f := .cls "Order") rfl)) (fun _ => rfl) (by decide +kernel) (ak_b ak_nil) rs_v (fe_borrow (fv_callC C (ok_load_order KX GN c) (by decide) (ak_v (ak_v ak_nil)) rs_o (va_cons (fe_var 1 (hs := gives_v)) (va_cons (fe_var 11 (hs := gives_v)) fa_nil))))) (fe_var 11 (hs := gives_v)))))) (fv_ret 14 (T := (sv fBool)) (mk := fun r112 => r112) fe_bool tk_v (fun _ _ => (.of rfl (Le.imp (.drop (.drop (.drop (.drop (.drop (.keep (.drop (.drop (.keep (.drop (.drop (.drop (.keep (.keep (.keep .nil))))))))))))))))))) (fs_nil (.of rfl (Le.imp (.keep (.keep (.keep (.keep (.keep (.keep (.drop (.keep (.keep (.keep (.keep (.keep (.keep (.keep (.keep .nil))))))))))))))))))))))) fun s116 => (fs_seq (N1 := (fun (s144 : Unit) => [some (pn V48 (bw (tL K fInt) p0)), some (sv fInt v5), some (sv fTxt v10), some (pn V13 (ob (tD kT fTxt) s46.1)), some (pn V14 (ob (tL K (fLst K fInt)) s46.2)), none, none, some (sv (fTree K fTxt) s63), none, some (ob (tL K (fTup K (tvc fTxt (tv1 fTxt)))) v73), some (sv (fTree K fTxt) v74), some (sv fTxt v79), none, none, none])) (ps_forF (Gs := (fun (s127 : Unit) => [some (pn V48 (bw (tL K fInt) p0)), some (sv fInt v5), some (sv fTxt v10), some (pn V13 (ob (tD kT fTxt) s46.1)), some (pn V14 (ob (tL K (fLst K fInt)) s46.2)), none, none, some (sv (fTree K fTxt) s63), none, some (ob (tL K (fTup K (tvc fTxt (tv1 fTxt)))) v73), some (sv (fTree K fTxt) v74), some (sv fTxt v79), none, none, none])) (tl' := [12]) (x0 := ()) (A := (fTree K fTxt)) C (fe_freeze (fe_callC C (ok_law_odd KX GN c) (by decide) (ak_v (ak_v ak_nil)) rs_o (fa_cons (fe_var 10 (hs := gives_v)) (fa_cons (fv_callC C (ok_law_tree KX GN c) (by decide) (ak_v (ak_b ak_nil)) rs_v (va_cons (fv_bin op_mod (ol_Ic (by decide)) (fv_callTy call_int1 cl_int (He.free_ok KX GN (c.fact 3 (f := .free "int") rfl)) (va_cons (fv_bin op_add ol_I0 (fe_var 1 (hs := gives_v)) fe_int) fa_nil)) fe_int) (va_cons (fe_borrow (fv_slice sl_list sp_list (fe_var 9 (hs := gives_o)) fo_none (vo_some fe_int))) fa_nil))) fa_nil)))) src_f (.of rfl (Le.imp (.keep (.keep (.keep (.keep (.keep (.keep (.keep (.keep (.keep (.keep (.keep (.keep (.keep (.keep (.keep .nil))))))))))))))))) (fg_name 12 C.nd) (fun s127 a128 => (fs_ifend (ft_not (ft_val (fe_callC C (ok_law_told KX GN c) (by decide) (ak_v (ak_v ak_nil)) rs_v (fa_cons (fe_var 1 (hs := gives_v)) (fa_cons (fe_bin op_add_str (fun _ _ => ol_cat) (fe_bin op_add_str (fun _ _ => ol_cat) (fe_callTy call_str_int (fun _ => cl_str) (He.free_ok KX GN (c.fact 39 (f := .free "str") rfl)) (fa_cons (fv_callC C (ok_law_size KX GN c) (by decide) (ak_v ak_nil) rs_v (va_cons (fe_var 12 (hs := gives_v)) fa_nil)) fa_nil)) fe_str) (fv_callC C (ok_law_nodes KX GN c) (by decide) (ak_v ak_nil) rs_v (va_cons (fe_var 12 (hs := gives_v)) fa_nil))) fa_nil))))) (fv_ret 14 (T := (sv fBool)) (mk := fun r142 => r142) fe_bool tk_v (fun _ _ => (.of rfl (Le.imp (.drop (.drop (.drop (.drop (.drop (.keep (.keep (.drop (.keep (.drop (.drop (.drop (.drop (.keep (.keep .nil))))))))))))))))))) (fs_nil (.of rfl (Le.imp (.keep (.keep (.keep (.keep (.keep (.keep (.keep (.keep (.keep (.keep (.keep (.keep (.drop (.keep (.keep .nil))))))))))))))))))))) fun s144 => (fs_seq (N1 := (fun (s149 : Unit) => [some (pn V48 (bw (tL K fInt) p0)), some (sv fInt v5), some (sv fTxt v10), some (pn V13 (ob (tD kT fTxt) s46.1)), some (pn V14 (ob (tL K (fLst K fInt)) s46.2)), none, none, some (sv (fTree K fTxt) s63), none, some (ob (tL K (fTup K (tvc fTxt (tv1 fTxt)))) v73), some (sv (fTree K fTxt) v74), some (sv fTxt v79), none, none, none])) (ps_ifj (ft_cmp op_eq (fun _ _ => ol_eqI) (fe_binr op_mod (fun _ => (ol_Ic (by decide))) (fe_binr op_fdiv (fun _ => (ol_Ic ⟨by decide, by decide⟩)) (fv_callC C (ok_law_cell KX GN c) (by decide) (ak_b (ak_v ak_nil)) rs_v (va_cons (fe_var 0 (hs := (gives_pn gives_b))) (va_cons fe_int fa_nil))) fe_int) fe_int) fe_int) (fs_ifend (fw_t (fw_or (ft_not (ft_val (fe_callC C (ok_law_told KX GN c) (by decide) (ak_v (ak_v ak_nil)) rs_v (fa_cons (fe_var 1 (hs := gives_v)) (fa_cons (fv_callC C (ok_law_great KX GN c) (by decide) (ak_v (ak_v ak_nil)) rs_v (va_cons (fe_var 1 (hs := gives_v)) (va_cons fe_int fa_nil))) fa_nil))))) (fw_or1 (ft_cmp op_ne (fun _ _ => ol_neS) (fe_ixr ix_tup (fun _ => ol_ixT (partS part1)) (fe_callC C (ok_law_read KX GN c) (by decide) (ak_v (ak_v ak_nil)) rs_v (fa_cons (fe_var 1 (hs := gives_v)) (fa_cons (fv_callC C (ok_law_great KX GN c) (by decide) (ak_v (ak_v ak_nil)) rs_v (va_cons (fe_var 1 (hs := gives_v)) (va_cons fe_int fa_nil))) fa_nil))) fe_int) fe_str)))) (fv_ret 14 (T := (sv fBool)) (mk := fun r165 => r165) fe_bool tk_v (fun _ _ => (.of rfl (Le.imp (.drop (.drop (.drop (.drop (.drop (.keep (.keep (.drop (.keep (.drop (.drop (.drop (.keep (.keep (.keep .nil))))))))))))))))))) (fs_nil (.of rfl (Le.imp (.keep (.keep (.keep (.keep (.keep (.keep (.keep (.keep (.keep (.keep (.keep (.keep (.keep (.keep (.keep .nil))))))))))))))))))) (fs_nil (.of rfl (Le.imp (.keep (.keep (.keep (.keep (.keep (.keep (.keep (.keep (.keep (.keep (.keep (.keep (.keep (.keep (.keep .nil))))))))))))))))))) fun s149 => (fs_set 13 (T := sv (fTup K (tvc (fTree K fTxt) (tv1 fTxt)))) C.nd (fv_callC C (ok_law_read KX GN c) (by decide) (ak_v (ak_v ak_nil)) rs_v (va_cons (fe_var 1 (hs := gives_v)) (va_cons fe_str fa_nil))) tk_v fun v168 => (fs_ret 14 (T := (sv fBool)) (mk := fun r173 => r173) (fe_and (fv_cmp (op_eqW C.u256) (ol_eqTrS dTxt 0) (fe_var 13 (hs := gives_v)) (fv_tup (va_cons (fv_trE fe_none) (va_cons fe_str fa_nil)) (to_c to_1) (szl (szc (szc sz0))))) (fe_one (fe_cmp op_eq (fun _ _ => ol_eqS) (fe_ixr ix_tup (fun _ => ol_ixT (partS part1)) (fv_callC C (ok_law_read KX GN c) (by decide) (ak_v (ak_v ak_nil)) rs_v (va_cons (fe_var 1 (hs := gives_v)) (va_cons fe_str fa_nil))) fe_int) fe_str))) tk_v (fun _ _ => (.of rfl (Le.imp (.drop (.drop (.drop (.drop (.drop (.keep (.keep (.drop (.keep (.drop (.drop (.drop (.keep (.drop (.keep .nil)))))))))))))))))))))))))))))))))))))
end
end Pf
namespace Pf
open PySem PySem.Spec PyProof.Rows L2 LK
theorem law_end {P : Program} {w : World} {K : PySem.W.Frag} {mg : Str → Option Value} {h : Heap} (KX : K.In h) (GN : h.Ns mainGlobals mg) (c : Sy fa fn fx K) {f : Addr} (hfa : mg ("law" : Str) = some (.ref f)) :
    ∃ fd : FuncData, (∀ (s : Shared) (v : Value), BindsTo s fd ⟨[v], []⟩ [("_law_script", v)]) ∧ ∀ base : Heap, K.In base → base.Ns mainGlobals mg → FnOk P w K mg base CX0 212 f fd ["_law_script"] (spLaw K) := by
  have e := hfa.symm.trans (He.glo_ok KX GN (c.fact 69 (f := .glo "law") rfl))
  cases e
  obtain ⟨fd, hb, hF⟩ := ok_law (P := P) (w := w) KX GN c
  exact ⟨fd, hb, fun base _ _ => law_ok (mir := law_m) (hF base) law_true⟩
end Pf
open PySem PySem.W PySem.Calls PyProof.Rows
theorem PySem.Challenge.cw_lethe_k17_images_of_trees_holds : PySem.Challenge.rw_lethe_k17_images_of_trees.Holds := by
  w_on; o_law
  refine HandSHeadRun.head_any (r := Pf.RwZ) (q := view Pf.RwZ.prog [55]) (H := Pf.hkZ) (ob := Pf.obZ) (M := 20000) (loose := Pf.loose) (d := HandSHeadRun.topDef Pf.RwZ.prog 55) (kwd := []) Pf.obZ_eq
    (by kernel_rfl) (fun s => by kernel_rfl) Pf.runZ (by kernel_rfl) (by kernel_rfl) (by kernel_rfl) (by rfl) (by first | assumption | decide +kernel) (by decide +kernel) ⟨rfl, rfl, rfl, rfl, rfl, by decide +kernel⟩ ?hw ?hc
  case hw => w_witness2
  case hc =>
    refine L2.walk_ofE (l := PySem.Challenge.rw_lethe_k17_images_of_trees) (n := 63) (k := 212) (x := "_law_script") (CX := L2.CX0) rfl (by decide) (by kernel_rfl) ⟨rfl, by decide, by decide⟩ ?F (fun _ _ _ _ z => z)
    intro w mg fa h Y G hmg0
    obtain ⟨K, KX, c0⟩ := Y
    have c : LK.Sy Pf.fa Pf.fn Pf.fx K := ⟨c0.t.d, c0.more⟩
    have hmg : mg ("law" : PySem.Str) = some (.ref fa) := by
      have e : (HandSHeadRun.topDef Pf.RwZ.prog 55).name = ("law" : PySem.Str) := by kernel_rfl
      rw [← e]
      exact hmg0
    obtain ⟨fd, hb, hF⟩ := Pf.law_end (P := (PySem.Challenge.rw_lethe_k17_images_of_trees).prog) (w := w) KX G c hmg
    exact ⟨K, fd, LK.spLaw K, KX, hb, fun H a ns hl _ hS => ⟨a, ns, rfl, hS, hl, fun _ => rfl⟩, hF⟩
