import PyProof.Rows.All
import Wide.All
import OpenK.AllK
import Wide.FinOn
import HandS.ForMost
import HandS.Lambda
import HandS.Style
import HandS.ForSpec
import HandS.Deep
import HandS.IsInst
import HandS.Conv
import HandS.TupLe
import HandS.Exc
import KE.SortKeyHeap
import HandS.More
import HandS.CallSlots
import HandS.Iter
import HandS.Walk
import KE.GoesMore
import HandS.TryOnly
import HandS.SetFor
import HandS.Strs
import HandS.WordsExc
import HandS.EndTab
import PySem.Challenge.RW_marksheaf_k33_whole_marks_more_and_fewer
set_option Elab.async false
set_option linter.all false
set_option maxRecDepth 100000
set_option autoImplicit false
namespace VI
open PySem PySem.Spec PyProof.Rows L2

/-- data: a flag says «mine alone, may be changed» -/
inductive D where
  | non | bl (b : Bool) | int (i : Int) | str (s : List Nat)
  | tup (xs : List D)
  | lst (m : Bool) (xs : List D)
  | dic (m : Bool) (kvs : List (Key × D))
  | dit (m : Bool) (kvs : List (List Key × D))
  | ins (C : Str) (fs : List (Str × D))
  | scr (ns : List Int)
  deriving Inhabited

abbrev ST (l : List Nat) : Str := ⟨l.toArray⟩
/-- signs -/
def okCs (l : List Nat) : Bool := l.all fun c => decide (c < 0x110000)
/-- a key's signs -/
def okK : Key → Bool
  | .inl _ => true
  | .inr x => okCs x.cps.toList
def okKs (k : List Key) : Bool := k.all okK

mutual
def D.pure : D → Bool
  | .non => true | .bl _ => true | .int _ => true | .str _ => true | .scr _ => true
  | .tup xs => pureL xs
  | .lst m xs => !m && pureL xs
  | .dic m kvs => !m && pureK kvs
  | .dit m kvs => !m && pureT kvs
  | .ins _ _ => false
def pureL : List D → Bool
  | [] => true
  | x :: xs => x.pure && pureL xs
def pureK : List (Key × D) → Bool
  | [] => true
  | (_, x) :: xs => x.pure && pureK xs
def pureT : List (List Key × D) → Bool
  | [] => true
  | (_, x) :: xs => x.pure && pureT xs
end

mutual
def D.frz : D → D
  | .tup xs => .tup (frzL xs)
  | .lst _ xs => .lst false (frzL xs)
  | .dic _ kvs => .dic false (frzK kvs)
  | .dit _ kvs => .dit false (frzT kvs)
  | .ins C fs => .ins C fs
  | .non => .non | .bl b => .bl b | .int i => .int i | .str s => .str s | .scr s => .scr s
def frzL : List D → List D
  | [] => []
  | x :: xs => x.frz :: frzL xs
def frzK : List (Key × D) → List (Key × D)
  | [] => []
  | (k, x) :: xs => (k, x.frz) :: frzK xs
def frzT : List (List Key × D) → List (List Key × D)
  | [] => []
  | (k, x) :: xs => (k, x.frz) :: frzT xs
end

mutual
/-- frozen data: it lies in the frozen part F -/
inductive Fz (K : PySem.W.Frag) (F : Hp) : V → D → Prop
  | non : Fz K F .non .non
  | bl (b : Bool) : Fz K F (.bl b) (.bl b)
  | int (i : Int) : Fz K F (.int i) (.int i)
  | str (l : List Nat) (h : okCs l = true) : Fz K F (.str ⟨l.toArray⟩) (.str l)
  | tup {a : Addr} {vs : List V} {ds : List D} : F a = some (.tup vs) → FzL K F vs ds → Fz K F (.ref a) (.tup ds)
  | lst {a : Addr} {vs : List V} {ds : List D} : F a = some (.lst vs) → FzL K F vs ds → Fz K F (.ref a) (.lst false ds)
  | dic {a : Addr} {o : Obj} {vs : List (Key × V)} {ds : List (Key × D)} : F a = some (.frz o (.dK vs)) → FzK K F vs ds → Fz K F (.ref a) (.dic false ds)
  | dit {a : Addr} {o : Obj} {vs : List (List Key × V)} {ds : List (List Key × D)} : F a = some (.frz o (.dT vs)) → FzT K F vs ds → Fz K F (.ref a) (.dit false ds)
  | scr {a : Addr} {ns : List Int} : SqL K F a (ns.map V.int) → Fz K F (.ref a) (.scr ns)
inductive FzL (K : PySem.W.Frag) (F : Hp) : List V → List D → Prop
  | nil : FzL K F [] []
  | cons {v d vs ds} : Fz K F v d → FzL K F vs ds → FzL K F (v :: vs) (d :: ds)
inductive FzK (K : PySem.W.Frag) (F : Hp) : List (Key × V) → List (Key × D) → Prop
  | nil : FzK K F [] []
  | cons {k v d vs ds} : okK k = true → Fz K F v d → FzK K F vs ds → FzK K F ((k, v) :: vs) ((k, d) :: ds)
inductive FzT (K : PySem.W.Frag) (F : Hp) : List (List Key × V) → List (List Key × D) → Prop
  | nil : FzT K F [] []
  | cons {k v d vs ds} : okKs k = true → Fz K F v d → FzT K F vs ds → FzT K F ((k, v) :: vs) ((k, d) :: ds)
end

/-- which objects are tables of code objects, and the one name that each tells -/
class Tn where
  tns : List (Addr × Str)
  uniq : ∀ p ∈ tns, ∀ q ∈ tns, p.1 = q.1 → p.2 = q.2
variable [Tn]
def Tn.tn (P : Addr) (q : Str) : Prop := (P, q) ∈ Tn.tns
/-- what may be owned -/
def Mtb : HO → Prop
  | .lst _ => True
  | .dK _ => True
  | .dT _ => True
  | .set _ _ => True
  | .ins _ _ _ => True
  | _ => False
theorem Mtb.mut {u : HO} (h : Mtb u) : Mut (some u) := by
  cases u <;> first | exact True.intro | exact h.elim
theorem Mtb.ntbl {u : HO} (h : Mtb u) : ∀ ps, u ≠ .tbl ps := fun ps z => by rw [z] at h; exact h
theorem Mtb.next {u : HO} (h : Mtb u) : ∀ φ, u ≠ .ext φ := fun ps z => by rw [z] at h; exact h
abbrev AS := Addr → Prop
def no : AS := fun _ => False
def cup (A B : AS) : AS := fun a => A a ∨ B a
def Dj (A B : AS) : Prop := ∀ a, A a → ¬ B a
def Sb (A B : AS) : Prop := ∀ a, A a → B a
theorem Dj.no_l {A : AS} : Dj no A := fun _ h => h.elim
theorem Dj.no_r {A : AS} : Dj A no := fun _ _ h => h
theorem Dj.symm {A B : AS} (h : Dj A B) : Dj B A := fun a b c => h a c b
theorem Sb.rfl' {A : AS} : Sb A A := fun _ h => h
theorem Sb.no_l {A : AS} : Sb no A := fun _ h => h.elim
theorem Sb.l {A B : AS} : Sb A (cup A B) := fun _ h => .inl h
theorem Sb.r {A B : AS} : Sb B (cup A B) := fun _ h => .inr h
theorem Sb.trans {A B C : AS} (h : Sb A B) (h' : Sb B C) : Sb A C := fun a x => h' a (h a x)
theorem Dj.sub {A B A' B' : AS} (h : Dj A B) (h1 : Sb A' A) (h2 : Sb B' B) : Dj A' B' := fun a x y => h a (h1 a x) (h2 a y)

mutual
/-- data that may have parts of its own: their addresses lie in A -/
inductive Own (K : PySem.W.Frag) (mg : Str → Option Value) (F H : Hp) : V → D → AS → Prop
  | fz {v d A} : Fz K F v d → Own K mg F H v d A
  | lst {a : Addr} {vs : List V} {ds : List D} {A B : AS} : H a = some (.lst vs) → A a → ¬ B a → Sb B A → OwnL K mg F H vs ds B → Own K mg F H (.ref a) (.lst true ds) A
  | dic {a : Addr} {vs : List (Key × V)} {ds : List (Key × D)} {A B : AS} : H a = some (.dK vs) → A a → ¬ B a → Sb B A → OwnK K mg F H vs ds B → Own K mg F H (.ref a) (.dic true ds) A
  | dit {a : Addr} {vs : List (List Key × V)} {ds : List (List Key × D)} {A B : AS} : H a = some (.dT vs) → A a → ¬ B a → Sb B A → OwnT K mg F H vs ds B → Own K mg F H (.ref a) (.dit true ds) A
  | ins {a C dx : Addr} {c : Str} {vs : List (Str × V)} {ds : List (Str × D)} {A B : AS} : mg c = some (.ref C) → H a = some (.ins C dx vs) → A a → ¬ B a → Sb B A → OwnF K mg F H vs ds B → Own K mg F H (.ref a) (.ins c ds) A
inductive OwnL (K : PySem.W.Frag) (mg : Str → Option Value) (F H : Hp) : List V → List D → AS → Prop
  | nil {A} : OwnL K mg F H [] [] A
  | cons {v d vs ds A1 A2 A} : Own K mg F H v d A1 → OwnL K mg F H vs ds A2 → Dj A1 A2 → Sb A1 A → Sb A2 A → OwnL K mg F H (v :: vs) (d :: ds) A
inductive OwnK (K : PySem.W.Frag) (mg : Str → Option Value) (F H : Hp) : List (Key × V) → List (Key × D) → AS → Prop
  | nil {A} : OwnK K mg F H [] [] A
  | cons {k v d vs ds A1 A2 A} : okK k = true → Own K mg F H v d A1 → OwnK K mg F H vs ds A2 → Dj A1 A2 → Sb A1 A → Sb A2 A → OwnK K mg F H ((k, v) :: vs) ((k, d) :: ds) A
inductive OwnT (K : PySem.W.Frag) (mg : Str → Option Value) (F H : Hp) : List (List Key × V) → List (List Key × D) → AS → Prop
  | nil {A} : OwnT K mg F H [] [] A
  | cons {k v d vs ds A1 A2 A} : okKs k = true → Own K mg F H v d A1 → OwnT K mg F H vs ds A2 → Dj A1 A2 → Sb A1 A → Sb A2 A → OwnT K mg F H ((k, v) :: vs) ((k, d) :: ds) A
inductive OwnF (K : PySem.W.Frag) (mg : Str → Option Value) (F H : Hp) : List (Str × V) → List (Str × D) → AS → Prop
  | nil {A} : OwnF K mg F H [] [] A
  | cons {k v d vs ds A1 A2 A} : Own K mg F H v d A1 → OwnF K mg F H vs ds A2 → Dj A1 A2 → Sb A1 A → Sb A2 A → OwnF K mg F H ((k, v) :: vs) ((k, d) :: ds) A
end

/-- the slots -/
inductive Slots (K : PySem.W.Frag) (mg : Str → Option Value) (F H : Hp) : L2.St → List (Option D) → AS → Prop
  | nil {A} : Slots K mg F H [] [] A
  | skip {s σ ρ A} : Slots K mg F H σ ρ A → Slots K mg F H (s :: σ) (none :: ρ) A
  | cons {v d σ ρ A1 A2 A} : Own K mg F H v d A1 → Slots K mg F H σ ρ A2 → Dj A1 A2 → Sb A1 A → Sb A2 A → Slots K mg F H (some v :: σ) (some d :: ρ) A

/-- the frozen part stands in the heap; what is owned stands outside it -/
structure Wd (F H : Hp) (A : AS) : Prop where
  same : Same F H
  own : ∀ a, A a → F a = none ∧ ∃ u, H a = some u ∧ Mtb u
  tab : ∀ P q, Tn.tn P q → LamX.TabS H P q
  nof : ∀ a ps, F a ≠ some (.tbl ps)

/-- what a step that owns A may do -/
structure Ext (F H : Hp) (A : AS) (F' H' : Hp) (A' : AS) : Prop where
  fsame : Same F F'
  wd : Wd F' H' A'
  keep : ∀ a o, H a = some o → ¬ A a → (∀ ps, o ≠ .tbl ps) → H' a = some o
  tkeep : ∀ a ps, H a = some (.tbl ps) → ∃ ps', H' a = some (.tbl ps')
  fnew : ∀ a, F' a ≠ none → F a ≠ none ∨ H a = none ∨ A a ∨ ∃ vs, H a = some (.tup vs)
  anew : ∀ a, A' a → A a ∨ H a = none

theorem Wd.sub {F H : Hp} {A B : AS} (w : Wd F H A) (h : Sb B A) : Wd F H B := ⟨w.same, fun a x => w.own a (h a x), w.tab, w.nof⟩
theorem Wd.no {F H : Hp} {A : AS} (w : Wd F H A) : Wd F H no := w.sub Sb.no_l
theorem Ext.refl {F H : Hp} {A : AS} (w : Wd F H A) : Ext F H A F H A := ⟨fun _ _ e => e, w, fun _ _ e _ _ => e, fun _ ps e => ⟨ps, e⟩, fun _ h => .inl h, fun _ h => .inl h⟩
theorem Ext.sub {F H F' H' : Hp} {A A' B : AS} (e : Ext F H A F' H' A') (h : Sb B A') : Ext F H A F' H' B := ⟨e.fsame, e.wd.sub h, e.keep, e.tkeep, e.fnew, fun a x => e.anew a (h a x)⟩
/-- it may own more -/
theorem Ext.more {F H F' H' : Hp} {A A' B : AS} (e : Ext F H A F' H' A') (h : Sb A B) : Ext F H B F' H' A' :=
  ⟨e.fsame, e.wd, fun a o x n t => e.keep a o x (fun z => n (h a z)) t, e.tkeep, fun a x => (e.fnew a x).imp id (fun y => y.imp id (fun y => y.imp (h a) id)), fun a x => (e.anew a x).imp (h a) id⟩
/-- what is known is not forgotten -/
theorem Ext.still {F H F' H' : Hp} {A A' : AS} (e : Ext F H A F' H' A') {a : Addr} {o : HO} (h : H a = some o) (n : ¬ A a) : ∃ o', H' a = some o' ∧ ((∀ ps, o' ≠ .tbl ps) → o' = o) := by
  by_cases t : ∃ ps, o = .tbl ps
  · obtain ⟨ps, rfl⟩ := t
    obtain ⟨ps', q⟩ := e.tkeep a ps h
    exact ⟨_, q, fun z => (z ps' rfl).elim⟩
  · exact ⟨o, e.keep a o h n fun ps z => t ⟨ps, z⟩, fun _ => rfl⟩
theorem Ext.trans {F H F1 H1 F2 H2 : Hp} {A A1 A2 : AS} (w : Wd F H A) (e : Ext F H A F1 H1 A1) (e' : Ext F1 H1 A1 F2 H2 A2) : Ext F H A F2 H2 A2 := by
  refine ⟨fun a o x => e'.fsame a o (e.fsame a o x), e'.wd, fun a o x n t => e'.keep a o (e.keep a o x n t) (fun z => ?_) t, fun a ps x => ?_, fun a x => ?_, fun a x => ?_⟩
  · rcases e.anew a z with y | y
    · exact n y
    · rw [x] at y; cases y
  · obtain ⟨ps', y⟩ := e.tkeep a ps x
    exact e'.tkeep a ps' y
  · rcases e'.fnew a x with y | y | y | ⟨vs, y⟩
    · exact e.fnew a y
    · by_cases hA : A a
      · exact .inr (.inr (.inl hA))
      · refine .inr (.inl ?_)
        cases q : H a with
        | none => rfl
        | some o =>
          obtain ⟨o', this, _⟩ := e.still q hA
          rw [this] at y; cases y
    · rcases e.anew a y with z | z
      · exact .inr (.inr (.inl z))
      · exact .inr (.inl z)
    · by_cases hA : A a
      · exact .inr (.inr (.inl hA))
      · cases q : H a with
        | none => exact .inr (.inl rfl)
        | some o =>
          obtain ⟨o', this, k⟩ := e.still q hA
          rw [this] at y; cases y
          have := k fun ps z => by cases z
          subst this
          exact .inr (.inr (.inr ⟨vs, rfl⟩))
  · rcases e'.anew a x with y | y
    · exact e.anew a y
    · by_cases hA : A a
      · exact .inl hA
      · refine .inr ?_
        cases q : H a with
        | none => rfl
        | some o =>
          obtain ⟨o', this, _⟩ := e.still q hA
          rw [this] at y; cases y
/-- what stands outside stays outside -/
theorem Ext.frame {F H F' H' : Hp} {A A' B : AS} (w : Wd F H (cup A B)) (d : Dj A B) (e : Ext F H A F' H' A') : Ext F H (cup A B) F' H' (cup A' B) ∧ Dj A' B := by
  have out : ∀ a, B a → F' a = none ∧ (∃ u, H' a = some u ∧ Mtb u) ∧ ¬ A' a := fun a b => by
    have q := w.own a (.inr b)
    have na : ¬ A a := fun z => d a z b
    obtain ⟨o, ho, mo⟩ := q.2
    refine ⟨?_, ?_, ?_⟩
    · cases x : F' a with
      | none => rfl
      | some u =>
        rcases e.fnew a (by rw [x]; intro z; cases z) with y | y | y | ⟨vs, y⟩
        · exact absurd q.1 y
        · rw [ho] at y; cases y
        · exact absurd y na
        · rw [ho] at y; cases y; exact mo.elim
    · exact ⟨o, e.keep a o ho na mo.ntbl, mo⟩
    · intro z
      rcases e.anew a z with y | y
      · exact na y
      · rw [ho] at y; cases y
  refine ⟨⟨e.fsame, ⟨e.wd.same, fun a x => ?_, e.wd.tab, e.wd.nof⟩, fun a o x n t => e.keep a o x (fun z => n (.inl z)) t, e.tkeep, fun a x => (e.fnew a x).imp id (fun y => y.imp id (fun y => y.imp .inl id)), fun a x => ?_⟩, fun a x y => (out a y).2.2 x⟩
  · rcases x with x | x
    · exact e.wd.own a x
    · exact ⟨(out a x).1, (out a x).2.1⟩
  · rcases x with x | x
    · exact (e.anew a x).imp .inl id
    · exact .inl (.inr x)

section
variable {K : PySem.W.Frag} {mg : Str → Option Value}
/-! ### frozen data stays -/
theorem SqT.up {F F' : Hp} {a : Addr} {vs : List V} (s : Same F F') (h : SqT K F a vs) : SqT K F' a vs := by
  rcases h with h | h
  · rcases h with h | ⟨o, h⟩
    · exact .inl (.inl (s _ _ h))
    · exact .inl (.inr ⟨o, s _ _ h⟩)
  · exact .inr h
theorem SqL.up {F F' : Hp} {a : Addr} {vs : List V} (s : Same F F') (h : SqL K F a vs) : SqL K F' a vs := by
  rcases h with h | h
  · rcases h with h | ⟨o, h⟩
    · exact .inl (.inl (s _ _ h))
    · exact .inl (.inr ⟨o, s _ _ h⟩)
  · exact .inr h
mutual
theorem Fz.up {F F' : Hp} (s : Same F F') : ∀ {v : V} {d : D}, Fz K F v d → Fz K F' v d
  | _, _, .non => .non
  | _, _, .bl b => .bl b
  | _, _, .int i => .int i
  | _, _, .str l h => .str l h
  | _, _, .tup h r => .tup (s _ _ h) (FzL.up s r)
  | _, _, .lst h r => .lst (s _ _ h) (FzL.up s r)
  | _, _, .dic h r => .dic (s _ _ h) (FzK.up s r)
  | _, _, .dit h r => .dit (s _ _ h) (FzT.up s r)
  | _, _, .scr h => .scr (SqL.up s h)
theorem FzL.up {F F' : Hp} (s : Same F F') : ∀ {v : List V} {d : List D}, FzL K F v d → FzL K F' v d
  | _, _, .nil => .nil
  | _, _, .cons h r => .cons (Fz.up s h) (FzL.up s r)
theorem FzK.up {F F' : Hp} (s : Same F F') : ∀ {v : List (Key × V)} {d : List (Key × D)}, FzK K F v d → FzK K F' v d
  | _, _, .nil => .nil
  | _, _, .cons o h r => .cons o (Fz.up s h) (FzK.up s r)
theorem FzT.up {F F' : Hp} (s : Same F F') : ∀ {v : List (List Key × V)} {d : List (List Key × D)}, FzT K F v d → FzT K F' v d
  | _, _, .nil => .nil
  | _, _, .cons o h r => .cons o (Fz.up s h) (FzT.up s r)
end
mutual
theorem Fz.pure {F : Hp} : ∀ {v : V} {d : D}, Fz K F v d → d.pure = true
  | _, _, .non => rfl
  | _, _, .bl b => rfl
  | _, _, .int i => rfl
  | _, _, .str l h => rfl
  | _, _, .tup h r => by simp only [D.pure]; exact FzL.pure r
  | _, _, .lst h r => by simp only [D.pure, Bool.not_false, Bool.true_and]; exact FzL.pure r
  | _, _, .dic h r => by simp only [D.pure, Bool.not_false, Bool.true_and]; exact FzK.pure r
  | _, _, .dit h r => by simp only [D.pure, Bool.not_false, Bool.true_and]; exact FzT.pure r
  | _, _, .scr h => rfl
theorem FzL.pure {F : Hp} : ∀ {v : List V} {d : List D}, FzL K F v d → pureL d = true
  | _, _, .nil => rfl
  | _, _, .cons h r => by simp only [pureL, Bool.and_eq_true]; exact ⟨Fz.pure h, FzL.pure r⟩
theorem FzK.pure {F : Hp} : ∀ {v : List (Key × V)} {d : List (Key × D)}, FzK K F v d → pureK d = true
  | _, _, .nil => rfl
  | _, _, .cons _ h r => by simp only [pureK, Bool.and_eq_true]; exact ⟨Fz.pure h, FzK.pure r⟩
theorem FzT.pure {F : Hp} : ∀ {v : List (List Key × V)} {d : List (List Key × D)}, FzT K F v d → pureT d = true
  | _, _, .nil => rfl
  | _, _, .cons _ h r => by simp only [pureT, Bool.and_eq_true]; exact ⟨Fz.pure h, FzT.pure r⟩
end
mutual
/-- data without a part of its own is frozen -/
theorem Own.fzd {F H : Hp} {A : AS} : ∀ {v : V} {d : D}, Own K mg F H v d A → d.pure = true → Fz K F v d
  | _, _, .fz h, _ => h
  | _, _, .lst .., p => by simp [D.pure] at p
  | _, _, .dic .., p => by simp [D.pure] at p
  | _, _, .dit .., p => by simp [D.pure] at p
  | _, _, .ins .., p => by simp [D.pure] at p
theorem OwnL.fzd {F H : Hp} {A : AS} : ∀ {v : List V} {d : List D}, OwnL K mg F H v d A → pureL d = true → FzL K F v d
  | _, _, .nil, _ => .nil
  | _, _, .cons h r _ _ _, p => by
    simp only [pureL, Bool.and_eq_true] at p
    exact .cons (Own.fzd h p.1) (OwnL.fzd r p.2)
theorem OwnK.fzd {F H : Hp} {A : AS} : ∀ {v : List (Key × V)} {d : List (Key × D)}, OwnK K mg F H v d A → pureK d = true → FzK K F v d
  | _, _, .nil, _ => .nil
  | _, _, .cons o h r _ _ _, p => by
    simp only [pureK, Bool.and_eq_true] at p
    exact .cons o (Own.fzd h p.1) (OwnK.fzd r p.2)
theorem OwnT.fzd {F H : Hp} {A : AS} : ∀ {v : List (List Key × V)} {d : List (List Key × D)}, OwnT K mg F H v d A → pureT d = true → FzT K F v d
  | _, _, .nil, _ => .nil
  | _, _, .cons o h r _ _ _, p => by
    simp only [pureT, Bool.and_eq_true] at p
    exact .cons o (Own.fzd h p.1) (OwnT.fzd r p.2)
end
mutual
theorem Own.sub {F H : Hp} {A A' : AS} (h : Sb A A') : ∀ {v : V} {d : D}, Own K mg F H v d A → Own K mg F H v d A'
  | _, _, .fz x => .fz x
  | _, _, .lst a b c e r => .lst a (h _ b) c (e.trans h) r
  | _, _, .dic a b c e r => .dic a (h _ b) c (e.trans h) r
  | _, _, .dit a b c e r => .dit a (h _ b) c (e.trans h) r
  | _, _, .ins g a b c e r => .ins g a (h _ b) c (e.trans h) r
end
theorem OwnL.sub {F H : Hp} {A A' : AS} (h : Sb A A') : ∀ {v : List V} {d : List D}, OwnL K mg F H v d A → OwnL K mg F H v d A'
  | _, _, .nil => .nil
  | _, _, .cons x r a b c => .cons x r a (b.trans h) (c.trans h)
theorem Slots.sub {F H : Hp} {A A' : AS} (h : Sb A A') {σ : L2.St} {ρ : List (Option D)} (s : Slots K mg F H σ ρ A) : Slots K mg F H σ ρ A' := by
  induction s with
  | nil => exact .nil
  | skip _ ih => exact .skip (ih h)
  | cons x r a b c _ => exact .cons x r a (b.trans h) (c.trans h)
mutual
/-- another heap that keeps what is owned -/
theorem Own.move' {F H F' H' : Hp} (sf : Same F F') : ∀ {v : V} {d : D} {A : AS}, (∀ a o, A a → H a = some o → Mtb o → H' a = some o) → Own K mg F H v d A → Own K mg F' H' v d A
  | _, _, _, _, .fz x => .fz (Fz.up sf x)
  | _, _, _, k, .lst a b c e r => .lst (k _ _ b a True.intro) b c e (OwnL.move' sf (fun x o y => k x o (e x y)) r)
  | _, _, _, k, .dic a b c e r => .dic (k _ _ b a True.intro) b c e (OwnK.move' sf (fun x o y => k x o (e x y)) r)
  | _, _, _, k, .dit a b c e r => .dit (k _ _ b a True.intro) b c e (OwnT.move' sf (fun x o y => k x o (e x y)) r)
  | _, _, _, k, .ins g a b c e r => .ins g (k _ _ b a True.intro) b c e (OwnF.move' sf (fun x o y => k x o (e x y)) r)
theorem OwnL.move' {F H F' H' : Hp} (sf : Same F F') : ∀ {v : List V} {d : List D} {A : AS}, (∀ a o, A a → H a = some o → Mtb o → H' a = some o) → OwnL K mg F H v d A → OwnL K mg F' H' v d A
  | _, _, _, _, .nil => .nil
  | _, _, _, k, .cons x r a b c => .cons (Own.move' sf (fun z o y => k z o (b z y)) x) (OwnL.move' sf (fun z o y => k z o (c z y)) r) a b c
theorem OwnK.move' {F H F' H' : Hp} (sf : Same F F') : ∀ {v : List (Key × V)} {d : List (Key × D)} {A : AS}, (∀ a o, A a → H a = some o → Mtb o → H' a = some o) → OwnK K mg F H v d A → OwnK K mg F' H' v d A
  | _, _, _, _, .nil => .nil
  | _, _, _, k, .cons o x r a b c => .cons o (Own.move' sf (fun z o y => k z o (b z y)) x) (OwnK.move' sf (fun z o y => k z o (c z y)) r) a b c
theorem OwnT.move' {F H F' H' : Hp} (sf : Same F F') : ∀ {v : List (List Key × V)} {d : List (List Key × D)} {A : AS}, (∀ a o, A a → H a = some o → Mtb o → H' a = some o) → OwnT K mg F H v d A → OwnT K mg F' H' v d A
  | _, _, _, _, .nil => .nil
  | _, _, _, k, .cons o x r a b c => .cons o (Own.move' sf (fun z o y => k z o (b z y)) x) (OwnT.move' sf (fun z o y => k z o (c z y)) r) a b c
theorem OwnF.move' {F H F' H' : Hp} (sf : Same F F') : ∀ {v : List (Str × V)} {d : List (Str × D)} {A : AS}, (∀ a o, A a → H a = some o → Mtb o → H' a = some o) → OwnF K mg F H v d A → OwnF K mg F' H' v d A
  | _, _, _, _, .nil => .nil
  | _, _, _, k, .cons x r a b c => .cons (Own.move' sf (fun z o y => k z o (b z y)) x) (OwnF.move' sf (fun z o y => k z o (c z y)) r) a b c
end
theorem Slots.move' {F H F' H' : Hp} (sf : Same F F') {σ : L2.St} {ρ : List (Option D)} {A : AS} (s : Slots K mg F H σ ρ A) : (∀ a o, A a → H a = some o → Mtb o → H' a = some o) → Slots K mg F' H' σ ρ A := by
  induction s with
  | nil => intro _; exact .nil
  | skip _ ih => intro k; exact .skip (ih k)
  | cons x r a b c ih => intro k; exact .cons (Own.move' sf (fun z o y => k z o (b z y)) x) (ih fun z o y => k z o (c z y)) a b c
section
variable {F H F' H' : Hp} {A : AS}
theorem Own.move (sf : Same F F') {v : V} {d : D} (k : ∀ a o, A a → H a = some o → H' a = some o) (x : Own K mg F H v d A) : Own K mg F' H' v d A := x.move' sf fun a o z e _ => k a o z e
theorem OwnL.move (sf : Same F F') {v : List V} {d : List D} (k : ∀ a o, A a → H a = some o → H' a = some o) (x : OwnL K mg F H v d A) : OwnL K mg F' H' v d A := x.move' sf fun a o z e _ => k a o z e
theorem OwnK.move (sf : Same F F') {v : List (Key × V)} {d : List (Key × D)} (k : ∀ a o, A a → H a = some o → H' a = some o) (x : OwnK K mg F H v d A) : OwnK K mg F' H' v d A := x.move' sf fun a o z e _ => k a o z e
theorem OwnT.move (sf : Same F F') {v : List (List Key × V)} {d : List (List Key × D)} (k : ∀ a o, A a → H a = some o → H' a = some o) (x : OwnT K mg F H v d A) : OwnT K mg F' H' v d A := x.move' sf fun a o z e _ => k a o z e
theorem OwnF.move (sf : Same F F') {v : List (Str × V)} {d : List (Str × D)} (k : ∀ a o, A a → H a = some o → H' a = some o) (x : OwnF K mg F H v d A) : OwnF K mg F' H' v d A := x.move' sf fun a o z e _ => k a o z e
theorem Slots.move (sf : Same F F') {σ : L2.St} {ρ : List (Option D)} (s : Slots K mg F H σ ρ A) (k : ∀ a o, A a → H a = some o → H' a = some o) : Slots K mg F' H' σ ρ A := s.move' sf fun a o z e _ => k a o z e
end
/-- what a step beside it keeps -/
theorem Own.ext {F H F' H' : Hp} {A A' B : AS} (e : Ext F H A F' H' A') (d : Dj A B) {v : V} {x : D} (o : Own K mg F H v x B) : Own K mg F' H' v x B :=
  Own.move' e.fsame (fun a u b h m => e.keep a u h (fun z => d a z b) m.ntbl) o
theorem OwnL.ext {F H F' H' : Hp} {A A' B : AS} (e : Ext F H A F' H' A') (d : Dj A B) {v : List V} {x : List D} (o : OwnL K mg F H v x B) : OwnL K mg F' H' v x B :=
  OwnL.move' e.fsame (fun a u b h m => e.keep a u h (fun z => d a z b) m.ntbl) o
theorem Slots.ext {F H F' H' : Hp} {A A' B : AS} (e : Ext F H A F' H' A') (d : Dj A B) {σ : L2.St} {ρ : List (Option D)} (o : Slots K mg F H σ ρ B) : Slots K mg F' H' σ ρ B :=
  Slots.move' e.fsame o (fun a u b h m => e.keep a u h (fun z => d a z b) m.ntbl)

theorem Slots.length {F H : Hp} {A : AS} {σ : L2.St} {ρ : List (Option D)} (s : Slots K mg F H σ ρ A) : σ.length = ρ.length := by
  induction s with
  | nil => rfl
  | skip _ ih => simp [ih]
  | cons _ _ _ _ _ ih => simp [ih]
/-- a slot taken out -/
theorem Slots.get {F H : Hp} {σ : L2.St} {ρ : List (Option D)} {A : AS} (s : Slots K mg F H σ ρ A) : ∀ {i : Nat} {d : D}, ρ[i]? = some (some d) →
    ∃ v A1 A2, σ[i]? = some (some v) ∧ Own K mg F H v d A1 ∧ Slots K mg F H σ (ρ.set i none) A2 ∧ Dj A1 A2 ∧ Sb A1 A ∧ Sb A2 A := by
  induction s with
  | nil => intro i d h; simp at h
  | skip r ih =>
    intro i d h
    cases i with
    | zero => simp at h
    | succ i =>
      obtain ⟨v, A1, A2, h1, h2, h3, h4⟩ := ih (i := i) (d := d) (by simpa using h)
      exact ⟨v, A1, A2, by simpa using h1, h2, .skip h3, h4⟩
  | @cons v' d' σ ρ B1 B2 B x r a b c ih =>
    intro i d h
    cases i with
    | zero =>
      simp at h
      subst h
      exact ⟨v', B1, B2, rfl, x, .skip r, a, b, c⟩
    | succ i =>
      obtain ⟨v, A1, A2, h1, h2, h3, h4, h5, h6⟩ := ih (i := i) (d := d) (by simpa using h)
      refine ⟨v, A1, cup B1 A2, by simpa using h1, h2, .cons x h3 (a.sub Sb.rfl' h6) Sb.l Sb.r, fun z p q => ?_, h5.trans c, fun z p => ?_⟩
      · rcases q with q | q
        · exact a z q (h5 z p)
        · exact h4 z p q
      · rcases p with p | p
        · exact b z p
        · exact c z (h6 z p)
/-- a slot filled -/
theorem Slots.put {F H : Hp} {σ : L2.St} {ρ : List (Option D)} {A1 A2 : AS} {v : V} {d : D} (o : Own K mg F H v d A1) : ∀ {i : Nat}, Slots K mg F H σ ρ A2 → Dj A1 A2 → (σ[i]?).isSome = true →
    Slots K mg F H (σ.set i (some v)) (ρ.set i (some d)) (cup A1 A2) := by
  intro i s
  induction s generalizing i with
  | nil => intro _ h; simp at h
  | @skip s σ ρ A2 r ih =>
    intro dj h
    cases i with
    | zero => exact .cons o r dj Sb.l Sb.r
    | succ i => exact .skip (ih dj (by simpa using h))
  | @cons v' d' σ ρ B1 B2 A2 x r a b c ih =>
    intro dj h
    cases i with
    | zero => exact .cons o (r.sub c) (dj.sub Sb.rfl' Sb.rfl') Sb.l Sb.r
    | succ i =>
      have q := ih (i := i) (dj.sub Sb.rfl' c) (by simpa using h)
      refine .cons x q (fun z p q => ?_) (fun z p => .inr (b z p)) (fun z p => ?_)
      · rcases q with q | q
        · exact dj z q (b z p)
        · exact a z p q
      · rcases p with p | p
        · exact .inl p
        · exact .inr (c z p)
/-- a slot emptied -/
theorem Slots.gone {F H : Hp} {σ : L2.St} {ρ : List (Option D)} {A : AS} (s : Slots K mg F H σ ρ A) : ∀ (i : Nat), Slots K mg F H σ (ρ.set i none) A := by
  induction s with
  | nil => intro i; exact .nil
  | skip r ih =>
    intro i
    cases i with
    | zero => exact .skip r
    | succ i => exact .skip (ih i)
  | cons x r a b c ih =>
    intro i
    cases i with
    | zero => exact .skip (r.sub c)
    | succ i => exact .cons x (ih i) a b c
/-- the value of an unheld slot does not matter -/
theorem Slots.free {F H : Hp} {σ : L2.St} {ρ : List (Option D)} {A : AS} (s : Slots K mg F H σ ρ A) : ∀ (i : Nat) (u : Option V), Slots K mg F H (σ.set i u) (ρ.set i none) A := by
  induction s with
  | nil => intro i u; exact .nil
  | skip r ih =>
    intro i u
    cases i with
    | zero => exact .skip r
    | succ i => exact .skip (ih i u)
  | cons x r a b c ih =>
    intro i u
    cases i with
    | zero => exact .skip (r.sub c)
    | succ i => exact .cons x (ih i u) a b c

/-! ### freezing -/
mutual
def D.can : D → Bool
  | .non => true | .bl _ => true | .int _ => true | .str _ => true | .scr _ => true
  | .tup xs => canL xs
  | .lst _ xs => canL xs
  | .dic m kvs => !m && canK kvs
  | .dit m kvs => !m && canT kvs
  | .ins _ _ => false
def canL : List D → Bool
  | [] => true
  | x :: xs => x.can && canL xs
def canK : List (Key × D) → Bool
  | [] => true
  | (_, x) :: xs => x.can && canK xs
def canT : List (List Key × D) → Bool
  | [] => true
  | (_, x) :: xs => x.can && canT xs
end
mutual
theorem D.frz_of_pure : ∀ {d : D}, d.pure = true → d.frz = d
  | .non, _ => rfl | .bl _, _ => rfl | .int _, _ => rfl | .str _, _ => rfl | .scr _, _ => rfl
  | .tup xs, h => by simp only [D.pure] at h; simp only [D.frz]; rw [frzL_of_pure h]
  | .lst m xs, h => by
    simp only [D.pure, Bool.and_eq_true, Bool.not_eq_true'] at h
    simp only [D.frz]; rw [frzL_of_pure h.2, h.1]
  | .dic m xs, h => by
    simp only [D.pure, Bool.and_eq_true, Bool.not_eq_true'] at h
    simp only [D.frz]; rw [frzK_of_pure h.2, h.1]
  | .dit m xs, h => by
    simp only [D.pure, Bool.and_eq_true, Bool.not_eq_true'] at h
    simp only [D.frz]; rw [frzT_of_pure h.2, h.1]
  | .ins _ _, h => by simp [D.pure] at h
theorem frzL_of_pure : ∀ {d : List D}, pureL d = true → frzL d = d
  | [], _ => rfl
  | x :: xs, h => by
    simp only [pureL, Bool.and_eq_true] at h
    simp only [frzL]; rw [D.frz_of_pure h.1, frzL_of_pure h.2]
theorem frzK_of_pure : ∀ {d : List (Key × D)}, pureK d = true → frzK d = d
  | [], _ => rfl
  | (k, x) :: xs, h => by
    simp only [pureK, Bool.and_eq_true] at h
    simp only [frzK]; rw [D.frz_of_pure h.1, frzK_of_pure h.2]
theorem frzT_of_pure : ∀ {d : List (List Key × D)}, pureT d = true → frzT d = d
  | [], _ => rfl
  | (k, x) :: xs, h => by
    simp only [pureT, Bool.and_eq_true] at h
    simp only [frzT]; rw [D.frz_of_pure h.1, frzT_of_pure h.2]
end
mutual
theorem D.pure_can : ∀ {d : D}, d.pure = true → d.can = true
  | .non, _ => rfl | .bl _, _ => rfl | .int _, _ => rfl | .str _, _ => rfl | .scr _, _ => rfl
  | .tup xs, h => by simp only [D.pure] at h; simp only [D.can]; exact pureL_can h
  | .lst m xs, h => by simp only [D.pure, Bool.and_eq_true] at h; simp only [D.can]; exact pureL_can h.2
  | .dic m xs, h => by simp only [D.pure, Bool.and_eq_true] at h; simp only [D.can, Bool.and_eq_true]; exact ⟨h.1, pureK_can h.2⟩
  | .dit m xs, h => by simp only [D.pure, Bool.and_eq_true] at h; simp only [D.can, Bool.and_eq_true]; exact ⟨h.1, pureT_can h.2⟩
  | .ins _ _, h => by simp [D.pure] at h
theorem pureL_can : ∀ {d : List D}, pureL d = true → canL d = true
  | [], _ => rfl
  | x :: xs, h => by
    simp only [pureL, Bool.and_eq_true] at h
    simp only [canL, Bool.and_eq_true]; exact ⟨D.pure_can h.1, pureL_can h.2⟩
theorem pureK_can : ∀ {d : List (Key × D)}, pureK d = true → canK d = true
  | [], _ => rfl
  | (k, x) :: xs, h => by
    simp only [pureK, Bool.and_eq_true] at h
    simp only [canK, Bool.and_eq_true]; exact ⟨D.pure_can h.1, pureK_can h.2⟩
theorem pureT_can : ∀ {d : List (List Key × D)}, pureT d = true → canT d = true
  | [], _ => rfl
  | (k, x) :: xs, h => by
    simp only [pureT, Bool.and_eq_true] at h
    simp only [canT, Bool.and_eq_true]; exact ⟨D.pure_can h.1, pureT_can h.2⟩
end
open Classical in
/-- the frozen part with A in it -/
noncomputable def froz (F H : Hp) (A : AS) : Hp := fun a => if A a then H a else F a
theorem froz_in {F H : Hp} {A : AS} {a : Addr} (h : A a) : froz F H A a = H a := by unfold froz; rw [if_pos h]
theorem froz_out {F H : Hp} {A : AS} {a : Addr} (h : ¬ A a) : froz F H A a = F a := by unfold froz; rw [if_neg h]
theorem froz_same {F H : Hp} {A : AS} (w : Wd F H A) : Same F (froz F H A) := fun a o e => by
  by_cases h : A a
  · have q := (w.own a h).1
    rw [e] at q; cases q
  · rw [froz_out h]; exact e
theorem froz_wd {F H : Hp} {A B : AS} (w : Wd F H (cup A B)) (d : Dj A B) : Wd (froz F H A) H B :=
  ⟨fun a o e => by
    by_cases h : A a
    · rw [froz_in h] at e; exact e
    · rw [froz_out h] at e; exact w.same a o e, fun a b => by
    rw [froz_out fun z => d a z b]
    exact w.own a (.inr b), w.tab, fun a ps e => by
    by_cases h : A a
    · rw [froz_in h] at e
      obtain ⟨_, u, q, m⟩ := w.own a (.inl h)
      rw [q] at e; cases e; exact m
    · rw [froz_out h] at e; exact w.nof a ps e⟩
theorem froz_ext {F H : Hp} {A B : AS} (w : Wd F H (cup A B)) (d : Dj A B) : Ext F H (cup A B) (froz F H A) H B :=
  ⟨froz_same (w.sub Sb.l), froz_wd w d, fun _ _ e _ _ => e, fun _ ps e => ⟨ps, e⟩, fun a x => by
    by_cases h : A a
    · exact .inr (.inr (.inl (.inl h)))
    · rw [froz_out h] at x; exact .inl x, fun a x => .inl (.inr x)⟩
mutual
theorem Own.froze {F H G : Hp} (sf : Same F G) : ∀ {v : V} {d : D} {A : AS}, (∀ a, A a → G a = H a) → d.can = true → Own K mg F H v d A → Fz K G v d.frz
  | _, _, _, _, _, .fz x => by rw [D.frz_of_pure (Fz.pure x)]; exact Fz.up sf x
  | _, _, _, k, c, .lst a b _ e r => by
    simp only [D.can] at c
    exact .lst ((k _ b).trans a) (OwnL.froze sf (fun z y => k z (e z y)) c r)
  | _, _, _, _, c, .dic .. => by simp [D.can] at c
  | _, _, _, _, c, .dit .. => by simp [D.can] at c
  | _, _, _, _, c, .ins .. => by simp [D.can] at c
theorem OwnL.froze {F H G : Hp} (sf : Same F G) : ∀ {v : List V} {d : List D} {A : AS}, (∀ a, A a → G a = H a) → canL d = true → OwnL K mg F H v d A → FzL K G v (frzL d)
  | _, _, _, _, _, .nil => .nil
  | _, _, _, k, c, .cons x r _ a b => by
    simp only [canL, Bool.and_eq_true] at c
    exact .cons (Own.froze sf (fun z y => k z (a z y)) c.1 x) (OwnL.froze sf (fun z y => k z (b z y)) c.2 r)
end
/-- data frozen: its part joins the frozen one -/
theorem freeze {F H : Hp} {A B : AS} {v : V} {d : D} (w : Wd F H (cup A B)) (dj : Dj A B) (c : d.can = true) (o : Own K mg F H v d A) : Fz K (froz F H A) v d.frz :=
  Own.froze (froz_same (w.sub Sb.l)) (fun _ h => froz_in h) c o

theorem codeO_nm {c : Addr} {q : Str} : ¬ Mtb (LamX.CodeO c q) := fun z => by unfold LamX.CodeO at z; exact z
theorem tabS_by {H H' : Hp} {P : Addr} {q : Str} (t : LamX.TabS H P q) (e : ∀ a u, H a = some u → ¬ Mtb u → H' a = some u) : LamX.TabS H' P q := by
  obtain ⟨ps, h1, h2, h3⟩ := t
  refine ⟨ps, e _ _ h1 fun z => z, h2, fun pos cv hc => ?_⟩
  obtain ⟨c, e1, e2⟩ := h3 pos cv hc
  exact ⟨c, e1, e _ _ e2 codeO_nm⟩
theorem tabS_by2 {H H' : Hp} {P : Addr} {q : Str} (t : LamX.TabS H P q) (e1 : ∀ a ps, H a = some (.tbl ps) → H' a = some (.tbl ps)) (e2 : ∀ a φ, H a = some (.ext φ) → H' a = some (.ext φ)) : LamX.TabS H' P q := by
  obtain ⟨ps, h1, h2, h3⟩ := t
  refine ⟨ps, e1 _ _ h1, h2, fun pos cv hc => ?_⟩
  obtain ⟨c, q1, q2⟩ := h3 pos cv hc
  exact ⟨c, q1, e2 _ _ q2⟩
/-! ### a new object -/
/-- an object is laid at p, owned -/
theorem Ext.laid {F H : Hp} {A : AS} {p : Addr} {o : HO} (w : Wd F H A) (hp : H p = none) (mu : Mtb o := by exact True.intro) : Ext F H A F (upd H p o) (cup (fun a => a = p) A) := by
  have up : ∀ a u, H a = some u → upd H p o a = some u := fun a u e => by rw [upd_ne (ne_of_none e hp)]; exact e
  have fp : F p = none := by
    cases q : F p with
    | none => rfl
    | some u => rw [w.same _ _ q] at hp; cases hp
  refine ⟨fun _ _ e => e, ⟨fun a u e => up a u (w.same a u e), fun a x => ?_, fun P q t => (w.tab P q t).ext up, w.nof⟩, fun a u e _ _ => up a u e, fun a ps e => ⟨ps, up a _ e⟩, fun _ x => .inl x, fun a x => ?_⟩
  · rcases x with x | x
    · subst x; exact ⟨fp, o, upd_same, mu⟩
    · obtain ⟨q1, u, q2, q3⟩ := w.own a x
      exact ⟨q1, u, up a u q2, q3⟩
  · rcases x with x | x
    · subst x; exact .inr hp
    · exact .inl x
/-- an object is laid at p, frozen -/
theorem Ext.laidF {F H : Hp} {A : AS} {p : Addr} {o : HO} (w : Wd F H A) (hp : H p = none) (nt : ∀ ps, o ≠ .tbl ps := by exact fun _ z => nomatch z) : Ext F H A (upd F p o) (upd H p o) A := by
  have up : ∀ a u, H a = some u → upd H p o a = some u := fun a u e => by rw [upd_ne (ne_of_none e hp)]; exact e
  have fp : F p = none := by
    cases q : F p with
    | none => rfl
    | some u => rw [w.same _ _ q] at hp; cases hp
  have upF : ∀ a u, F a = some u → upd F p o a = some u := fun a u e => by rw [upd_ne (ne_of_none e fp)]; exact e
  refine ⟨upF, ⟨fun a u e => ?_, fun a x => ?_, fun P q t => (w.tab P q t).ext up, fun a ps e => by
    by_cases z : a = p
    · subst z; rw [upd_same] at e; exact nt ps (Option.some.inj e)
    · rw [upd_ne z] at e; exact w.nof a ps e⟩, fun a u e _ _ => up a u e, fun a ps e => ⟨ps, up a _ e⟩, fun a x => ?_, fun a x => .inl x⟩
  · by_cases z : a = p
    · subst z; rw [upd_same] at e ⊢; exact e
    · rw [upd_ne z] at e; exact up a u (w.same a u e)
  · have z : a ≠ p := fun z => by
      obtain ⟨_, u, q, _⟩ := w.own a x
      rw [z, hp] at q; cases q
    rw [upd_ne z, upd_ne z]; exact w.own a x
  · by_cases z : a = p
    · subst z; exact .inr (.inl hp)
    · rw [upd_ne z] at x; exact .inl x
/-- an owned object is changed -/
theorem Ext.put {F H : Hp} {A : AS} {p : Addr} {o : HO} (w : Wd F H A) (hp : A p) (mu : Mtb o := by exact True.intro) : Ext F H A F (upd H p o) A := by
  have fp := (w.own p hp).1
  obtain ⟨up, hup, mup⟩ := (w.own p hp).2
  have other : ∀ a u, H a = some u → ¬ Mtb u → upd H p o a = some u := fun a u e n => by
    refine (upd_ne fun z => n ?_).trans e
    rw [z, hup] at e; cases e; exact mup
  have ne : ∀ a u, F a = some u → a ≠ p := fun a u e z => by rw [z, fp] at e; cases e
  refine ⟨fun _ _ e => e, ⟨fun a u e => by rw [upd_ne (ne a u e)]; exact w.same a u e, fun a x => ⟨(w.own a x).1, ?_⟩, fun P q t => tabS_by (w.tab P q t) other, w.nof⟩, fun a u e n _ => by rw [upd_ne fun z => n (by rw [z]; exact hp)]; exact e, fun a ps e => ⟨ps, other a _ e fun z => z⟩, fun _ x => .inl x, fun _ x => .inl x⟩
  by_cases z : a = p
  · subst z; exact ⟨o, upd_same, mu⟩
  · rw [upd_ne z]; exact (w.own a x).2

/-! ### freezing with locks: a dict that is frozen is locked -/
mutual
def D.cand : D → Bool
  | .non => true | .bl _ => true | .int _ => true | .str _ => true | .scr _ => true
  | .tup xs => candL xs
  | .lst _ xs => candL xs
  | .dic _ kvs => candK kvs
  | .dit _ kvs => candT kvs
  | .ins _ _ => false
def candL : List D → Bool
  | [] => true
  | x :: xs => x.cand && candL xs
def candK : List (Key × D) → Bool
  | [] => true
  | (_, x) :: xs => x.cand && candK xs
def candT : List (List Key × D) → Bool
  | [] => true
  | (_, x) :: xs => x.cand && candT xs
end
mutual
theorem D.can_cand : ∀ {d : D}, d.can = true → d.cand = true
  | .non, _ => rfl | .bl _, _ => rfl | .int _, _ => rfl | .str _, _ => rfl | .scr _, _ => rfl
  | .tup xs, h => by simp only [D.can] at h; simp only [D.cand]; exact canL_cand h
  | .lst m xs, h => by simp only [D.can] at h; simp only [D.cand]; exact canL_cand h
  | .dic m xs, h => by simp only [D.can, Bool.and_eq_true] at h; simp only [D.cand]; exact canK_cand h.2
  | .dit m xs, h => by simp only [D.can, Bool.and_eq_true] at h; simp only [D.cand]; exact canT_cand h.2
  | .ins _ _, h => by simp [D.can] at h
theorem canL_cand : ∀ {d : List D}, canL d = true → candL d = true
  | [], _ => rfl
  | x :: xs, h => by
    simp only [canL, Bool.and_eq_true] at h
    simp only [candL, Bool.and_eq_true]; exact ⟨D.can_cand h.1, canL_cand h.2⟩
theorem canK_cand : ∀ {d : List (Key × D)}, canK d = true → candK d = true
  | [], _ => rfl
  | (k, x) :: xs, h => by
    simp only [canK, Bool.and_eq_true] at h
    simp only [candK, Bool.and_eq_true]; exact ⟨D.can_cand h.1, canK_cand h.2⟩
theorem canT_cand : ∀ {d : List (List Key × D)}, canT d = true → candT d = true
  | [], _ => rfl
  | (k, x) :: xs, h => by
    simp only [canT, Bool.and_eq_true] at h
    simp only [candT, Bool.and_eq_true]; exact ⟨D.can_cand h.1, canT_cand h.2⟩
end
def isDt (u : HO) : Prop := (∃ kvs, u = .dK kvs) ∨ ∃ kvs, u = .dT kvs
/-- what a frozen heap must say of A: the dicts of L are locked, the rest is as it was -/
def LkA (L : List Addr) (A : AS) (H G : Hp) : Prop := ∀ a, A a → (a ∈ L → ∀ u, H a = some u → ∃ o, G a = some (.frz o u)) ∧ (a ∉ L → G a = H a)
theorem LkA.sub {L L' : List Addr} {A A' : AS} {H G : Hp} (h : LkA L A H G) (s : Sb A' A) (h1 : ∀ a ∈ L', a ∈ L) (h2 : ∀ a, A' a → a ∈ L → a ∈ L') : LkA L' A' H G := fun a x =>
  ⟨fun y => (h a (s a x)).1 (h1 a y), fun y => (h a (s a x)).2 fun z => y (h2 a x z)⟩
def LsA (L : List Addr) (A : AS) (H : Hp) : Prop := ∀ a ∈ L, A a ∧ ∃ u, H a = some u ∧ isDt u
theorem LsA.app {L1 L2 : List Addr} {A1 A2 A : AS} {H : Hp} (h1 : LsA L1 A1 H) (h2 : LsA L2 A2 H) (s1 : Sb A1 A) (s2 : Sb A2 A) : LsA (L1 ++ L2) A H := fun a h => by
  rcases List.mem_append.mp h with h | h
  · exact ⟨s1 a (h1 a h).1, (h1 a h).2⟩
  · exact ⟨s2 a (h2 a h).1, (h2 a h).2⟩
theorem LkA.one {L1 L2 : List Addr} {A1 A2 A : AS} {H G : Hp} (h : LkA (L1 ++ L2) A H G) (h2 : LsA L2 A2 H) (dj : Dj A1 A2) (s1 : Sb A1 A) : LkA L1 A1 H G :=
  h.sub s1 (fun a x => List.mem_append.mpr (.inl x)) fun a x y => (List.mem_append.mp y).elim id fun y => (dj a x (h2 a y).1).elim
theorem LkA.two {L1 L2 : List Addr} {A1 A2 A : AS} {H G : Hp} (h : LkA (L1 ++ L2) A H G) (h1 : LsA L1 A1 H) (dj : Dj A1 A2) (s2 : Sb A2 A) : LkA L2 A2 H G :=
  h.sub s2 (fun a x => List.mem_append.mpr (.inr x)) fun a x y => (List.mem_append.mp y).elim (fun y => (dj a (h1 a y).1 x).elim) id
mutual
theorem Own.frozeL {F H : Hp} : ∀ {v : V} {d : D} {A : AS}, d.cand = true → Own K mg F H v d A → ∃ L, LsA L A H ∧ ∀ G, Same F G → LkA L A H G → Fz K G v d.frz
  | _, _, _, _, .fz x => ⟨[], fun _ h => by simp at h, fun G sf _ => by rw [D.frz_of_pure (Fz.pure x)]; exact Fz.up sf x⟩
  | _, _, _, c, .lst a b nb e r => by
    simp only [D.cand] at c
    obtain ⟨L, h1, h2⟩ := OwnL.frozeL c r
    refine ⟨L, fun x hx => ⟨e x (h1 x hx).1, (h1 x hx).2⟩, fun G sf k => .lst (((k _ b).2 fun z => nb (h1 _ z).1).trans a) (h2 G sf (k.sub e (fun _ z => z) fun _ _ z => z))⟩
  | _, _, _, c, .dic (a := p) a b nb e r => by
    simp only [D.cand] at c
    obtain ⟨L, h1, h2⟩ := OwnK.frozeL c r
    refine ⟨p :: L, fun x hx => ?_, fun G sf k => ?_⟩
    · rcases List.mem_cons.mp hx with rfl | hx
      · exact ⟨b, _, a, .inl ⟨_, rfl⟩⟩
      · exact ⟨e x (h1 x hx).1, (h1 x hx).2⟩
    · obtain ⟨o, ho⟩ := (k p b).1 List.mem_cons_self _ a
      exact .dic ho (h2 G sf (k.sub e (fun _ z => List.mem_cons_of_mem _ z) fun x hx z => (List.mem_cons.mp z).elim (fun z => (nb (z ▸ hx)).elim) id))
  | _, _, _, c, .dit (a := p) a b nb e r => by
    simp only [D.cand] at c
    obtain ⟨L, h1, h2⟩ := OwnT.frozeL c r
    refine ⟨p :: L, fun x hx => ?_, fun G sf k => ?_⟩
    · rcases List.mem_cons.mp hx with rfl | hx
      · exact ⟨b, _, a, .inr ⟨_, rfl⟩⟩
      · exact ⟨e x (h1 x hx).1, (h1 x hx).2⟩
    · obtain ⟨o, ho⟩ := (k p b).1 List.mem_cons_self _ a
      exact .dit ho (h2 G sf (k.sub e (fun _ z => List.mem_cons_of_mem _ z) fun x hx z => (List.mem_cons.mp z).elim (fun z => (nb (z ▸ hx)).elim) id))
  | _, _, _, c, .ins .. => by simp [D.cand] at c
theorem OwnL.frozeL {F H : Hp} : ∀ {v : List V} {d : List D} {A : AS}, candL d = true → OwnL K mg F H v d A → ∃ L, LsA L A H ∧ ∀ G, Same F G → LkA L A H G → FzL K G v (frzL d)
  | _, _, _, _, .nil => ⟨[], fun _ h => by simp at h, fun _ _ _ => .nil⟩
  | _, _, _, c, .cons x r dj s1 s2 => by
    simp only [candL, Bool.and_eq_true] at c
    obtain ⟨L1, h1, k1⟩ := Own.frozeL c.1 x
    obtain ⟨L2, h2, k2⟩ := OwnL.frozeL c.2 r
    exact ⟨L1 ++ L2, h1.app h2 s1 s2, fun G sf k => .cons (k1 G sf (k.one h2 dj s1)) (k2 G sf (k.two h1 dj s2))⟩
theorem OwnK.frozeL {F H : Hp} : ∀ {v : List (Key × V)} {d : List (Key × D)} {A : AS}, candK d = true → OwnK K mg F H v d A → ∃ L, LsA L A H ∧ ∀ G, Same F G → LkA L A H G → FzK K G v (frzK d)
  | _, _, _, _, .nil => ⟨[], fun _ h => by simp at h, fun _ _ _ => .nil⟩
  | _, _, _, c, .cons o x r dj s1 s2 => by
    simp only [candK, Bool.and_eq_true] at c
    obtain ⟨L1, h1, k1⟩ := Own.frozeL c.1 x
    obtain ⟨L2, h2, k2⟩ := OwnK.frozeL c.2 r
    exact ⟨L1 ++ L2, h1.app h2 s1 s2, fun G sf k => .cons o (k1 G sf (k.one h2 dj s1)) (k2 G sf (k.two h1 dj s2))⟩
theorem OwnT.frozeL {F H : Hp} : ∀ {v : List (List Key × V)} {d : List (List Key × D)} {A : AS}, candT d = true → OwnT K mg F H v d A → ∃ L, LsA L A H ∧ ∀ G, Same F G → LkA L A H G → FzT K G v (frzT d)
  | _, _, _, _, .nil => ⟨[], fun _ h => by simp at h, fun _ _ _ => .nil⟩
  | _, _, _, c, .cons o x r dj s1 s2 => by
    simp only [candT, Bool.and_eq_true] at c
    obtain ⟨L1, h1, k1⟩ := Own.frozeL c.1 x
    obtain ⟨L2, h2, k2⟩ := OwnT.frozeL c.2 r
    exact ⟨L1 ++ L2, h1.app h2 s1 s2, fun G sf k => .cons o (k1 G sf (k.one h2 dj s1)) (k2 G sf (k.two h1 dj s2))⟩
end
/-- the heap with the things of L locked -/
def LkL (L : List Addr) (H H2 : Hp) : Prop := ∀ a, (a ∈ L → ∃ u od, H a = some u ∧ H2 a = some (.frz od u)) ∧ (a ∉ L → H2 a = H a)
/-- data frozen with locks -/
theorem freezeL {F H : Hp} {A B : AS} {v : V} {d : D} (w : Wd F H (cup A B)) (dj : Dj A B) (c : d.cand = true) (o : Own K mg F H v d A) :
    ∃ L, (∀ a ∈ L, ∃ u, H a = some u ∧ Mut (some u)) ∧ ∀ H2, LkL L H H2 → ∃ G, Ext F H (cup A B) G H2 B ∧ Fz K G v d.frz ∧ Same F G ∧ ∀ a u, B a → H a = some u → H2 a = some u := by
  obtain ⟨L, h1, h2⟩ := Own.frozeL c o
  refine ⟨L, fun a ha => ?_, fun H2 lk => ?_⟩
  · obtain ⟨_, u, e, z⟩ := h1 a ha
    refine ⟨u, e, ?_⟩
    rcases z with ⟨_, rfl⟩ | ⟨_, rfl⟩ <;> exact True.intro
  · have out : ∀ a, ¬ A a → H2 a = H a := fun a n => (lk a).2 fun z => n (h1 a z).1
    have sf : Same F (froz F H2 A) := fun a u e => by
      by_cases h : A a
      · have q := (w.own a (.inl h)).1
        rw [e] at q; cases q
      · rw [froz_out h]; exact e
    have other : ∀ a u, H a = some u → ¬ Mtb u → H2 a = some u := fun a u e n => by
      refine ((lk a).2 fun z => n ?_).trans e
      obtain ⟨_, u', e', d'⟩ := h1 a z
      rw [e] at e'; cases e'
      rcases d' with ⟨_, rfl⟩ | ⟨_, rfl⟩ <;> exact True.intro
    refine ⟨froz F H2 A, ⟨sf, ⟨fun a u e => ?_, fun a b => ?_, fun P q t => tabS_by (w.tab P q t) other, fun a ps e => by
      by_cases h : A a
      · rw [froz_in h] at e
        by_cases z : a ∈ L
        · obtain ⟨u, od, _, q⟩ := (lk a).1 z
          rw [q] at e; cases e
        · rw [(lk a).2 z] at e
          obtain ⟨_, u, q, m⟩ := w.own a (.inl h)
          rw [q] at e; cases e; exact m
      · rw [froz_out h] at e; exact w.nof a ps e⟩, fun a u e n _ => ?_, fun a ps e => ⟨ps, other a _ e fun z => z⟩, fun a x => ?_, fun a x => .inl (.inr x)⟩, h2 _ sf fun a x => ⟨fun y u hu => ?_, fun y => ?_⟩, sf, fun a u b e => ?_⟩
    · by_cases h : A a
      · rw [froz_in h] at e; exact e
      · rw [froz_out h] at e; rw [out a h]; exact w.same a u e
    · have n : ¬ A a := fun z => dj a z b
      rw [froz_out n, out a n]
      exact w.own a (.inr b)
    · rw [out a fun z => n (.inl z)]; exact e
    · by_cases h : A a
      · exact .inr (.inr (.inl (.inl h)))
      · rw [froz_out h] at x; exact .inl x
    · obtain ⟨u', od, e1, e2⟩ := (lk a).1 y
      rw [hu] at e1; cases e1
      exact ⟨od, by rw [froz_in x]; exact e2⟩
    · rw [froz_in x]; exact (lk a).2 y
    · rw [out a fun z => dj a z b]; exact e
end
end VI

namespace VI
open PySem L2

inductive Fn where
  | len | abs | max | min | sum | sorted | list | tuple | int | str | all | any | dict | set
  deriving DecidableEq
inductive Mt where
  | join (s : List Nat) | count | index | get
  deriving DecidableEq
inductive Op where
  | bin (o : Operator) | cmp (o : CmpOp) | neg | ix | sl (lo hi : Bool) | rev | fn (f : Fn) | mt (m : Mt) | lrng | sset | isi (tys : List String) | dget | din (neg : Bool)
  deriving DecidableEq
inductive ItK where
  | seq | enum | zip | rng | dk
  deriving DecidableEq
inductive Mo where
  | append | extend | insert
  deriving DecidableEq
inductive T where
  | slot (i : Nat) | tup (ts : List T)
inductive E where
  | var (i : Nat) | use (i : Nat) | take (i : Nat) | lend (i : Nat)
  | cst (d : D) | glob (x : Str) (d : D)
  | op (o : Op) (es : List E)
  | chain (o1 o2 : CmpOp) (a b c : E)
  | chain3 (o1 o2 o3 : CmpOp) (a b c d : E)
  | and (a b : E) | or (a b : E) | not (a : E)
  | ifx (c a b : E)
  | tup (es : List E) | lst (es : List E)
  | call (f : Str) (as : List E)
  | mut (o : Mo) (i : Nat) (ps : List E) (as : List E)
  | lc (el : E) (t : T) (k : ItK) (es : List E) (cs : List E) (own : List Nat)
  | idx (i : Nat) (as : List E)
  | dnew (t : Bool)
  | disp (ks : List (List Nat)) (vs : List E)
  | lcK (i : Nat) (el : E) (t : T) (cs : List E) (own : List Nat)
  | lcO (i : Nat) (el : E) (t : T) (cs : List E) (own : List Nat)
  | dupd (i : Nat) (e : E)
  | dget2 (i : Nat) (as : List E)
  | sortK (n : E) (j : Nat) (ks : List E)
  | fz (e : E)
  | lcE (i : Nat) (el : E) (t : T) (cs : List E) (own : List Nat)
inductive S where
  | asg (t : T) (e : E)
  | multi (is : List Nat) (es : List E)
  | aug (i : Nat) (o : Operator) (e : E)
  | expr (e : E)
  | store (i : Nat) (ps : List E) (ix e : E)
  | dstore (i : Nat) (k e : E)
  | ifs (c : E) (a b : List S)
  | whl (fuel : Nat) (c : E) (b : List S)
  | fors (t : T) (k : ItK) (es : List E) (b : List S)
  | forO (x o : Nat) (b : List S)
  | ret (e : E)
  | retN | pass | brk | cont
  | frz (i : Nat)
  | bad

abbrev Env' := List (Option D)
abbrev Ex := Str × List (Str × D)
inductive R (α : Type) where
  | ok (a : α) (ρ : Env') | err (x : Ex) (ρ : Env') | bad
inductive FR where
  | ok (d : D) (outs : List (Option D)) | err (x : Ex) (outs : List (Option D)) | bad
inductive SR where
  | nx (ρ : Env') | ret (d : D) (ρ : Env') | brk (ρ : Env') | cont (ρ : Env') | err (x : Ex) (ρ : Env') | bad
abbrev CallT := Str → List D → FR

def R.bind {α β : Type} (r : R α) (f : α → Env' → R β) : R β := match r with
  | .ok a ρ => f a ρ | .err x ρ => .err x ρ | .bad => .bad
def R.sbind {α : Type} (r : R α) (f : α → Env' → SR) : SR := match r with
  | .ok a ρ => f a ρ | .err x ρ => .err x ρ | .bad => .bad
def R.of {α : Type} (o : Option α) (ρ : Env') : R α := match o with
  | some a => .ok a ρ | none => .bad

/-! ### operations on data -/
abbrev lim : Nat := 16777216
/-! dicts -/
def keyD : D → Option Key
  | .int i => some (.inl i)
  | .str l => some (.inr (ST l))
  | _ => none
def keysD : List D → Option (List Key)
  | [] => some []
  | x :: r => (keyD x).bind fun k => (keysD r).map (k :: ·)
def dKey : Key → D
  | .inl i => .int i
  | .inr x => .str x.cps.toList
section
variable {κ : Type} [DecidableEq κ]
def vGet (kvs : List (κ × D)) (k : κ) : Option D := (kvs.find? fun kv => decide (kv.1 = k)).map (·.2)
def vPut (kvs : List (κ × D)) (k : κ) (d : D) : List (κ × D) :=
  if (kvs.any fun kv => decide (kv.1 = k)) = true then kvs.map (fun kv => if kv.1 = k then (kv.1, d) else kv) else kvs ++ [(k, d)]
def vMrg (kvs more : List (κ × D)) : List (κ × D) := more.foldl (fun acc kv => vPut acc kv.1 kv.2) kvs
end
def pureO (d : D) : Option D := if d.pure then some d else none
def dfind : D → D → Option (Option D)
  | .dic _ kvs, k => (keyD k).map (vGet kvs)
  | .dit _ kvs, .tup ks => (keysD ks).map (vGet kvs)
  | _, _ => none
def dput (x k d : D) : Option D := match x with
  | .dic true kvs => (keyD k).bind fun key => if kvs.length < lim then some (.dic true (vPut kvs key d)) else none
  | .dit true kvs => match k with
    | .tup ks => (keysD ks).bind fun key => if kvs.length < lim then some (.dit true (vPut kvs key d)) else none
    | _ => none
  | _ => none
def prsK : List D → Option (List (Key × D))
  | [] => some []
  | .tup [k, v] :: r => (keyD k).bind fun key => (prsK r).map ((key, v) :: ·)
  | _ => none
def dupO : D → D → Option D
  | .dic true kvs, .dic _ more => if pureK more && decide (kvs.length + more.length ≤ lim) then some (.dic true (vMrg kvs more)) else none
  | _, _ => none
def isDct : D → Bool
  | .dic _ _ => true
  | .dit _ _ => true
  | _ => false
def dget2O (d : D) : List D → Option D
  | [k, x] => (dfind d k).bind fun o => match o with
    | some y => pureO y
    | none => pureO x
  | _ => none
def isDic : D → Bool
  | .dic true _ => true
  | _ => false
mutual
/-- no dict, no object in it -/
def noD : D → Bool
  | .dic _ _ => false | .dit _ _ => false | .ins _ _ => false
  | .tup xs => noDL xs
  | .lst _ xs => noDL xs
  | _ => true
def noDL : List D → Bool
  | [] => true
  | x :: r => noD x && noDL r
end
def noDs (ρ : Env') : Bool := ρ.all fun o => match o with
  | some d => noD d
  | none => true
/-- == -/
def b2n (b : Bool) : Int := if b then 1 else 0
mutual
def deq : D → D → Bool
  | .non, .non => true
  | .bl a, .bl b => a == b
  | .bl a, .int j => b2n a == j
  | .int i, .bl b => i == b2n b
  | .int i, .int j => i == j
  | .str x, .str y => decide (x = y)
  | .lst _ xs, .lst _ ys => deqL xs ys
  | .tup xs, .tup ys => deqL xs ys
  | _, _ => false
def deqL : List D → List D → Bool
  | [], [] => true
  | x :: xs, y :: ys => deq x y && deqL xs ys
  | _, _ => false
end
/-- data that == is known of: no dicts; n deep at the most -/
def okD : Nat → D → Bool
  | _, .non => true | _, .bl _ => true | _, .int _ => true | _, .str _ => true
  | n + 1, .tup xs => xs.all (okD n)
  | n + 1, .lst _ xs => xs.all (okD n)
  | _, _ => false
def deep : Nat := 12
def eqO (a b : D) : Option Bool := if okD deep a && okD deep b then some (deq a b) else none
/-- the items that sorts and min know: ints; tuples of ints -/
def atomI : D → Option Int | .int i => some i | _ => none
def intsO : List D → Option (List Int)
  | [] => some []
  | .int i :: r => (intsO r).map (i :: ·)
  | _ => none
def blsO : List D → Option (List Bool)
  | [] => some []
  | .bl i :: r => (blsO r).map (i :: ·)
  | _ => none
def strsO : List D → Option (List (List Nat))
  | [] => some []
  | .str i :: r => (strsO r).map (i :: ·)
  | _ => none
def maxL : List Int → Int
  | [] => 0
  | [x] => x
  | x :: y :: r => let m := maxL (y :: r); if x < m then m else x
def minL : List Int → Int
  | [] => 0
  | [x] => x
  | x :: y :: r => let m := minL (y :: r); if m < x then m else x
/-- pairs of ints -/
def prsO : List D → Option (List (Int × Int))
  | [] => some []
  | .tup [.int a, .int b] :: r => (prsO r).map ((a, b) :: ·)
  | _ => none
def ltP (a b : Int × Int) : Bool := if a.1 = b.1 then decide (a.2 < b.2) else decide (a.1 < b.1)
def minP : List (Int × Int) → Int × Int
  | [] => (0, 0)
  | [x] => x
  | x :: y :: r => let m := minP (y :: r); if ltP m x = true then m else x
/-- the part of a list between two ends -/
def cutD {α : Type} (xs : List α) (lo hi : Option Int) : List α :=
  (xs.drop (HT.sIx xs.length 0 lo)).take (HT.sIx xs.length xs.length hi - HT.sIx xs.length 0 lo)
abbrev atD {α : Type} (xs : List α) (i : Int) : Option α := atI xs i
def flat : D → Bool
  | .non => true | .bl _ => true | .int _ => true | .str _ => true | _ => false
def joinS (sep : List Nat) : List (List Nat) → List Nat
  | [] => []
  | [x] => x
  | x :: y :: r => x ++ sep ++ joinS sep (y :: r)
def addO : D → D → Option D
  | .int i, .int j => some (.int (i + j))
  | .str x, .str y => if x.length + y.length ≤ lim then some (.str (x ++ y)) else none
  | .lst _ xs, .lst _ ys => if pureL xs && pureL ys && decide (xs.length + ys.length ≤ lim) then some (.lst true (xs ++ ys)) else none
  | .tup (x :: xs), .tup ys => if decide ((x :: xs).length + ys.length ≤ lim) then some (.tup (x :: xs ++ ys)) else none
  | _, _ => none
def subO : D → D → Option D
  | .int i, .int j => some (.int (i - j))
  | _, _ => none
def mulO : D → D → Option D
  | .int i, .int j => if decide (-(2 ^ 64) < i ∧ i < 2 ^ 64) || decide (-(2 ^ 64) < j ∧ j < 2 ^ 64) then some (.int (i * j)) else none
  | .lst _ xs, .int k => if pureL xs && decide (-(2 ^ 63) ≤ k) && decide (k < 2 ^ 63) && decide (xs.length * k.toNat ≤ lim) then some (.lst true (List.replicate k.toNat xs).flatten) else none
  | _, _ => none
def divO : D → D → Option D
  | .int i, .int j => if 0 < j ∧ j < 1073741824 then some (.int (i / j)) else none
  | _, _ => none
def modO : D → D → Option D
  | .int i, .int j => if 0 < j then some (.int (i % j)) else none
  | _, _ => none
def powO : D → D → Option D
  | .int i, .int j => if 0 ≤ j ∧ j ≤ 1000000 ∧ i.natAbs < 2 ^ 64 then some (.int (i ^ j.toNat)) else none
  | _, _ => none
def binO : Operator → D → D → Option D
  | .Add, a, b => addO a b
  | .Sub, a, b => subO a b
  | .Mult, a, b => mulO a b
  | .FloorDiv, a, b => divO a b
  | .Mod, a, b => modO a b
  | .Pow, a, b => powO a b
  | _, _, _ => none
def inO (x : D) : List D → Bool
  | [] => false
  | y :: r => deq y x || inO x r
def ltO : D → D → Option Bool
  | .int i, .int j => some (decide (i < j))
  | .str x, .str y => some (decide (x < y))
  | _, _ => none
def leO : D → D → Option Bool
  | .int i, .int j => some (decide (i ≤ j))
  | .str x, .str y => some (!decide (y < x))
  | _, _ => none
def gtO : D → D → Option Bool
  | .int i, .int j => some (decide (j < i))
  | _, _ => none
def geO : D → D → Option Bool
  | .int i, .int j => some (decide (j ≤ i))
  | _, _ => none
def isNon : D → Bool
  | .non => true
  | _ => false
def memO : D → D → Option Bool
  | x, .lst _ ys => if okD deep x && ys.all (okD deep) then some (inO x ys) else none
  | x, .tup ys => if flat x && ys.all flat then some (inO x ys) else none
  | .str [c], .str z => some (decide (c ∈ z))
  | _, _ => none
def cmpB : CmpOp → D → D → Option Bool
  | .Eq, a, b => eqO a b
  | .NotEq, a, b => (eqO a b).map (!·)
  | .Lt, a, b => ltO a b
  | .LtE, a, b => leO a b
  | .Gt, a, b => gtO a b
  | .GtE, a, b => geO a b
  | .Is, a, b => if isNon b then some (isNon a) else none
  | .IsNot, a, b => if isNon b then some (!isNon a) else none
  | .In, a, b => memO a b
  | .NotIn, a, b => (memO a b).map (!·)
def cmpO (o : CmpOp) (a b : D) : Option D := (cmpB o a b).map .bl
def seqO : D → Option (List D)
  | .lst _ xs => some xs
  | .tup xs => some xs
  | _ => none
def optI : Option D → Option (Option Int)
  | none => some none
  | some (.int i) => some (some i)
  | _ => none
def slO (d : D) (lo hi : Option Int) : Option D := match d with
  | .str x => if x.length ≤ lim then some (.str (cutD x lo hi)) else none
  | .lst _ xs => if pureL xs then some (.lst true (cutD xs lo hi)) else none
  | .tup xs => if HT.sIx xs.length 0 lo = 0 ∧ HT.sIx xs.length xs.length hi = xs.length then none else some (.tup (cutD xs lo hi))
  | _ => none
def lenO : List D → Option D
  | [.str x] => if x.length ≤ lim then some (.int x.length) else none
  | [.lst _ xs] => some (.int xs.length)
  | [.tup xs] => some (.int xs.length)
  | [.scr xs] => some (.int xs.length)
  | _ => none
def absO : List D → Option D
  | [.int i] => some (.int (if i < 0 then -i else i))
  | _ => none
def maxO : List D → Option D
  | [.int i, .int j] => some (.int (if j > i then j else i))
  | [.lst _ xs] => (intsO xs).bind fun ns => if ns = [] then none else some (.int (maxL ns))
  | _ => none
def minO : List D → Option D
  | [.int i, .int j] => some (.int (if j < i then j else i))
  | [.lst _ xs] => match intsO xs with
    | some ns => if ns = [] then none else some (.int (minL ns))
    | none => (prsO xs).map fun ps => .tup [.int (minP ps).1, .int (minP ps).2]
  | _ => none
def sumO : List D → Option D
  | [.lst _ xs] => (intsO xs).map fun ns => .int ns.sum
  | _ => none
def allO : List D → Option D
  | [.lst _ xs] => (blsO xs).map fun ns => .bl (ns.all id)
  | _ => none
def anyO : List D → Option D
  | [.lst _ xs] => (blsO xs).map fun ns => .bl (ns.any id)
  | _ => none
def listO : List D → Option D
  | [.lst _ xs] => if pureL xs then some (.lst true xs) else none
  | [.tup xs] => some (.lst true xs)
  | [.scr ns] => some (.lst true (ns.map .int))
  | _ => none
def tupleO : List D → Option D
  | [.lst _ xs] => if pureL xs then some (.tup xs) else none
  | [.tup xs] => some (.tup xs)
  | _ => none
def intO : List D → Option D
  | [.int i] => some (.int i)
  | [.bl b] => some (.int (if b then 1 else 0))
  | _ => none
def dictO : List D → Option D
  | [.lst _ xs] => if pureL xs && decide (xs.length ≤ lim) then (prsK xs).map fun kvs => .dic true (vMrg [] kvs) else none
  | [.dic _ kvs] => if pureK kvs then some (.dic true kvs) else none
  | _ => none
/-- ints, sorted -/
def insI (x : Int) : List Int → List Int
  | [] => [x]
  | y :: r => if x ≤ y then x :: y :: r else y :: insI x r
def srtI : List Int → List Int
  | [] => []
  | x :: r => insI x (srtI r)
def keysI : List (Key × D) → Option (List Int)
  | [] => some []
  | (.inl i, _) :: r => (keysI r).map (i :: ·)
  | _ => none
/-- rows of ints, the less or alike -/
def leL (a b : List Int) : Bool := !decide (b < a)
def tupsO : List D → Option (List (List Int))
  | [] => some []
  | .tup (x :: xs) :: r => (intsO (x :: xs)).bind fun k => (tupsO r).map (k :: ·)
  | _ => none
def srtT (ks : List (List Int)) : List (List Int) := ks.mergeSort leL
/-- x laid into a rising list -/
def insU (x : Int) : List Int → List Int
  | [] => [x]
  | y :: r => if x < y then x :: y :: r else if x = y then y :: r else y :: insU x r
/-- what is met, rising -/
def ssetI (ns : List Int) : List Int := ns.foldr insU []
def sortedO : List D → Option D
  | [.lst _ xs] => (tupsO xs).bind fun ks => if ks.length ≤ lim then some (.lst true ((srtT ks).map fun k => .tup (k.map .int))) else none
  | [.dic _ kvs] => (keysI kvs).bind fun ks => if ks.length < 64 then some (.lst true ((srtI ks).map .int)) else none
  | _ => none
def fnO (f : Fn) (ds : List D) : Option D := match f with
  | .len => lenO ds | .abs => absO ds | .max => maxO ds | .min => minO ds | .sum => sumO ds | .all => allO ds | .any => anyO ds
  | .sorted => sortedO ds | .list => listO ds | .tuple => tupleO ds | .int => intO ds | .dict => dictO ds | _ => none
def rngO (lo hi : Int) : List D := (List.range (hi - lo).toNat).map fun k => .int (lo + (k : Nat))
def in62 (i : Int) : Bool := decide (-(2 ^ 62) ≤ i) && decide (i < 2 ^ 62)
def rngs : List D → Option (List D)
  | [.int j] => if in62 j then some (rngO 0 j) else none
  | [.int i, .int j] => if in62 i && in62 j then some (rngO i j) else none
  | [.int i, .int j, .int (-1)] => if in62 i && in62 j then some ((List.range (i - j).toNat).map fun k => .int (i - (k : Nat))) else none
  | _ => none
def joinO (s : List Nat) : List D → Option D
  | [.lst _ xs] => (strsO xs).bind fun ys => if (ys.map (·.length)).sum + ys.length * s.length ≤ lim then some (.str (joinS s ys)) else none
  | _ => none
def mtO (m : Mt) (ds : List D) : Option D := match m with
  | .join s => joinO s ds
  | _ => none
/-- the type's name -/
def tyN : D → Option String
  | .non => some "NoneType"
  | .bl _ => some "bool"
  | .int _ => some "int"
  | .str _ => some "str"
  | .tup _ => some "tuple"
  | .lst _ _ => some "list"
  | .dic _ _ => some "dict"
  | _ => none
def kitT (t c : String) : Bool := t == c || (t == "bool" && c == "int")
def isiO (tys : List String) (d : D) : Option D := (tyN d).map fun t => .bl (tys.any (kitT t))
def opD : Op → List D → Option D
  | .bin o, [a, b] => binO o a b
  | .cmp o, [a, b] => cmpO o a b
  | .neg, [.int i] => some (.int (-i))
  | .ix, [.str x, .int i] => if x.length ≤ lim then (atD x i).map fun c => .str [c] else none
  | .ix, [.lst _ xs, .int i] => atD xs i
  | .ix, [.tup xs, .int i] => atD xs i
  | .sl false false, [a] => slO a none none
  | .sl true false, [a, .int i] => slO a (some i) none
  | .sl false true, [a, .int j] => slO a none (some j)
  | .sl true true, [a, .int i, .int j] => slO a (some i) (some j)
  | .rev, [.lst _ xs] => if pureL xs then some (.lst true xs.reverse) else none
  | .fn f, as => fnO f as
  | .mt m, as => mtO m as
  | .lrng, as => (rngs as).bind fun xs => if xs.length ≤ lim then some (.lst true xs) else none
  | .sset, [.lst _ xs] => (intsO xs).bind fun ns => if ns.length < 64 then some (.lst true ((ssetI ns).map .int)) else none
  | .isi tys, [d] => isiO tys d
  | .dget, [d, k] => (dfind d k).bind fun o => o.bind pureO
  | .din b, [k, d] => (dfind d k).map fun o => .bl (o.isSome != b)
  | _, _ => none
/-- truth -/
def truD : D → Option Bool
  | .bl b => some b
  | .non => some false
  | .int i => some (i != 0)
  | .str s => if s.length ≤ lim then some (s.length != 0) else none
  | .lst _ xs => some (!xs.isEmpty)
  | .tup xs => some (!xs.isEmpty)
  | _ => none
/-- the items that a loop walks -/
def enumD (n : Nat) : List D → List D
  | [] => []
  | x :: r => .tup [.int (n : Nat), x] :: enumD (n + 1) r
def zipD : List D → List D → List D
  | x :: xs, y :: ys => .tup [x, y] :: zipD xs ys
  | _, _ => []
/-- a dict's keys -/
def walkK : D → Option (List D)
  | .dic false kvs => some (kvs.map fun kv => dKey kv.1)
  | .dit false kvs => some (kvs.map fun kv => .tup (kv.1.map dKey))
  | _ => none
def walkD : D → Option (List D)
  | .lst _ xs => some xs
  | .tup xs => some xs
  | .str z => some (z.map fun c => .str [c])
  | .scr ns => some (ns.map .int)
  | _ => none
def itD : ItK → List D → Option (List D)
  | .seq, [d] => walkD d
  | .enum, [d] => (walkD d).map (enumD 0)
  | .dk, [d] => walkK d
  | .zip, [.lst _ xs, .lst _ ys] => some (zipD xs ys)
  | .rng, as => rngs as
  | _, _ => none
mutual
/-- a target takes an item -/
def T.put : T → D → Env' → Option Env'
  | .slot i, d, ρ => if i < ρ.length then some (ρ.set i (some d)) else none
  | .tup ts, d, ρ => match d with
    | .tup xs => putL ts xs ρ
    | .lst _ xs => putL ts xs ρ
    | _ => none
def putL : List T → List D → Env' → Option Env'
  | [], [], ρ => some ρ
  | t :: ts, x :: xs, ρ => (t.put x ρ).bind fun ρ' => putL ts xs ρ'
  | _, _, _ => none
end
def moD : Mo → D → List D → Option (D × D)
  | .insert, .lst true xs, [.int i, d] => if xs.length < lim ∧ 0 ≤ i ∧ i < 2 ^ 63 ∧ pureL xs = true ∧ d.pure = true then some (.lst true (xs.take i.toNat ++ [d] ++ xs.drop i.toNat), .non) else none
  | .append, .lst true xs, [d] => if xs.length < lim then some (.lst true (xs ++ [d]), .non) else none
  | .extend, .lst true xs, [.lst _ ys] => if pureL ys && decide (xs.length + ys.length ≤ lim) then some (.lst true (xs ++ ys), .non) else none
  | _, _, _ => none
def setAt (xs : List D) (i : Int) (d : D) : Option (List D) := (ixN xs.length i).map fun j => xs.set j d
/-- the part at a path, changed -/
def atPath (f : D → Option (D × D)) : List Int → D → Option (D × D)
  | [], d => f d
  | i :: r, .lst true xs => (atD xs i).bind fun x => (atPath f r x).bind fun p => (setAt xs i p.1).map fun ys => (.lst true ys, p.2)
  | _, _ => none

def setO (k : Int) (d : D) : D → Option (D × D)
  | .lst true ys => (setAt ys k d).map fun zs => (.lst true zs, .non)
  | _ => none
def flat2 : D → Bool
  | .int _ => true | .str _ => true | _ => false
def isPath : List Int → D → Bool
  | [], .lst true _ => true
  | i :: r, .lst true xs => match atD xs i with
    | some x => isPath r x
    | none => false
  | _, _ => false
/-! ### what is read of an expression's form -/
mutual
def shares : E → Bool
  | .var _ => true
  | .op .ix es => sharesL es
  | _ => false
def sharesL : List E → Bool
  | e :: _ => shares e
  | [] => false
end
mutual
def quiet : E → Bool
  | .var _ => true
  | .cst _ => true
  | .glob _ _ => true
  | .op _ es => quietL es
  | .chain _ _ a b c => quiet a && quiet b && quiet c
  | .and a b => quiet a && quiet b
  | .or a b => quiet a && quiet b
  | .not a => quiet a
  | .tup es => quietL es
  | .lst es => quietL es
  | _ => false
def quietL : List E → Bool
  | [] => true
  | e :: es => quiet e && quietL es
end
inductive Ar where
  | val (d : D) | lnt (i : Nat)
def fetch : List Ar → Env' → Option (List D × Env')
  | [], ρ => some ([], ρ)
  | .val d :: r, ρ => (fetch r ρ).map fun p => (d :: p.1, p.2)
  | .lnt i :: r, ρ => match ρ[i]? with
    | some (some d) => (fetch r (ρ.set i none)).map fun p => (d :: p.1, p.2)
    | _ => none
def back : List Ar → List (Option D) → Env' → Env'
  | .lnt i :: r, o :: os, ρ => back r os (ρ.set i o)
  | .val _ :: r, _ :: os, ρ => back r os ρ
  | _, _, ρ => ρ
def wipeD (ρ : Env') : List Nat → Env'
  | [] => ρ
  | i :: r => (wipeD ρ r).set i none
def intS : List D → Option (List Int) := intsO

/-- the first place of a number -/
def idxI (x : Int) : List Int → Option Nat
  | [] => none
  | y :: r => if y = x then some 0 else (idxI x r).map (· + 1)
def idxO : D → List D → Option D
  | .lst _ xs, [.int x] => (intsO xs).bind fun ns => (idxI x ns).map fun j => .int (j : Nat)
  | _, _ => none
/-- what a key's parts give -/
def keyOf : R (List D) → Option (List Int)
  | .ok (x :: xs) _ => intsO (x :: xs)
  | _ => none
def keyAll (f : D → R (List D)) : List D → Option (List (List Int))
  | [] => some []
  | x :: xs => (keyOf (f x)).bind fun k => (keyAll f xs).map (k :: ·)
/-- sorted by keys, stably -/
def srtK (xs : List Int) (ks : List (List Int)) : List Int := ((xs.zip ks).mergeSort fun a b => leL a.2 b.2).map (·.1)
def rngI (k : Int) : List Int := (List.range k.toNat).map fun i => ((i : Nat) : Int)
def isLst : D → Bool
  | .lst _ _ => true
  | _ => false
/-- a comprehension's turns -/
def lcLoop (f : D → Env' → R (Option D)) (own : List Nat) : List D → List D → Env' → R (List D)
  | [], acc, ρ => .ok acc ρ
  | x :: xs, acc, ρ => match f x ρ with
    | .ok (some d) ρ1 => if acc.length < lim then lcLoop f own xs (acc ++ [d]) (wipeD ρ1 own) else .bad
    | .ok none ρ1 => lcLoop f own xs acc (wipeD ρ1 own)
    | _ => .bad
def lendOf : E → Option Nat
  | .lend i => some i
  | _ => none
def varOf : E → Option Nat
  | .var i => some i
  | _ => none
section
variable (call : CallT)
mutual
def ev : E → Env' → R D
  | .var i, ρ => match ρ[i]? with | some (some d) => .ok d ρ | _ => .bad
  | .use i, ρ => match ρ[i]? with | some (some d) => if d.cand then .ok d.frz (ρ.set i (some d.frz)) else .bad | _ => .bad
  | .take i, ρ => match ρ[i]? with | some (some d) => .ok d (ρ.set i none) | _ => .bad
  | .lend _, _ => .bad
  | .cst d, ρ => .ok d ρ
  | .glob _ d, ρ => .ok d ρ
  | .op o es, ρ => (evR es ρ).bind fun ds ρ' => match opD o ds with
      | some d => if o != .ix || d.pure || sharesL es then .ok d ρ' else .bad
      | none => .bad
  | .chain o1 o2 a b c, ρ => (ev a ρ).bind fun x ρ1 => (ev b ρ1).bind fun y ρ2 =>
      if x.pure && y.pure then
        match cmpB o1 x y with
        | some true => (ev c ρ2).bind fun z ρ3 => if z.pure then R.of (cmpO o2 y z) ρ3 else .bad
        | some false => .ok (.bl false) ρ2
        | none => .bad
      else .bad
  | .chain3 o1 o2 o3 a b c d, ρ => (ev a ρ).bind fun x ρ1 => (ev b ρ1).bind fun y ρ2 =>
      if x.pure && y.pure then
        match cmpB o1 x y with
        | some true => (ev c ρ2).bind fun z ρ3 => if z.pure then
            match cmpB o2 y z with
            | some true => (ev d ρ3).bind fun w ρ4 => if w.pure then R.of (cmpO o3 z w) ρ4 else .bad
            | some false => .ok (.bl false) ρ3
            | none => .bad
          else .bad
        | some false => .ok (.bl false) ρ2
        | none => .bad
      else .bad
  | .and a b, ρ => (ev a ρ).bind fun x ρ1 => match x with
      | .bl true => (ev b ρ1).bind fun y ρ2 => match y with
        | .bl k => .ok (.bl k) ρ2
        | _ => .bad
      | .bl false => .ok (.bl false) ρ1
      | _ => .bad
  | .or a b, ρ => (ev a ρ).bind fun x ρ1 => match x with
      | .bl false => (ev b ρ1).bind fun y ρ2 => match y with
        | .bl k => .ok (.bl k) ρ2
        | _ => .bad
      | .bl true => .ok (.bl true) ρ1
      | _ => .bad
  | .not a, ρ => (ev a ρ).bind fun x ρ1 => match x with
      | .bl k => .ok (.bl (!k)) ρ1
      | _ => .bad
  | .ifx c a b, ρ => (ev c ρ).bind fun x ρ1 => match truD x with
      | some true => (ev a ρ1).bind fun y ρ2 => if !shares a || y.pure then .ok y ρ2 else .bad
      | some false => (ev b ρ1).bind fun y ρ2 => if !shares b || y.pure then .ok y ρ2 else .bad
      | none => .bad
  | .tup es, ρ => (evC es ρ).bind fun ds ρ' => if pureL ds && decide (ds.length ≤ lim) then .ok (.tup ds) ρ' else .bad
  | .lst es, ρ => (evC es ρ).bind fun ds ρ' => if ds.length ≤ lim then .ok (.lst true ds) ρ' else .bad
  | .call f as, ρ => (evA as ρ).bind fun rs ρ1 => match fetch rs ρ1 with
      | some (ds, ρ2) => match call f ds with
        | .ok d outs => .ok d (back rs outs ρ2)
        | .err x outs => .err x (back rs outs ρ2)
        | .bad => .bad
      | none => .bad
  | .mut o i ps as, ρ => (evR ps ρ).bind fun is ρ1 => match intsO is, ρ1[i]? with
      | some js, some (some d0) => if isPath js d0 && (ps.isEmpty || quietL ps) then (evC as ρ1).bind fun ds ρ2 => match ρ2[i]? with
          | some (some d) => match atPath (fun x => moD o x ds) js d with
            | some (d', r) => .ok r (ρ2.set i (some d'))
            | none => .bad
          | _ => .bad
        else .bad
      | _, _ => .bad
  | .lc el t k es cs own, ρ => (evC es ρ).bind fun ds ρ1 => if canL ds then match itD k (frzL ds) with
      | some xs => (lcLoop (fun x ρ => match t.put x ρ with
          | none => .bad
          | some ρ1 => (lcTests cs ρ1).bind fun k ρ2 => if k then (ev el ρ2).bind fun d ρ3 => if !shares el || d.pure then .ok (some d) ρ3 else .bad else .ok none ρ2) own xs [] (wipeD ρ1 own)).bind fun acc ρ2 => .ok (.lst true acc) ρ2
      | none => .bad
    else .bad
  | .idx i as, ρ => match ρ[i]? with
    | some (some d0) => if isLst d0 then (evC as ρ).bind fun ds ρ2 => match ρ2[i]? with
        | some (some d) => R.of (idxO d ds) ρ2
        | _ => .bad
      else .bad
    | _ => .bad
  | .dnew t, ρ => .ok (if t then .dit true [] else .dic true []) ρ
  | .disp ks vs, ρ => (evC vs ρ).bind fun ds ρ' => if ks.length = ds.length ∧ ks.length ≤ 15 ∧ ks.Nodup ∧ ks.all okCs = true ∧ 0 < ks.length then .ok (.dic true ((ks.map fun k => Sum.inr (ST k)).zip ds)) ρ' else .bad
  | .lcK i el t cs own, ρ => match ρ[i]? with
    | some (some (.dic true kvs)) => if pureK kvs && !own.contains i then (lcLoop (fun x ρ => match t.put x ρ with
          | none => .bad
          | some ρ1 => (lcTests cs ρ1).bind fun k ρ2 => if k then (ev el ρ2).bind fun d ρ3 => if !shares el || d.pure then .ok (some d) ρ3 else .bad else .ok none ρ2) own (kvs.map fun kv => dKey kv.1) [] (wipeD (ρ.set i (some (.dic false kvs))) own)).bind fun acc ρ2 =>
        if noDL acc && noDs (ρ2.set i none) then .ok (.lst true acc) (ρ2.set i (some (.dic true kvs))) else .bad
      else .bad
    | _ => .bad
  | .lcO i el t cs own, ρ => match ρ[i]? with
    | some (some (.lst true xs)) => if pureL xs && !own.contains i then (lcLoop (fun x ρ => match t.put x ρ with
          | none => .bad
          | some ρ1 => (lcTests cs ρ1).bind fun k ρ2 => if k then (ev el ρ2).bind fun d ρ3 => if !shares el || d.pure then .ok (some d) ρ3 else .bad else .ok none ρ2) own xs [] (wipeD (ρ.set i none) own)).bind fun acc ρ2 =>
        .ok (.lst true acc) (ρ2.set i (some (.lst true xs)))
      else .bad
    | _ => .bad
  | .lcE i el t cs own, ρ => match ρ[i]? with
    | some (some (.lst true xs)) => if pureL xs && !own.contains i then (lcLoop (fun x ρ => match t.put x ρ with
          | none => .bad
          | some ρ1 => (lcTests cs ρ1).bind fun k ρ2 => if k then (ev el ρ2).bind fun d ρ3 => if !shares el || d.pure then .ok (some d) ρ3 else .bad else .ok none ρ2) own (enumD 0 xs) [] (wipeD (ρ.set i none) own)).bind fun acc ρ2 =>
        .ok (.lst true acc) (ρ2.set i (some (.lst true xs)))
      else .bad
    | _ => .bad
  | .dget2 i as, ρ => match ρ[i]? with
    | some (some d0) => if isDct d0 then (evC as ρ).bind fun ds ρ2 => match ρ2[i]? with
        | some (some d) => R.of (dget2O d ds) ρ2
        | _ => .bad
      else .bad
    | _ => .bad
  | .fz e, ρ => (ev e ρ).bind fun d ρ1 => if d.can && !shares e then .ok d.frz ρ1 else .bad
  | .sortK n j ks, ρ => (ev n ρ).bind fun d ρ1 => match d with
    | .int k => if in62 k && decide (k ≤ 16777216) && quietL ks && decide (ks.length ≤ 64) then match keyAll (fun x => evC ks (ρ1.set j (some x))) ((rngI k).map .int) with
        | some kz => .ok (.lst true ((srtK (rngI k) kz).map .int)) ρ1
        | none => .bad
      else .bad
    | _ => .bad
  | .dupd i e, ρ => match ρ[i]? with
    | some (some d0) => if isDic d0 then (ev e ρ).bind fun d ρ1 => if !shares e || d.pure then match ρ1[i]? with
        | some (some x) => match dupO x d with
          | some x' => .ok .non (ρ1.set i (some x'))
          | none => .bad
        | _ => .bad
        else .bad
      else .bad
    | _ => .bad
/-- readers' arguments -/
def evR : List E → Env' → R (List D)
  | [], ρ => .ok [] ρ
  | e :: es, ρ => match varOf e with
    | some i => match ρ[i]? with
      | some (some _) => (evR es ρ).bind fun ds ρ2 => match ρ2[i]? with | some (some d) => .ok (d :: ds) ρ2 | _ => .bad
      | _ => .bad
    | none => (ev e ρ).bind fun d ρ1 => (evR es ρ1).bind fun ds ρ2 =>
      if !shares e || d.pure || quietL es then .ok (d :: ds) ρ2 else .bad
/-- takers' arguments -/
def evC : List E → Env' → R (List D)
  | [], ρ => .ok [] ρ
  | e :: es, ρ => (ev e ρ).bind fun d ρ1 => (evC es ρ1).bind fun ds ρ2 =>
      if !shares e || d.pure then .ok (d :: ds) ρ2 else .bad
/-- a call's arguments -/
def evA : List E → Env' → R (List Ar)
  | [], ρ => .ok [] ρ
  | e :: es, ρ => match lendOf e with
    | some i => match ρ[i]? with
      | some (some _) => (evA es ρ).bind fun ds ρ2 => .ok (.lnt i :: ds) ρ2
      | _ => .bad
    | none => (ev e ρ).bind fun d ρ1 => (evA es ρ1).bind fun ds ρ2 =>
      if !shares e || d.pure then .ok (.val d :: ds) ρ2 else .bad
def lcTests : List E → Env' → R Bool
  | [], ρ => .ok true ρ
  | [c], ρ => (ev c ρ).bind fun d ρ1 => R.of (truD d) ρ1
  | _, _ => .bad
end
/-- a loop's turns -/
def forLoop (f : D → Env' → SR) : List D → Env' → SR
  | [], ρ => .nx ρ
  | x :: xs, ρ => match f x ρ with
    | .nx ρ' => forLoop f xs ρ'
    | .cont ρ' => forLoop f xs ρ'
    | .brk ρ' => .nx ρ'
    | r => r
def whlLoop (c : Env' → R D) (f : Env' → SR) : Nat → Env' → SR
  | 0, _ => .bad
  | n + 1, ρ => (c ρ).sbind fun d ρ1 => match truD d with
    | some true => match f ρ1 with
      | .nx ρ' => whlLoop c f n ρ'
      | .cont ρ' => whlLoop c f n ρ'
      | .brk ρ' => .nx ρ'
      | r => r
    | some false => .nx ρ1
    | none => .bad
/-- a list of one's own, its items one's own too: each in its turn -/
def ownLoop (f : Env' → SR) (x o : Nat) : List D → List D → Env' → SR
  | [], acc, ρ => .nx (ρ.set o (some (.lst true acc)))
  | d :: r, acc, ρ => if x < ρ.length then match f ((ρ.set o none).set x (some d)) with
      | .nx ρ' => match ρ'[x]? with
        | some (some d') => ownLoop f x o r (acc ++ [d']) (ρ'.set x none)
        | _ => .bad
      | _ => .bad
    else .bad
def putAll : List Nat → List D → Env' → Option Env'
  | [], [], ρ => some ρ
  | i :: is, d :: ds, ρ => if i < ρ.length then putAll is ds (ρ.set i (some d)) else none
  | _, _, _ => none
mutual
def ex : S → Env' → SR
  | .asg t e, ρ => (ev call e ρ).sbind fun d ρ1 => if !shares e || d.pure then match t.put d ρ1 with
      | some ρ2 => .nx ρ2
      | none => .bad
    else .bad
  | .multi is es, ρ => (evC call es ρ).sbind fun ds ρ1 => match putAll is ds ρ1 with
      | some ρ2 => .nx ρ2
      | none => .bad
  | .aug i o e, ρ => match ρ[i]? with
    | some (some _) => (ev call e ρ).sbind fun d ρ1 => match ρ1[i]? with
      | some (some x) => if flat2 x then match binO o x d with
        | some y => .nx (ρ1.set i (some y))
        | none => .bad
        else .bad
      | _ => .bad
    | _ => .bad
  | .expr e, ρ => (ev call e ρ).sbind fun _ ρ1 => .nx ρ1
  | .store i ps ix e, ρ => (ev call e ρ).sbind fun d ρ1 => match ρ1[i]? with
      | some (some x) => if (!shares e || d.pure) && quietL ps && quiet ix then (evR call ps ρ1).sbind fun is ρ2 => match intsO is with
          | some js => if isPath js x then (ev call ix ρ2).sbind fun k ρ3 => match k with
            | .int k => match atPath (setO k d) js x with
              | some (x', _) => .nx (ρ3.set i (some x'))
              | none => .bad
            | _ => .bad
            else .bad
          | none => .bad
        else .bad
      | _ => .bad
  | .dstore i k e, ρ => (ev call e ρ).sbind fun d ρ1 => match ρ1[i]? with
      | some (some _) => if d.pure then (ev call k ρ1).sbind fun kd ρ2 => match ρ2[i]? with
          | some (some x) => match dput x kd d with
            | some x' => .nx (ρ2.set i (some x'))
            | none => .bad
          | _ => .bad
        else .bad
      | _ => .bad
  | .ifs c a b, ρ => (ev call c ρ).sbind fun d ρ1 => match truD d with
      | some true => exs a ρ1
      | some false => exs b ρ1
      | none => .bad
  | .whl n c b, ρ => whlLoop (ev call c) (exs b) n ρ
  | .fors t k es b, ρ => (evC call es ρ).sbind fun ds ρ1 => if canL ds then match itD k (frzL ds) with
      | some xs => forLoop (fun x ρ => match t.put x ρ with
          | some ρ' => exs b ρ'
          | none => .bad) xs ρ1
      | none => .bad
    else .bad
  | .forO x o b, ρ => match ρ[o]? with
    | some (some (.lst true xs)) => if x = o then .bad else ownLoop (exs b) x o xs [] (ρ.set o none)
    | _ => .bad
  | .ret e, ρ => (ev call e ρ).sbind fun d ρ1 => if !shares e || d.pure then .ret d ρ1 else .bad
  | .retN, ρ => .ret .non ρ
  | .pass, ρ => .nx ρ
  | .brk, ρ => .brk ρ
  | .cont, ρ => .cont ρ
  | .frz i, ρ => match ρ[i]? with | some (some d) => if d.cand then .nx (ρ.set i (some d.frz)) else .bad | _ => .bad
  | .bad, _ => .bad
def exs : List S → Env' → SR
  | [], ρ => .nx ρ
  | s :: r, ρ => match ex s ρ with
    | .nx ρ' => exs r ρ'
    | x => x
end
end
/-- a def: its parameters' number, its slots' number, which parameters are given back, its body -/
structure FD where
  np : Nat
  ns : Nat
  io : List Bool
  body : List S
def outsOf : Env' → List Bool → List (Option D)
  | _, [] => []
  | [], _ :: r => none :: outsOf [] r
  | o :: ρ, b :: r => (if b then o else none) :: outsOf ρ r
/-- the table's defs, run n deep -/
def run (tb : Str → Option FD) : Nat → CallT
  | 0, _, _ => .bad
  | n + 1, f, ds => match tb f with
    | none => .bad
    | some fd => if ds.length = fd.np then match exs (run tb n) fd.body (ds.map some ++ List.replicate (fd.ns - ds.length) none) with
        | .ret d ρ => .ok d (outsOf ρ fd.io)
        | .nx ρ => .ok .non (outsOf ρ fd.io)
        | .err x ρ => .err x (outsOf ρ fd.io)
        | _ => .bad
      else .bad
end VI

namespace VI
variable [Tn]
open PySem PySem.Spec L2
abbrev SG := List (Option V)
section
variable (K : PySem.W.Frag) (mg : Str → Option Value)
inductive FzF (F : Hp) : List (Str × V) → List (Str × D) → Prop
  | nil : FzF F [] []
  | cons {k v d vs ds} : Fz K F v d → FzF F vs ds → FzF F ((k, v) :: vs) ((k, d) :: ds)
/-- an exception's own data -/
def XOk (F H : Hp) (cls : Value) (dx : Option Addr) (x : Ex) : Prop :=
  ∃ C, cls = .ref C ∧ mg x.1 = some (.ref C) ∧ match dx with
    | none => x.2 = []
    | some a => ∃ vs, H a = some (.xd vs) ∧ FzF K F vs x.2
/-- what follows a raised exception -/
def PX (W : WX) (F H : Hp) (A : AS) (σ : SG) (x : Ex) (ρ' : Env') : Prop :=
  ∀ cls dx F' H' A', Ext F H A F' H' A' → Slots K mg F' H' σ ρ' A' → XOk K mg F' H' cls dx x → W cls dx σ H'
/-- what follows an expression -/
def PostE (W : WX) (F H : Hp) (A : AS) (σ : SG) (q al : Bool) (ρ : Env') (r : R D) (Q : VK) : Prop := match r with
  | .ok d ρ' => ∀ v F' H' A' B, Ext F H A F' H' (cup A' B) → Slots K mg F' H' σ ρ' A' → Own K mg F' H' v d B → (al = true → Sb B A') → (al = false → Dj A' B) → (q = true → ρ' = ρ ∧ Same H H' ∧ A' = A) → Q v H'
  | .err x ρ' => PX K mg W F H A σ x ρ'
  | .bad => False
variable (call : CallT)
def tE (e : E) (W : WX) : TE := fun σ H Q => ∃ F A ρ, Wd F H A ∧ Slots K mg F H σ ρ A ∧ PostE K mg W F H A σ (quiet e) (shares e) ρ (ev call e ρ) Q
/-- a reader's argument -/
def tR (W : WX) (e : E) : TE := match varOf e with
  | some i => tVar i
  | none => tE K mg call e W
def tRs (W : WX) : List E → TA
  | [] => fun _ H Q => Q [] H
  | e :: es => fun σ H Q => tR K mg call W e σ H fun x H1 => tRs W es σ H1 fun xs H2 => Q (x :: xs) H2
def tCs (W : WX) : List E → TA
  | [] => fun _ H Q => Q [] H
  | e :: es => fun σ H Q => tE K mg call e W σ H fun x H1 => tCs W es σ H1 fun xs H2 => Q (x :: xs) H2
/-- data that can be read, by the expressions -/
inductive RL (F H : Hp) (A : AS) : List E → List V → List D → Prop
  | nil : RL F H A [] [] []
  | cons {e es v vs d ds B} : Own K mg F H v d B → (shares e = true → Sb B A) → RL F H A es vs ds → RL F H A (e :: es) (v :: vs) (d :: ds)
def PostR (W : WX) (F H : Hp) (A : AS) (σ : SG) (es : List E) (ρ : Env') (r : R (List D)) (G : List V → Hp → Prop) : Prop := match r with
  | .ok ds ρ' => ∀ vs F' H' A', Ext F H A F' H' A' → Slots K mg F' H' σ ρ' A' → RL K mg F' H' A' es vs ds → (quietL es = true → ρ' = ρ ∧ Same H H' ∧ A' = A) → G vs H'
  | .err x ρ' => PX K mg W F H A σ x ρ'
  | .bad => False
def PostC (W : WX) (F H : Hp) (A : AS) (σ : SG) (es : List E) (ρ : Env') (r : R (List D)) (G : List V → Hp → Prop) : Prop := match r with
  | .ok ds ρ' => ∀ vs F' H' A' B, Ext F H A F' H' (cup A' B) → Slots K mg F' H' σ ρ' A' → OwnL K mg F' H' vs ds B → Dj A' B → (quietL es = true → ρ' = ρ ∧ Same H H' ∧ A' = A) → G vs H'
  | .err x ρ' => PX K mg W F H A σ x ρ'
  | .bad => False
end
section
variable {K : PySem.W.Frag} {mg : Str → Option Value} {call : CallT} {W : WX}
theorem PX.trans {F H F1 H1 : Hp} {A A1 : AS} {σ : SG} {x : Ex} {ρ' : Env'} (w : Wd F H A) (e : Ext F H A F1 H1 A1) (p : PX K mg W F H A σ x ρ') : PX K mg W F1 H1 A1 σ x ρ' :=
  fun cls dx F' H' A' e' s y => p cls dx F' H' A' (e.trans w e') s y
theorem PostE.imp {F H : Hp} {A : AS} {σ : SG} {q al : Bool} {ρ : Env'} {r : R D} {Q Q' : VK} (p : PostE K mg W F H A σ q al ρ r Q) (h : ∀ v H', Q v H' → Q' v H') : PostE K mg W F H A σ q al ρ r Q' := by
  cases r with
  | ok d ρ' => exact fun v F' H' A' B a b c d e f => h _ _ (p v F' H' A' B a b c d e f)
  | err x ρ' => exact p
  | bad => exact p
theorem cupR {A B : AS} (h : Sb B A) : Sb (cup A B) A := fun a x => x.elim id (h a)
theorem quietL_cons {e : E} {es : List E} (h : quietL (e :: es) = true) : quiet e = true ∧ quietL es = true := by
  simpa only [quietL, Bool.and_eq_true] using h
theorem Same.rfl' {H : Hp} : Same H H := fun _ _ e => e
theorem varOf_some {e : E} {i : Nat} (h : varOf e = some i) : e = .var i := by
  cases e with
  | var j => simp only [varOf, Option.some.injEq] at h; rw [h]
  | _ => simp [varOf] at h
theorem slot_val {F H F' H' : Hp} {A A' : AS} {σ : SG} {ρ ρ' : Env'} {i : Nat} {d d' : D} {v : V} (hv : σ[i]? = some (some v)) (s : Slots K mg F' H' σ ρ' A') (h : ρ'[i]? = some (some d')) :
    ∃ B, Own K mg F' H' v d' B ∧ Sb B A' := by
  obtain ⟨v', A1, A2, h1, h2, _, _, h5, _⟩ := s.get h
  rw [hv] at h1
  cases h1
  exact ⟨A1, h2, h5⟩
/-- readers' arguments, one behind another -/
theorem seqR : ∀ (es : List E) {σ : SG} {H F : Hp} {A : AS} {ρ : Env'} {G : List V → Hp → Prop}, Wd F H A → Slots K mg F H σ ρ A → PostR K mg W F H A σ es ρ (evR call es ρ) G → tRs K mg call W es σ H G
  | [], σ, H, F, A, ρ, G, w, s, p => by
    simp only [evR, PostR] at p
    exact p [] F H A (Ext.refl w) s .nil fun _ => by first | exact ⟨rfl, Same.rfl', rfl⟩ | exact ⟨Same.rfl', rfl⟩ | exact ⟨trivial, Same.rfl', rfl⟩
  | e :: es, σ, H, F, A, ρ, G, w, s, p => by
    cases hv : varOf e with
    | some i =>
      have ee := varOf_some hv
      subst ee
      simp only [evR, varOf] at p
      cases h0 : ρ[i]? with
      | none => simp only [h0, PostR] at p
      | some o =>
      cases o with
      | none => simp only [h0, PostR] at p
      | some d0 =>
      simp only [h0] at p
      obtain ⟨v, A1, A2, h1, h2, _, _, h5, _⟩ := s.get h0
      show tVar i σ H fun x H1 => tRs K mg call W es σ H1 fun xs H2 => G (x :: xs) H2
      refine ⟨v, h1, ?_⟩
      refine seqR es w s ?_
      cases hr : evR call es ρ with
      | bad => simp only [hr, R.bind, PostR] at p
      | err x ρ' => simp only [hr, R.bind, PostR] at p; exact p
      | ok ds ρ2 =>
        simp only [hr, R.bind] at p
        cases h2' : ρ2[i]? with
        | none => simp only [h2', PostR] at p
        | some o2 =>
        cases o2 with
        | none => simp only [h2', PostR] at p
        | some d =>
        simp only [h2', PostR] at p
        intro vs F' H' A' ex s' rl q
        obtain ⟨B, ow, sb⟩ := slot_val (F := F) (H := H) (A := A) (ρ := ρ) (d := d0) h1 s' h2'
        refine p (v :: vs) F' H' A' ex s' (.cons ow (fun _ => sb) rl) fun hq => q (quietL_cons hq).2
    | none =>
      simp only [evR, hv] at p
      show tR K mg call W e σ H fun x H1 => tRs K mg call W es σ H1 fun xs H2 => G (x :: xs) H2
      unfold tR
      rw [hv]
      refine ⟨F, A, ρ, w, s, ?_⟩
      cases h1 : ev call e ρ with
      | bad => simp only [h1, R.bind, PostR] at p
      | err x ρ' => simp only [h1, R.bind, PostR] at p; exact p
      | ok d ρ1 =>
        simp only [h1, R.bind] at p
        intro v F1 H1 A1 B e1 s1 o1 al1 dj1 q1
        refine seqR es (e1.wd.sub Sb.l) s1 ?_
        cases h2 : evR call es ρ1 with
        | bad => simp only [h2, PostR] at p
        | err x ρ' => simp only [h2, PostR] at p; exact fun cls dx F' H' A' e' s' y => p cls dx F' H' A' (e1.trans w (e'.more Sb.l)) s' y
        | ok ds ρ2 =>
          simp only [h2] at p
          by_cases hc : (!shares e || d.pure || quietL es) = true
          · rw [if_pos hc] at p
            intro vs F2 H2 A2 e2 s2 rl q2
            have ext : Ext F H A F2 H2 A2 := e1.trans w (e2.more Sb.l)
            have fin : ∀ {B'}, Own K mg F2 H2 v d B' → (shares e = true → Sb B' A2) → G (v :: vs) H2 := fun o b => p (v :: vs) F2 H2 A2 ext s2 (.cons o b rl) fun hq => by
              obtain ⟨k1, k2⟩ := quietL_cons hq
              obtain ⟨r1, r2, r3⟩ := q1 k1
              obtain ⟨t1, t2, t3⟩ := q2 k2
              exact ⟨t1.trans r1, fun a o h => t2 a o (r2 a o h), t3.trans r3⟩
            cases ha : shares e with
            | false => exact fin (Own.ext e2 (dj1 ha) o1) fun z => by rw [ha] at z; cases z
            | true =>
              simp only [ha, Bool.not_true, Bool.false_or, Bool.or_eq_true] at hc
              rcases hc with hc | hc
              · exact fin (B' := no) (.fz (Fz.up e2.fsame (o1.fzd hc))) fun _ => Sb.no_l
              · obtain ⟨t1, t2, t3⟩ := q2 hc
                refine fin (Own.move e2.fsame (fun a o _ h => t2 a o h) o1) fun _ => ?_
                rw [t3]; exact al1 ha
          · rw [if_neg hc] at p; exact p.elim
/-- takers' arguments, one behind another -/
theorem seqC : ∀ (es : List E) {σ : SG} {H F : Hp} {A : AS} {ρ : Env'} {G : List V → Hp → Prop}, Wd F H A → Slots K mg F H σ ρ A → PostC K mg W F H A σ es ρ (evC call es ρ) G → tCs K mg call W es σ H G
  | [], σ, H, F, A, ρ, G, w, s, p => by
    simp only [evC, PostC] at p
    refine p [] F H A no ?_ s .nil Dj.no_r fun _ => by first | exact ⟨rfl, Same.rfl', rfl⟩ | exact ⟨Same.rfl', rfl⟩ | exact ⟨trivial, Same.rfl', rfl⟩
    have e : cup A no = A := funext fun a => propext ⟨fun h => h.elim id fun z => z.elim, .inl⟩
    rw [e]; exact Ext.refl w
  | e :: es, σ, H, F, A, ρ, G, w, s, p => by
    simp only [evC] at p
    refine ⟨F, A, ρ, w, s, ?_⟩
    cases h1 : ev call e ρ with
    | bad => simp only [h1, R.bind, PostC] at p
    | err x ρ' => simp only [h1, R.bind, PostC] at p; exact p
    | ok d ρ1 =>
      simp only [h1, R.bind] at p
      intro v F1 H1 A1 B e1 s1 o1 al1 dj1 q1
      refine seqC es (e1.wd.sub Sb.l) s1 ?_
      cases h2 : evC call es ρ1 with
      | bad => simp only [h2, PostC] at p
      | err x ρ' => simp only [h2, PostC] at p; exact fun cls dx F' H' A' e' s' y => p cls dx F' H' A' (e1.trans w (e'.more Sb.l)) s' y
      | ok ds ρ2 =>
        simp only [h2] at p
        by_cases hc : (!shares e || d.pure) = true
        · rw [if_pos hc] at p
          intro vs F2 H2 A2 B2 e2 s2 ol dj2 q2
          have quiets : quietL (e :: es) = true → ρ2 = ρ ∧ Same H H2 ∧ A2 = A := fun hq => by
            obtain ⟨k1, k2⟩ := quietL_cons hq
            obtain ⟨r1, r2, r3⟩ := q1 k1
            obtain ⟨t1, t2, t3⟩ := q2 k2
            exact ⟨t1.trans r1, fun a o h => t2 a o (r2 a o h), t3.trans r3⟩
          by_cases ha : shares e = false
          · have dj := dj1 ha
            obtain ⟨f1, f2⟩ := Ext.frame e1.wd dj e2
            have f3 : Ext F H A F2 H2 (cup (cup A2 B2) B) := e1.trans w f1
            have eqs : cup (cup A2 B2) B = cup A2 (cup B B2) := funext fun a => propext ⟨fun h => h.elim (fun h => h.elim .inl fun h => .inr (.inr h)) fun h => .inr (.inl h), fun h => h.elim (fun h => .inl (.inl h)) fun h => h.elim .inr fun h => .inl (.inr h)⟩
            rw [eqs] at f3
            refine p (v :: vs) F2 H2 A2 (cup B B2) f3 s2 (.cons (Own.ext e2 dj o1) ol (fun a x y => f2 a (.inr y) x) Sb.l Sb.r) (fun a x y => ?_) quiets
            rcases y with y | y
            · exact f2 a (.inl x) y
            · exact dj2 a x y
          · have hp : d.pure = true := by
              cases hal : shares e with
              | false => exact absurd hal ha
              | true => simpa [hal] using hc
            have fz := Fz.up e2.fsame (o1.fzd hp)
            refine p (v :: vs) F2 H2 A2 B2 (e1.trans w (e2.more Sb.l)) s2 (.cons (A1 := no) (A2 := B2) (.fz fz) ol Dj.no_l Sb.no_l Sb.rfl') dj2 quiets
        · rw [if_neg hc] at p; exact p.elim
end
end VI

namespace VI
variable [Tn]
open PySem PySem.Spec L2
section
variable {K : PySem.W.Frag} {mg : Str → Option Value} {F H : Hp} {A B : AS}
/-! ### what the data says of the value -/
theorem Own.non {v : V} (o : Own K mg F H v .non B) : v = .non := by
  cases o with
  | fz h => cases h; rfl
theorem Own.bl {v : V} {b : Bool} (o : Own K mg F H v (.bl b) B) : v = .bl b := by
  cases o with
  | fz h => cases h; rfl
theorem Own.int {v : V} {i : Int} (o : Own K mg F H v (.int i) B) : v = .int i := by
  cases o with
  | fz h => cases h; rfl
theorem Own.str {v : V} {l : List Nat} (o : Own K mg F H v (.str l) B) : v = .str ⟨l.toArray⟩ ∧ okCs l = true := by
  cases o with
  | fz h => cases h with | str _ h => exact ⟨rfl, h⟩
mutual
theorem Fz.own {v : V} {d : D} (h : Fz K F v d) : Own K mg F H v d no := .fz h
theorem FzL.own : ∀ {vs : List V} {ds : List D}, FzL K F vs ds → OwnL K mg F H vs ds no
  | _, _, .nil => .nil
  | _, _, .cons h r => .cons (A1 := no) (A2 := no) (.fz h) (FzL.own r) Dj.no_l Sb.no_l Sb.no_l
end
theorem FzL.len : ∀ {vs : List V} {ds : List D}, FzL K F vs ds → vs.length = ds.length
  | _, _, .nil => rfl
  | _, _, .cons _ r => by simp [FzL.len r]
theorem OwnL.len : ∀ {vs : List V} {ds : List D} {B : AS}, OwnL K mg F H vs ds B → vs.length = ds.length
  | _, _, _, .nil => rfl
  | _, _, _, .cons _ r _ _ _ => by simp [OwnL.len r]
theorem Own.lstv {v : V} {m : Bool} {ds : List D} (s : Same F H) (o : Own K mg F H v (.lst m ds) B) : ∃ a vs, v = .ref a ∧ H a = some (.lst vs) ∧ OwnL K mg F H vs ds B := by
  cases o with
  | fz h => cases h with | lst h r => exact ⟨_, _, rfl, s _ _ h, (FzL.own r).sub Sb.no_l⟩
  | lst h _ _ e r => exact ⟨_, _, rfl, h, r.sub e⟩
theorem Own.tupv {v : V} {ds : List D} (s : Same F H) (o : Own K mg F H v (.tup ds) B) : ∃ a vs, v = .ref a ∧ SqT K H a vs ∧ SqT K F a vs ∧ FzL K F vs ds := by
  cases o with
  | fz h => cases h with | tup h r => exact ⟨_, _, rfl, SqT.of (s _ _ h), SqT.of h, r⟩
theorem Own.tupx {v : V} {ds : List D} (o : Own K mg F H v (.tup ds) B) : ∃ a vs, v = .ref a ∧ F a = some (.tup vs) ∧ FzL K F vs ds := by
  cases o with
  | fz h => cases h with | tup h r => exact ⟨_, _, rfl, h, r⟩
theorem Own.scrv {v : V} {ns : List Int} (s : Same F H) (o : Own K mg F H v (.scr ns) B) : ∃ a, v = .ref a ∧ SqL K H a (ns.map V.int) := by
  cases o with
  | fz h => cases h with | scr h => exact ⟨_, rfl, SqL.up s h⟩
theorem FzL.append : ∀ {vs : List V} {ds : List D} {ws : List V} {es : List D}, FzL K F vs ds → FzL K F ws es → FzL K F (vs ++ ws) (ds ++ es)
  | _, _, _, _, .nil, s => s
  | _, _, _, _, .cons h r, s => .cons h (FzL.append r s)
theorem FzL.take : ∀ (n : Nat) {vs : List V} {ds : List D}, FzL K F vs ds → FzL K F (vs.take n) (ds.take n)
  | 0, _, _, _ => .nil
  | _ + 1, _, _, .nil => .nil
  | n + 1, _, _, .cons h r => .cons h (FzL.take n r)
theorem FzL.drop : ∀ (n : Nat) {vs : List V} {ds : List D}, FzL K F vs ds → FzL K F (vs.drop n) (ds.drop n)
  | 0, _, _, h => h
  | _ + 1, _, _, .nil => .nil
  | n + 1, _, _, .cons h r => FzL.drop n r
theorem FzL.rev : ∀ {vs : List V} {ds : List D}, FzL K F vs ds → FzL K F vs.reverse ds.reverse
  | _, _, .nil => .nil
  | _, _, .cons h r => by rw [List.reverse_cons, List.reverse_cons]; exact (FzL.rev r).append (.cons h .nil)
theorem FzL.rep (k : Nat) {vs : List V} {ds : List D} (h : FzL K F vs ds) : FzL K F (List.replicate k vs).flatten (List.replicate k ds).flatten := by
  induction k with
  | zero => exact .nil
  | succ k ih => rw [List.replicate_succ, List.replicate_succ, List.flatten_cons, List.flatten_cons]; exact h.append ih
theorem FzL.at : ∀ {vs : List V} {ds : List D} {i : Nat} {d : D}, FzL K F vs ds → ds[i]? = some d → ∃ v, vs[i]? = some v ∧ Fz K F v d
  | _, _, _, _, .nil, e => by simp at e
  | _, _, 0, _, .cons h _, e => by simp at e; subst e; exact ⟨_, rfl, h⟩
  | _, _, i + 1, _, .cons _ r, e => by
    obtain ⟨v, h1, h2⟩ := FzL.at (i := i) r (by simpa using e)
    exact ⟨v, by simpa using h1, h2⟩
theorem OwnL.at : ∀ {vs : List V} {ds : List D} {B : AS} {i : Nat} {d : D}, OwnL K mg F H vs ds B → ds[i]? = some d → ∃ v B', vs[i]? = some v ∧ Own K mg F H v d B' ∧ Sb B' B
  | _, _, _, _, _, .nil, e => by simp at e
  | _, _, _, 0, _, .cons h _ _ b _, e => by simp at e; subst e; exact ⟨_, _, rfl, h, b⟩
  | _, _, _, i + 1, _, .cons _ r _ _ c, e => by
    obtain ⟨v, B', h1, h2, h3⟩ := OwnL.at (i := i) r (by simpa using e)
    exact ⟨v, B', by simpa using h1, h2, h3.trans c⟩
theorem atI_fz {vs : List V} {ds : List D} {i : Int} {d : D} (h : FzL K F vs ds) (e : atI ds i = some d) : ∃ v, atI vs i = some v ∧ Fz K F v d := by
  unfold atI at e ⊢
  rw [h.len]
  cases hj : ixN ds.length i with
  | none => rw [hj] at e; cases e
  | some j => rw [hj] at e; exact h.at e
theorem atI_own {vs : List V} {ds : List D} {i : Int} {d : D} (h : OwnL K mg F H vs ds B) (e : atI ds i = some d) : ∃ v B', atI vs i = some v ∧ Own K mg F H v d B' ∧ Sb B' B := by
  unfold atI at e ⊢
  rw [h.len]
  cases hj : ixN ds.length i with
  | none => rw [hj] at e; cases e
  | some j => rw [hj] at e; exact h.at e
theorem intsO_some : ∀ {ds : List D} {ns : List Int}, intsO ds = some ns → ds = ns.map .int
  | [], ns, h => by simp [intsO] at h; subst h; rfl
  | .int i :: r, ns, h => by
    simp only [intsO, Option.map_eq_some_iff] at h
    obtain ⟨ms, h1, h2⟩ := h
    subst h2; rw [intsO_some h1]; rfl
  | .non :: _, _, h | .bl _ :: _, _, h | .str _ :: _, _, h | .tup _ :: _, _, h | .lst _ _ :: _, _, h | .dic _ _ :: _, _, h | .dit _ _ :: _, _, h | .ins _ _ :: _, _, h | .scr _ :: _, _, h => by simp [intsO] at h
theorem blsO_some : ∀ {ds : List D} {ns : List Bool}, blsO ds = some ns → ds = ns.map .bl
  | [], ns, h => by simp [blsO] at h; subst h; rfl
  | .bl i :: r, ns, h => by
    simp only [blsO, Option.map_eq_some_iff] at h
    obtain ⟨ms, h1, h2⟩ := h
    subst h2; rw [blsO_some h1]; rfl
  | .non :: _, _, h | .int _ :: _, _, h | .str _ :: _, _, h | .tup _ :: _, _, h | .lst _ _ :: _, _, h | .dic _ _ :: _, _, h | .dit _ _ :: _, _, h | .ins _ _ :: _, _, h | .scr _ :: _, _, h => by simp [blsO] at h
theorem strsO_some : ∀ {ds : List D} {ns : List (List Nat)}, strsO ds = some ns → ds = ns.map .str
  | [], ns, h => by simp [strsO] at h; subst h; rfl
  | .str i :: r, ns, h => by
    simp only [strsO, Option.map_eq_some_iff] at h
    obtain ⟨ms, h1, h2⟩ := h
    subst h2; rw [strsO_some h1]; rfl
  | .non :: _, _, h | .int _ :: _, _, h | .bl _ :: _, _, h | .tup _ :: _, _, h | .lst _ _ :: _, _, h | .dic _ _ :: _, _, h | .dit _ _ :: _, _, h | .ins _ _ :: _, _, h | .scr _ :: _, _, h => by simp [strsO] at h
theorem OwnL.ints : ∀ {ns : List Int} {vs : List V} {B : AS}, OwnL K mg F H vs (ns.map .int) B → vs = ns.map V.int
  | [], _, _, .nil => rfl
  | n :: ns, _, _, .cons h r _ _ _ => by rw [h.int, OwnL.ints r]; rfl
theorem OwnL.bls : ∀ {ns : List Bool} {vs : List V} {B : AS}, OwnL K mg F H vs (ns.map .bl) B → vs = ns.map V.bl
  | [], _, _, .nil => rfl
  | n :: ns, _, _, .cons h r _ _ _ => by rw [h.bl, OwnL.bls r]; rfl
theorem OwnL.strs : ∀ {ns : List (List Nat)} {vs : List V} {B : AS}, OwnL K mg F H vs (ns.map .str) B → vs = (ns.map ST).map V.str ∧ ns.all okCs = true
  | [], _, _, .nil => ⟨rfl, rfl⟩
  | n :: ns, _, _, .cons h r _ _ _ => by
    obtain ⟨h1, h2⟩ := h.str
    obtain ⟨r1, r2⟩ := OwnL.strs r
    exact ⟨by rw [h1, r1]; rfl, by rw [List.all_cons, h2, r2]; rfl⟩

/-! ### results -/
/-- what a reading operation may hand on -/
structure Rs (K : PySem.W.Frag) (mg : Str → Option Value) (F H : Hp) (A : AS) (al : Bool) (d : D) (Q : VK) : Prop where
  new : al = false → ∀ v F' H' B, Ext F H no F' H' B → Same H H' → Own K mg F' H' v d B → Q v H'
  same : al = true → ∀ v B, Own K mg F H v d B → Sb B A → Q v H
variable {al : Bool} {Q : VK}
theorem Rs.fz {v : V} {d : D} (w : Wd F H A) (r : Rs K mg F H A al d Q) (h : Fz K F v d) : Q v H := by
  cases al with
  | false => exact r.new rfl v F H no (Ext.refl w.no) (fun _ _ e => e) (.fz h)
  | true => exact r.same rfl v no (.fz h) Sb.no_l
theorem Rs.int {i : Int} (w : Wd F H A) (r : Rs K mg F H A al (.int i) Q) : Q (.int i) H := r.fz w (.int i)
theorem Rs.bl {b : Bool} (w : Wd F H A) (r : Rs K mg F H A al (.bl b) Q) : Q (.bl b) H := r.fz w (.bl b)
theorem Rs.str {l : List Nat} (w : Wd F H A) (r : Rs K mg F H A al (.str l) Q) (h : okCs l = true) : Q (.str ⟨l.toArray⟩) H := r.fz w (.str l h)
theorem Rs.lst {vs : List V} {ds : List D} {p : Addr} (w : Wd F H A) (r : Rs K mg F H A false (.lst true ds) Q) (h : FzL K F vs ds) (hp : H p = none) : Q (.ref p) (upd H p (.lst vs)) := by
  refine r.new rfl _ F _ (cup (fun a => a = p) no) (Ext.laid w.no hp) (fun _ _ e => (upd_ne (ne_of_none e hp)).trans e) (.lst (B := no) upd_same (.inl rfl) (fun z => z) Sb.no_l ?_)
  exact FzL.own h
theorem Rs.tup {vs : List V} {ds : List D} {p : Addr} (w : Wd F H A) (r : Rs K mg F H A false (.tup ds) Q) (h : FzL K F vs ds) (hp : H p = none) : Q (.ref p) (upd H p (.tup vs)) := by
  have e := Ext.laidF (o := .tup vs) w.no hp
  exact r.new rfl _ _ _ no e (fun _ _ e => (upd_ne (ne_of_none e hp)).trans e) (.fz (.tup upd_same (FzL.up e.fsame h)))

/-! ### signs -/
theorem okCs_app {a b : List Nat} (h : okCs a = true) (h' : okCs b = true) : okCs (a ++ b) = true := by
  unfold okCs at *; rw [List.all_append, h, h']; rfl
theorem okCs_sub {a b : List Nat} (h : okCs b = true) (s : ∀ x ∈ a, x ∈ b) : okCs a = true := by
  unfold okCs at *
  rw [List.all_eq_true] at *
  exact fun x hx => h x (s x hx)
theorem st_app (a b : List Nat) : (ST a ++ ST b : Str) = ST (a ++ b) := by
  show (⟨a.toArray ++ b.toArray⟩ : Str) = _
  simp
theorem st_len (a : List Nat) : (ST a).length = a.length := by
  show (a.toArray).size = _
  simp
theorem st_inj {a b : List Nat} (h : ST a = ST b) : a = b := by
  have := congrArg (fun s : Str => s.cps.toList) h
  simpa using this

/-! ### == -/
mutual
def toPy : D → PyData
  | .bl b => .bool b
  | .int i => .int i
  | .str l => .str ⟨l.toArray⟩
  | .tup xs => .tuple (toPyL xs)
  | .lst _ xs => .list (toPyL xs)
  | _ => .none
def toPyL : List D → List PyData
  | [] => []
  | x :: xs => toPy x :: toPyL xs
end
theorem okD_all {n : Nat} {xs : List D} (h : xs.all (okD n) = true) : ∀ x ∈ xs, okD n x = true := List.all_eq_true.mp h
mutual
theorem dp_of {n : Nat} (s : Same F H) : ∀ {v : V} {d : D} {B : AS}, Own K mg F H v d B → okD n d = true → Dp K H v (toPy d)
  | _, .non, _, o, _ => by rw [o.non]; exact .non
  | _, .bl b, _, o, _ => by rw [o.bl]; exact .bl b
  | _, .int i, _, o, _ => by rw [o.int]; exact .int i
  | _, .str l, _, o, _ => by rw [o.str.1]; exact .str _
  | _, .tup xs, _, o, h => by
    obtain ⟨a, vs, rfl, h1, _, h2⟩ := o.tupv s
    cases n with
    | zero => simp [okD] at h
    | succ n => exact .tup h1 (dpL_of (n := n) s (FzL.own (H := H) (mg := mg) h2) (by simpa [okD] using h))
  | _, .lst m xs, _, o, h => by
    obtain ⟨a, vs, rfl, h1, h2⟩ := o.lstv s
    cases n with
    | zero => simp [okD] at h
    | succ n => exact .lst (SqL.of h1) (dpL_of (n := n) s h2 (by simpa [okD] using h))
  | _, .dic _ _, _, _, h => by cases n <;> simp [okD] at h
  | _, .dit _ _, _, _, h => by cases n <;> simp [okD] at h
  | _, .ins _ _, _, _, h => by cases n <;> simp [okD] at h
  | _, .scr _, _, _, h => by cases n <;> simp [okD] at h
theorem dpL_of {n : Nat} (s : Same F H) : ∀ {vs : List V} {ds : List D} {B : AS}, OwnL K mg F H vs ds B → (∀ x ∈ ds, okD n x = true) → DpAll K H vs (toPyL ds)
  | _, [], _, .nil, _ => .nil
  | _, x :: xs, _, .cons o r _ _ _, h => .cons (dp_of s o (h x List.mem_cons_self)) (dpL_of s r fun y hy => h y (List.mem_cons_of_mem _ hy))
end
mutual
theorem lay_of {n : Nat} : ∀ {v : V} {d : D} {B : AS}, Own K mg F H v d B → okD n d = true → (toPy d).canLay0 = true ∧ (toPy d).depth ≤ n
  | _, .non, _, o, _ => by simp [toPy, PyData.canLay0, PyData.depth]
  | _, .bl b, _, o, _ => by simp [toPy, PyData.canLay0, PyData.depth]
  | _, .int i, _, o, _ => by simp [toPy, PyData.canLay0, PyData.depth]
  | _, .str l, _, o, _ => by
    have h := o.str.2
    simp only [toPy, PyData.canLay0, PyData.depth, Nat.zero_le, and_true]
    unfold okCs at h
    unfold PyData.strOk
    simpa using h
  | _, .tup xs, _, o, h => by
    cases n with
    | zero => simp [okD] at h
    | succ n =>
      cases o with
      | fz hf => cases hf with
        | tup h1 h2 =>
          have := layL_of (n := n) (FzL.own (H := H) (mg := mg) h2) (by simpa [okD] using h)
          simpa [toPy, PyData.canLay0, PyData.depth] using this
  | _, .lst m xs, _, o, h => by
    cases n with
    | zero => simp [okD] at h
    | succ n =>
      have fin : ∀ {vs B'}, OwnL K mg F H vs xs B' → (toPy (.lst m xs)).canLay0 = true ∧ (toPy (.lst m xs)).depth ≤ n + 1 := fun r => by
        have := layL_of (n := n) r (by simpa [okD] using h)
        simpa [toPy, PyData.canLay0, PyData.depth] using this
      cases o with
      | fz hf => cases hf with
        | lst h1 h2 => exact fin (FzL.own (H := H) (mg := mg) h2)
      | lst _ _ _ _ r => exact fin r
  | _, .dic _ _, _, _, h => by cases n <;> simp [okD] at h
  | _, .dit _ _, _, _, h => by cases n <;> simp [okD] at h
  | _, .ins _ _, _, _, h => by cases n <;> simp [okD] at h
  | _, .scr _, _, _, h => by cases n <;> simp [okD] at h
theorem layL_of {n : Nat} : ∀ {vs : List V} {ds : List D} {B : AS}, OwnL K mg F H vs ds B → (∀ x ∈ ds, okD n x = true) → PyData.canLayAll0 (toPyL ds) = true ∧ PyData.depthAll (toPyL ds) ≤ n
  | _, [], _, .nil, _ => by simp [toPyL, PyData.canLayAll0, PyData.depthAll]
  | _, x :: xs, _, .cons o r _ _ _, h => by
    have h1 := lay_of o (h x List.mem_cons_self)
    have h2 := layL_of r fun y hy => h y (List.mem_cons_of_mem _ hy)
    simp only [toPyL, PyData.canLayAll0, PyData.depthAll, Bool.and_eq_true]
    exact ⟨⟨h1.1, h2.1⟩, by omega⟩
end
theorem shaped_of {v : V} {d : D} (o : Own K mg F H v d B) (h : okD deep d = true) : SeqAt.shaped (toPy d) = true := by
  obtain ⟨h1, h2⟩ := lay_of o h
  unfold SeqAt.shaped
  rw [h1, decide_eq_true (show (toPy d).depth ≤ 64 from Nat.le_trans h2 (by decide))]
  rfl
theorem shapedL_of {vs : List V} {ds : List D} (o : OwnL K mg F H vs ds B) (h : ds.all (okD deep) = true) : SeqAt.shaped (.list (toPyL ds)) = true := by
  obtain ⟨h1, h2⟩ := layL_of o (okD_all h)
  have e1 : (PyData.list (toPyL ds)).canLay0 = true := by simpa [PyData.canLay0] using h1
  have e2 : (PyData.list (toPyL ds)).depth ≤ 64 := by
    have : (PyData.list (toPyL ds)).depth = PyData.depthAll (toPyL ds) + 1 := by simp [PyData.depth]
    rw [this]
    exact Nat.le_trans (Nat.succ_le_succ h2) (by decide)
  unfold SeqAt.shaped
  rw [e1, decide_eq_true e2]
  rfl
mutual
theorem eqv_deq : ∀ {n m : Nat} (a b : D), okD n a = true → okD m b = true → PyData.eqv (toPy a) (toPy b) = deq a b
  | n, m, a, b, ha, hb => by
    cases a with
    | non => cases b <;> first | rfl | (cases m <;> simp [okD] at hb)
    | bl x => cases b <;> first | rfl | (cases m <;> simp [okD] at hb)
    | int x => cases b <;> first | rfl | (cases m <;> simp [okD] at hb)
    | str x =>
      cases b with
      | str y =>
        show (ST x == ST y) = decide (x = y)
        by_cases e : x = y
        · subst e; simp
        · rw [decide_eq_false e]; exact beq_eq_false_iff_ne.mpr fun z => e (st_inj z)
      | _ => first | rfl | (cases m <;> simp [okD] at hb)
    | tup xs =>
      cases b with
      | tup ys =>
        cases n with
        | zero => simp [okD] at ha
        | succ n =>
        cases m with
        | zero => simp [okD] at hb
        | succ m => exact eqvL_deq xs ys (by simpa [okD] using ha) (by simpa [okD] using hb)
      | _ => first | rfl | (cases m <;> simp [okD] at hb)
    | lst k xs =>
      cases b with
      | lst k' ys =>
        cases n with
        | zero => simp [okD] at ha
        | succ n =>
        cases m with
        | zero => simp [okD] at hb
        | succ m => exact eqvL_deq xs ys (by simpa [okD] using ha) (by simpa [okD] using hb)
      | _ => first | rfl | (cases m <;> simp [okD] at hb)
    | dic _ _ => cases n <;> simp [okD] at ha
    | dit _ _ => cases n <;> simp [okD] at ha
    | ins _ _ => cases n <;> simp [okD] at ha
    | scr _ => cases n <;> simp [okD] at ha
theorem eqvL_deq : ∀ {n m : Nat} (a b : List D), (∀ x ∈ a, okD n x = true) → (∀ x ∈ b, okD m x = true) → PyData.eqvAll (toPyL a) (toPyL b) = deqL a b
  | _, _, [], [], _, _ => rfl
  | _, _, [], _ :: _, _, _ => rfl
  | _, _, _ :: _, [], _, _ => rfl
  | n, m, x :: xs, y :: ys, ha, hb => by
    show (PyData.eqv (toPy x) (toPy y) && PyData.eqvAll (toPyL xs) (toPyL ys)) = (deq x y && deqL xs ys)
    rw [eqv_deq x y (ha x List.mem_cons_self) (hb y List.mem_cons_self), eqvL_deq xs ys (fun z hz => ha z (List.mem_cons_of_mem _ hz)) fun z hz => hb z (List.mem_cons_of_mem _ hz)]
end
theorem inO_any {n m : Nat} (x : D) (hx : okD n x = true) : ∀ ys : List D, (∀ y ∈ ys, okD m y = true) → ((toPyL ys).any fun z => PyData.eqv z (toPy x)) = inO x ys
  | [], _ => rfl
  | y :: ys, h => by
    show (PyData.eqv (toPy y) (toPy x) || (toPyL ys).any _) = (deq y x || inO x ys)
    rw [eqv_deq y x (h y List.mem_cons_self) hx, inO_any x hx ys fun z hz => h z (List.mem_cons_of_mem _ hz)]
end
end VI

namespace VI
variable [Tn]
open PySem PySem.Spec L2
section
variable {K : PySem.W.Frag} {mg : Str → Option Value} {F H : Hp} {A B : AS}
theorem keyD_fz {v : V} {d : D} {k : Key} (o : Own K mg F H v d B) (h : keyD d = some k) : v = kV k ∧ okK k = true := by
  cases d <;> simp only [keyD, Option.some.injEq] at h <;> try (cases h; done)
  · subst h; exact ⟨o.int, rfl⟩
  · subst h
    obtain ⟨e, c⟩ := o.str
    exact ⟨e, by show okCs (_ : List Nat) = true; simpa using c⟩
theorem keysD_fz : ∀ {vs : List V} {ds : List D} {ks : List Key}, FzL K F vs ds → keysD ds = some ks → vs = ks.map kV ∧ okKs ks = true
  | _, _, ks, .nil, h => by simp only [keysD, Option.some.injEq] at h; subst h; exact ⟨rfl, rfl⟩
  | _, _, ks, .cons o r, h => by
    simp only [keysD, Option.bind_eq_some_iff, Option.map_eq_some_iff] at h
    obtain ⟨k, h1, r', h2, rfl⟩ := h
    obtain ⟨e1, e2⟩ := keyD_fz (mg := fun _ => none) (H := F) (B := no) (.fz o) h1
    obtain ⟨e3, e4⟩ := keysD_fz r h2
    exact ⟨by rw [e1, e3]; rfl, by show (okK k && okKs r') = true; rw [e2, e4]; rfl⟩
theorem dKey_fz {k : Key} (h : okK k = true) : Fz K F (kV k) (dKey k) := by
  cases k with
  | inl i => exact .int i
  | inr x => exact .str x.cps.toList h
theorem dKeys_fz : ∀ {ks : List Key}, okKs ks = true → FzL K F (ks.map kV) (ks.map dKey)
  | [], _ => .nil
  | k :: r, h => by
    have h : (okK k && okKs r) = true := h
    rw [Bool.and_eq_true] at h
    exact .cons (dKey_fz h.1) (dKeys_fz h.2)
theorem FzK.keys : ∀ {vs : List (Key × V)} {ds : List (Key × D)}, FzK K F vs ds → vs.map (·.1) = ds.map (·.1)
  | _, _, .nil => rfl
  | _, _, .cons _ _ r => by simp [FzK.keys r]
theorem OwnK.keys : ∀ {vs : List (Key × V)} {ds : List (Key × D)} {B : AS}, OwnK K mg F H vs ds B → vs.map (·.1) = ds.map (·.1)
  | _, _, _, .nil => rfl
  | _, _, _, .cons _ _ r _ _ _ => by simp [OwnK.keys r]
theorem FzK.len {vs : List (Key × V)} {ds : List (Key × D)} (h : FzK K F vs ds) : vs.length = ds.length := by
  have := congrArg List.length h.keys
  simpa using this
theorem OwnK.len {vs : List (Key × V)} {ds : List (Key × D)} (h : OwnK K mg F H vs ds B) : vs.length = ds.length := by
  have := congrArg List.length h.keys
  simpa using this
theorem FzK.own : ∀ {vs : List (Key × V)} {ds : List (Key × D)}, FzK K F vs ds → OwnK K mg F H vs ds no
  | _, _, .nil => .nil
  | _, _, .cons o h r => .cons (A1 := no) (A2 := no) o (.fz h) (FzK.own r) Dj.no_l Sb.no_l Sb.no_l
theorem OwnK.sub' {A A' : AS} (h : Sb A A') : ∀ {vs : List (Key × V)} {ds : List (Key × D)}, OwnK K mg F H vs ds A → OwnK K mg F H vs ds A'
  | _, _, .nil => .nil
  | _, _, .cons o x r a b c => .cons o x r a (b.trans h) (c.trans h)
theorem OwnK.get (k : Key) : ∀ {vs : List (Key × V)} {ds : List (Key × D)} {B : AS}, OwnK K mg F H vs ds B → (∀ d, vGet ds k = some d → ∃ v B', valV vs k = some v ∧ Own K mg F H v d B' ∧ Sb B' B) ∧ (vGet ds k = none → valV vs k = none)
  | _, _, _, .nil => ⟨fun d h => by simp [vGet] at h, fun _ => rfl⟩
  | _, _, _, .cons (k := k') (v := v) (d := d) (vs := vs) (ds := ds) o x r a b c => by
    obtain ⟨h1, h2⟩ := OwnK.get k r
    by_cases e : k' = k
    · subst e
      refine ⟨fun d' h => ?_, fun h => by simp [vGet] at h⟩
      have : d = d' := by simpa [vGet] using h
      subst this
      exact ⟨v, _, valV_pos (p := (k', v)) rfl, x, b⟩
    · have e1 : valV ((k', v) :: vs) k = valV vs k := valV_neg (p := (k', v)) e
      have e2 : vGet ((k', d) :: ds) k = vGet ds k := by simp [vGet, List.find?_cons, e]
      rw [e1, e2]
      exact ⟨fun d' h => (by obtain ⟨w, B', q1, q2, q3⟩ := h1 d' h; exact ⟨w, B', q1, q2, q3.trans c⟩), h2⟩
theorem FzK.map_put {k : Key} {v : V} {d : D} (f : Fz K F v d) : ∀ {vs : List (Key × V)} {ds : List (Key × D)}, FzK K F vs ds → FzK K F (vs.map fun kv => if kv.1 = k then (kv.1, v) else kv) (ds.map fun kv => if kv.1 = k then (kv.1, d) else kv)
  | _, _, .nil => .nil
  | _, _, .cons (k := k') o x r => by
    rw [List.map_cons, List.map_cons]
    by_cases e : k' = k
    · rw [if_pos e, if_pos e]; exact .cons o f (FzK.map_put f r)
    · rw [if_neg e, if_neg e]; exact .cons o x (FzK.map_put f r)
theorem FzK.snoc {k : Key} {v : V} {d : D} (ok : okK k = true) (f : Fz K F v d) : ∀ {vs : List (Key × V)} {ds : List (Key × D)}, FzK K F vs ds → FzK K F (vs ++ [(k, v)]) (ds ++ [(k, d)])
  | _, _, .nil => .cons ok f .nil
  | _, _, .cons o x r => .cons o x (FzK.snoc ok f r)
theorem any_keysK {vs : List (Key × V)} {ds : List (Key × D)} (h : vs.map (·.1) = ds.map (·.1)) (k : Key) : (vs.any fun kv => decide (kv.1 = k)) = (ds.any fun kv => decide (kv.1 = k)) := by
  have e : ∀ {α : Type} (l : List (Key × α)), (l.any fun kv => decide (kv.1 = k)) = ((l.map (·.1)).any fun x => decide (x = k)) := fun l => by rw [List.any_map]; rfl
  rw [e, e, h]
theorem FzK.put {k : Key} {v : V} {d : D} (ok : okK k = true) (f : Fz K F v d) {vs : List (Key × V)} {ds : List (Key × D)} (h : FzK K F vs ds) : FzK K F (putK vs k v) (vPut ds k d) := by
  unfold putK vPut
  rw [any_keysK h.keys k]
  split
  · exact FzK.map_put f h
  · exact FzK.snoc ok f h
theorem OwnK.map_put {k : Key} {v : V} {d : D} (f : Fz K F v d) : ∀ {vs : List (Key × V)} {ds : List (Key × D)} {B : AS}, OwnK K mg F H vs ds B → OwnK K mg F H (vs.map fun kv => if kv.1 = k then (kv.1, v) else kv) (ds.map fun kv => if kv.1 = k then (kv.1, d) else kv) B
  | _, _, _, .nil => .nil
  | _, _, _, .cons (k := k') (A1 := A1) (A2 := A2) o x r a b c => by
    rw [List.map_cons, List.map_cons]
    by_cases e : k' = k
    · rw [if_pos e, if_pos e]; exact .cons (A1 := no) (A2 := A2) o (.fz f) (OwnK.map_put f r) Dj.no_l Sb.no_l c
    · rw [if_neg e, if_neg e]; exact .cons o x (OwnK.map_put f r) a b c
theorem OwnK.snoc {k : Key} {v : V} {d : D} (ok : okK k = true) (f : Fz K F v d) : ∀ {vs : List (Key × V)} {ds : List (Key × D)} {B : AS}, OwnK K mg F H vs ds B → OwnK K mg F H (vs ++ [(k, v)]) (ds ++ [(k, d)]) B
  | _, _, _, .nil => .cons (A1 := no) (A2 := no) ok (.fz f) .nil Dj.no_l Sb.no_l Sb.no_l
  | _, _, _, .cons o x r a b c => .cons o x (OwnK.snoc ok f r) a b c
theorem OwnK.put {k : Key} {v : V} {d : D} (ok : okK k = true) (f : Fz K F v d) {vs : List (Key × V)} {ds : List (Key × D)} (h : OwnK K mg F H vs ds B) : OwnK K mg F H (putK vs k v) (vPut ds k d) B := by
  unfold putK vPut
  rw [any_keysK h.keys k]
  split
  · exact OwnK.map_put f h
  · exact OwnK.snoc ok f h
theorem FzT.keys : ∀ {vs : List (List Key × V)} {ds : List (List Key × D)}, FzT K F vs ds → vs.map (·.1) = ds.map (·.1)
  | _, _, .nil => rfl
  | _, _, .cons _ _ r => by simp [FzT.keys r]
theorem OwnT.keys : ∀ {vs : List (List Key × V)} {ds : List (List Key × D)} {B : AS}, OwnT K mg F H vs ds B → vs.map (·.1) = ds.map (·.1)
  | _, _, _, .nil => rfl
  | _, _, _, .cons _ _ r _ _ _ => by simp [OwnT.keys r]
theorem FzT.len {vs : List (List Key × V)} {ds : List (List Key × D)} (h : FzT K F vs ds) : vs.length = ds.length := by
  have := congrArg List.length h.keys
  simpa using this
theorem OwnT.len {vs : List (List Key × V)} {ds : List (List Key × D)} (h : OwnT K mg F H vs ds B) : vs.length = ds.length := by
  have := congrArg List.length h.keys
  simpa using this
theorem FzT.own : ∀ {vs : List (List Key × V)} {ds : List (List Key × D)}, FzT K F vs ds → OwnT K mg F H vs ds no
  | _, _, .nil => .nil
  | _, _, .cons o h r => .cons (A1 := no) (A2 := no) o (.fz h) (FzT.own r) Dj.no_l Sb.no_l Sb.no_l
theorem OwnT.sub' {A A' : AS} (h : Sb A A') : ∀ {vs : List (List Key × V)} {ds : List (List Key × D)}, OwnT K mg F H vs ds A → OwnT K mg F H vs ds A'
  | _, _, .nil => .nil
  | _, _, .cons o x r a b c => .cons o x r a (b.trans h) (c.trans h)
theorem OwnT.get (k : List Key) : ∀ {vs : List (List Key × V)} {ds : List (List Key × D)} {B : AS}, OwnT K mg F H vs ds B → (∀ d, vGet ds k = some d → ∃ v B', valV vs k = some v ∧ Own K mg F H v d B' ∧ Sb B' B) ∧ (vGet ds k = none → valV vs k = none)
  | _, _, _, .nil => ⟨fun d h => by simp [vGet] at h, fun _ => rfl⟩
  | _, _, _, .cons (k := k') (v := v) (d := d) (vs := vs) (ds := ds) o x r a b c => by
    obtain ⟨h1, h2⟩ := OwnT.get k r
    by_cases e : k' = k
    · subst e
      refine ⟨fun d' h => ?_, fun h => by simp [vGet] at h⟩
      have : d = d' := by simpa [vGet] using h
      subst this
      exact ⟨v, _, valV_pos (p := (k', v)) rfl, x, b⟩
    · have e1 : valV ((k', v) :: vs) k = valV vs k := valV_neg (p := (k', v)) e
      have e2 : vGet ((k', d) :: ds) k = vGet ds k := by simp [vGet, List.find?_cons, e]
      rw [e1, e2]
      exact ⟨fun d' h => (by obtain ⟨w, B', q1, q2, q3⟩ := h1 d' h; exact ⟨w, B', q1, q2, q3.trans c⟩), h2⟩
theorem FzT.map_put {k : List Key} {v : V} {d : D} (f : Fz K F v d) : ∀ {vs : List (List Key × V)} {ds : List (List Key × D)}, FzT K F vs ds → FzT K F (vs.map fun kv => if kv.1 = k then (kv.1, v) else kv) (ds.map fun kv => if kv.1 = k then (kv.1, d) else kv)
  | _, _, .nil => .nil
  | _, _, .cons (k := k') o x r => by
    rw [List.map_cons, List.map_cons]
    by_cases e : k' = k
    · rw [if_pos e, if_pos e]; exact .cons o f (FzT.map_put f r)
    · rw [if_neg e, if_neg e]; exact .cons o x (FzT.map_put f r)
theorem FzT.snoc {k : List Key} {v : V} {d : D} (ok : okKs k = true) (f : Fz K F v d) : ∀ {vs : List (List Key × V)} {ds : List (List Key × D)}, FzT K F vs ds → FzT K F (vs ++ [(k, v)]) (ds ++ [(k, d)])
  | _, _, .nil => .cons ok f .nil
  | _, _, .cons o x r => .cons o x (FzT.snoc ok f r)
theorem any_keysT {vs : List (List Key × V)} {ds : List (List Key × D)} (h : vs.map (·.1) = ds.map (·.1)) (k : List Key) : (vs.any fun kv => decide (kv.1 = k)) = (ds.any fun kv => decide (kv.1 = k)) := by
  have e : ∀ {α : Type} (l : List (List Key × α)), (l.any fun kv => decide (kv.1 = k)) = ((l.map (·.1)).any fun x => decide (x = k)) := fun l => by rw [List.any_map]; rfl
  rw [e, e, h]
theorem FzT.put {k : List Key} {v : V} {d : D} (ok : okKs k = true) (f : Fz K F v d) {vs : List (List Key × V)} {ds : List (List Key × D)} (h : FzT K F vs ds) : FzT K F (putK vs k v) (vPut ds k d) := by
  unfold putK vPut
  rw [any_keysT h.keys k]
  split
  · exact FzT.map_put f h
  · exact FzT.snoc ok f h
theorem OwnT.map_put {k : List Key} {v : V} {d : D} (f : Fz K F v d) : ∀ {vs : List (List Key × V)} {ds : List (List Key × D)} {B : AS}, OwnT K mg F H vs ds B → OwnT K mg F H (vs.map fun kv => if kv.1 = k then (kv.1, v) else kv) (ds.map fun kv => if kv.1 = k then (kv.1, d) else kv) B
  | _, _, _, .nil => .nil
  | _, _, _, .cons (k := k') (A1 := A1) (A2 := A2) o x r a b c => by
    rw [List.map_cons, List.map_cons]
    by_cases e : k' = k
    · rw [if_pos e, if_pos e]; exact .cons (A1 := no) (A2 := A2) o (.fz f) (OwnT.map_put f r) Dj.no_l Sb.no_l c
    · rw [if_neg e, if_neg e]; exact .cons o x (OwnT.map_put f r) a b c
theorem OwnT.snoc {k : List Key} {v : V} {d : D} (ok : okKs k = true) (f : Fz K F v d) : ∀ {vs : List (List Key × V)} {ds : List (List Key × D)} {B : AS}, OwnT K mg F H vs ds B → OwnT K mg F H (vs ++ [(k, v)]) (ds ++ [(k, d)]) B
  | _, _, _, .nil => .cons (A1 := no) (A2 := no) ok (.fz f) .nil Dj.no_l Sb.no_l Sb.no_l
  | _, _, _, .cons o x r a b c => .cons o x (OwnT.snoc ok f r) a b c
theorem OwnT.put {k : List Key} {v : V} {d : D} (ok : okKs k = true) (f : Fz K F v d) {vs : List (List Key × V)} {ds : List (List Key × D)} (h : OwnT K mg F H vs ds B) : OwnT K mg F H (putK vs k v) (vPut ds k d) B := by
  unfold putK vPut
  rw [any_keysT h.keys k]
  split
  · exact OwnT.map_put f h
  · exact OwnT.snoc ok f h
theorem FzK.merge : ∀ {ms : List (Key × V)} {ns : List (Key × D)} {vs : List (Key × V)} {ds : List (Key × D)}, FzK K F ms ns → FzK K F vs ds → FzK K F (mergeK vs ms) (vMrg ds ns)
  | _, _, _, _, .nil, h => h
  | _, _, _, _, .cons (k := k) (v := v) (d := d) (vs := ms) (ds := ns) o f r, h => by
    have := FzK.merge r (FzK.put o f h)
    exact this
theorem OwnK.merge : ∀ {ms : List (Key × V)} {ns : List (Key × D)} {vs : List (Key × V)} {ds : List (Key × D)}, FzK K F ms ns → OwnK K mg F H vs ds B → OwnK K mg F H (mergeK vs ms) (vMrg ds ns) B
  | _, _, _, _, .nil, h => h
  | _, _, _, _, .cons (k := k) (v := v) (d := d) (vs := ms) (ds := ns) o f r, h => by
    have := OwnK.merge r (OwnK.put o f h)
    exact this
theorem prsK_fz (sm : Same F H) : ∀ {vs : List V} {ds : List D} {kvs : List (Key × D)}, FzL K F vs ds → prsK ds = some kvs →
    ∃ (ps : List Addr) (ms : List (Key × V)), vs = ps.map V.ref ∧ Paired (fun p kv => SqT K H p [kV kv.1, kv.2]) ps ms ∧ FzK K F ms kvs
  | _, _, kvs, .nil, h => by simp only [prsK, Option.some.injEq] at h; subst h; exact ⟨[], [], rfl, .nil, .nil⟩
  | _, _, kvs, .cons (d := d) o r, h => by
    unfold prsK at h
    split at h
    · rename_i heq; cases heq
    · rename_i k v rr heq
      cases heq
      simp only [Option.bind_eq_some_iff, Option.map_eq_some_iff] at h
      obtain ⟨key, h1, ks, h2, rfl⟩ := h
      cases o with
      | tup hs f =>
        cases f with
        | cons f1 f2 =>
        cases f2 with
        | cons f2 f3 =>
        cases f3
        obtain ⟨e1, e2⟩ := keyD_fz (mg := fun _ => none) (H := F) (B := no) (.fz f1) h1
        obtain ⟨ps, ms, q1, q2, q3⟩ := prsK_fz sm r h2
        subst e1
        exact ⟨_ :: ps, (key, _) :: ms, by rw [q1]; rfl, .cons (SqT.of (sm _ _ hs)) q2, .cons e2 f2 q3⟩
    · cases h
/-- a new dict -/
theorem Rs.dic {Q : VK} {vs : List (Key × V)} {ds : List (Key × D)} {p : Addr} (w : Wd F H A) (r : Rs K mg F H A false (.dic true ds) Q) (h : FzK K F vs ds) (hp : H p = none) : Q (.ref p) (upd H p (.dK vs)) := by
  refine r.new rfl _ F _ (cup (fun a => a = p) no) (Ext.laid w.no hp) (fun _ _ e => (upd_ne (ne_of_none e hp)).trans e) (.dic (B := no) upd_same (.inl rfl) (fun z => z) Sb.no_l ?_)
  exact FzK.own h
/-- a dict read -/
theorem Own.dicv {v : V} {m : Bool} {ds : List (Key × D)} (s : Same F H) (o : Own K mg F H v (.dic m ds) B) : ∃ a vs, v = .ref a ∧ Rd H a (.dK vs) ∧ OwnK K mg F H vs ds B := by
  cases o with
  | fz h => cases h with | dic h r => exact ⟨_, _, rfl, .inr ⟨_, s _ _ h⟩, (FzK.own r).sub' Sb.no_l⟩
  | dic h _ _ e r => exact ⟨_, _, rfl, .inl h, r.sub' e⟩
theorem Own.ditv {v : V} {m : Bool} {ds : List (List Key × D)} (s : Same F H) (o : Own K mg F H v (.dit m ds) B) : ∃ a vs, v = .ref a ∧ Rd H a (.dT vs) ∧ OwnT K mg F H vs ds B := by
  cases o with
  | fz h => cases h with | dit h r => exact ⟨_, _, rfl, .inr ⟨_, s _ _ h⟩, (FzT.own r).sub' Sb.no_l⟩
  | dit h _ _ e r => exact ⟨_, _, rfl, .inl h, r.sub' e⟩
/-- what is found at a key -/
theorem dfind_ok {x k : D} {r : Option D} {v u : V} {B1 B2 : AS} (s : Same F H) (o1 : Own K mg F H v x B1) (o2 : Own K mg F H u k B2) (h : dfind x k = some r) :
    ∃ a r', v = .ref a ∧ IsD H a ∧ DGet H a u r' ∧ (∀ d, r = some d → ∃ y B', r' = some y ∧ Own K mg F H y d B') ∧ (r = none → r' = none) := by
  unfold dfind at h
  split at h
  · rw [Option.map_eq_some_iff] at h
    obtain ⟨key, hk, rfl⟩ := h
    obtain ⟨a, vs, rfl, hr, ok⟩ := o1.dicv s
    obtain ⟨rfl, _⟩ := keyD_fz o2 hk
    obtain ⟨g1, g2⟩ := ok.get key
    refine ⟨a, valV vs key, rfl, .inl ⟨vs, hr⟩, .inl ⟨vs, key, hr, rfl, rfl⟩, fun d hd => ?_, g2⟩
    obtain ⟨y, B', q1, q2, _⟩ := g1 d hd
    exact ⟨y, B', q1, q2⟩
  · rw [Option.map_eq_some_iff] at h
    obtain ⟨key, hk, rfl⟩ := h
    obtain ⟨a, vs, rfl, hr, ok⟩ := o1.ditv s
    obtain ⟨b, ws, rfl, hb, f⟩ := o2.tupx
    obtain ⟨rfl, _⟩ := keysD_fz f hk
    obtain ⟨g1, g2⟩ := ok.get key
    refine ⟨a, valV vs key, rfl, .inr ⟨vs, hr⟩, .inr ⟨vs, key, b, hr, rfl, s _ _ hb, rfl⟩, fun d hd => ?_, g2⟩
    obtain ⟨y, B', q1, q2, _⟩ := g1 d hd
    exact ⟨y, B', q1, q2⟩
  · cases h
theorem pureO_some {d d' : D} (h : pureO d = some d') : d' = d ∧ d.pure = true := by
  unfold pureO at h
  split at h
  · rename_i hp; cases h; exact ⟨rfl, hp⟩
  · cases h
end
end VI

namespace VI
variable [Tn]
open PySem PySem.Spec L2
theorem szl : sizeLine = lim := sizeLine_eq
section
variable {X : Cx} {mg : Str → Option Value} {call : CallT} {W : WX}
theorem PE.weak {e : Expr} {t t' : TE} (h : PE X e t) (hw : ∀ σ H Q, t' σ H Q → t σ H Q) : PE X e t' := ⟨fun pins s σ H Q I q => h.run pins s σ H Q I (hw σ H Q q)⟩
theorem cup_no {A : AS} : cup no A = A := funext fun a => propext ⟨fun h => h.elim (fun z => z.elim) id, .inr⟩
theorem cup_comm {A B : AS} : cup A B = cup B A := funext fun a => propext ⟨fun h => h.elim .inr .inl, fun h => h.elim .inr .inl⟩
/-- an operation's reading closes -/
theorem opFin {ast : Expr} {o : Op} {es : List E} {r : List V → Hp → VK → Prop} (hr : PE X ast (fun σ H Q => tRs X.K mg call W es σ H fun vs H2 => r vs H2 Q))
    (hop : ∀ {F H : Hp} {A : AS} {vs : List V} {ds : List D} {d : D} {Q : VK}, Wd F H A → RL X.K mg F H A es vs ds → opD o ds = some d → (o = .ix → d.pure = true ∨ sharesL es = true) → Rs X.K mg F H A (shares (.op o es)) d Q → r vs H Q) :
    PE X ast (tE X.K mg call (.op o es) W) := by
  refine PE.weak hr fun σ H Q h => ?_
  obtain ⟨F, A, ρ, w, s, p⟩ := h
  refine seqR es w s ?_
  simp only [ev] at p
  cases he : evR call es ρ with
  | bad => simp only [he, R.bind, PostE] at p
  | err x ρ' => simp only [he, R.bind, PostE] at p; exact p
  | ok ds ρ' =>
    simp only [he, R.bind] at p
    cases hd : opD o ds with
    | none => simp only [hd, PostE] at p
    | some d =>
      simp only [hd] at p
      by_cases hc : (o != .ix || d.pure || sharesL es) = true
      · rw [if_pos hc] at p
        intro vs F' H' A' ex s' rl q
        refine hop ex.wd rl hd (fun z => ?_) ⟨fun hal v F2 H2 B e2 sm2 o2 => ?_, fun hal v B o2 sb => ?_⟩
        · subst z; simpa using hc
        · obtain ⟨f1, f2⟩ := Ext.frame (A := no) (B := A') (by rw [cup_no]; exact ex.wd) Dj.no_l e2
          rw [cup_no, cup_comm] at f1
          refine p v F2 H2 A' B (ex.trans w f1) (Slots.ext e2 Dj.no_l s') o2 (fun z => by rw [hal] at z; cases z) (fun _ => f2.symm) fun hq => ?_
          obtain ⟨q1, q2, q3⟩ := q hq
          exact ⟨q1, fun a u h => sm2 a u (q2 a u h), q3⟩
        · have eq : cup A' B = A' := funext fun a => propext ⟨fun h => h.elim id (sb a), .inl⟩
          exact p v F' H' A' B (by rw [eq]; exact ex) s' o2 (fun _ => sb) (fun z => by rw [hal] at z; cases z) fun hq => q hq
      · rw [if_neg hc] at p; exact p.elim

theorem OpR.never {f : Value → Value → Sem Value} : OpR X f (fun _ _ _ _ => False) := fun _ _ _ _ _ _ _ _ _ _ _ _ h => h.elim
/-! ### binary operators -/
theorem bin_ok (o : Operator) : ∃ r : R2, OpR X (binaryOp o) r ∧ ∀ {F H : Hp} {A B1 B2 : AS} {v1 v2 : V} {d1 d2 d : D} {Q : VK}, Wd F H A → Own X.K mg F H v1 d1 B1 → Own X.K mg F H v2 d2 B2 →
    binO o d1 d2 = some d → Rs X.K mg F H A false d Q → r v1 v2 H Q := by
  cases o with
  | Add =>
    refine ⟨_, op_add.or (op_add_str.or (op_cat.or op_catT)), fun {F H A B1 B2 v1 v2 d1 d2 d Q} w o1 o2 h r => ?_⟩
    simp only [binO] at h
    unfold addO at h
    split at h <;> try (cases h; done)
    · cases h; exact .inl ⟨_, _, o1.int, o2.int, r.int w⟩
    · split at h
      · rename_i hl
        cases h
        obtain ⟨e1, c1⟩ := o1.str
        obtain ⟨e2, c2⟩ := o2.str
        refine .inr (.inl ⟨_, _, e1, e2, ?_, ?_⟩)
        · rw [szl]; show (ST _).length + (ST _).length ≤ _; rw [st_len, st_len]; exact hl
        · have := r.str w (okCs_app c1 c2)
          rw [show (⟨_⟩ : Str) ++ ⟨_⟩ = _ from st_app _ _]; exact this
      · cases h
    · split at h
      · rename_i hl
        simp only [Bool.and_eq_true, decide_eq_true_eq] at hl
        cases h
        obtain ⟨a, vs, rfl, ha, ol⟩ := o1.lstv w.same
        obtain ⟨b, ws, rfl, hb, ol2⟩ := o2.lstv w.same
        have f1 := ol.fzd hl.1.1
        have f2 := ol2.fzd hl.1.2
        refine .inr (.inr (.inl ⟨a, b, vs, ws, rfl, rfl, ha, hb, by rw [szl, f1.len, f2.len]; exact hl.2, fun p hp => r.lst w (f1.append f2) hp⟩))
      · cases h
    · split at h
      · rename_i hl
        simp only [decide_eq_true_eq] at hl
        cases h
        obtain ⟨a, vs, rfl, ha, _, f1⟩ := o1.tupv w.same
        obtain ⟨b, ws, rfl, hb, _, f2⟩ := o2.tupv w.same
        refine .inr (.inr (.inr ⟨a, b, vs, ws, rfl, rfl, ha, hb, fun z => ?_, by rw [szl, f1.len, f2.len]; exact hl, fun z => ?_, fun _ p hp => r.tup w (f1.append f2) hp⟩))
        · subst z; cases f1
        · subst z
          cases f2
          cases o1 with
          | fz hf => simpa using r.fz w (by simpa using hf)
      · cases h
  | Sub =>
    refine ⟨_, op_sub, fun {F H A B1 B2 v1 v2 d1 d2 d Q} w o1 o2 h r => ?_⟩
    simp only [binO] at h
    unfold subO at h
    split at h <;> try (cases h; done)
    cases h; exact ⟨_, _, o1.int, o2.int, r.int w⟩
  | Mult =>
    refine ⟨_, op_mul.or op_rep, fun {F H A B1 B2 v1 v2 d1 d2 d Q} w o1 o2 h r => ?_⟩
    simp only [binO] at h
    unfold mulO at h
    split at h <;> try (cases h; done)
    · split at h
      · rename_i hl
        simp only [Bool.or_eq_true, decide_eq_true_eq] at hl
        cases h
        exact .inl ⟨_, _, o1.int, o2.int, hl, r.int w⟩
      · cases h
    · split at h
      · rename_i hl
        simp only [Bool.and_eq_true, decide_eq_true_eq] at hl
        cases h
        obtain ⟨a, vs, rfl, ha, ol⟩ := o1.lstv w.same
        have f1 := ol.fzd hl.1.1.1
        refine .inr ⟨a, _, vs, rfl, o2.int, ha, hl.1.1.2, hl.1.2, by rw [szl, f1.len]; exact hl.2, fun p hp => r.lst w (f1.rep _) hp⟩
      · cases h
  | FloorDiv =>
    refine ⟨_, op_fdiv, fun {F H A B1 B2 v1 v2 d1 d2 d Q} w o1 o2 h r => ?_⟩
    simp only [binO] at h
    unfold divO at h
    split at h <;> try (cases h; done)
    split at h
    · rename_i hl
      cases h
      exact ⟨_, _, o1.int, o2.int, hl, r.int w⟩
    · cases h
  | Mod =>
    refine ⟨_, op_mod, fun {F H A B1 B2 v1 v2 d1 d2 d Q} w o1 o2 h r => ?_⟩
    simp only [binO] at h
    unfold modO at h
    split at h <;> try (cases h; done)
    split at h
    · rename_i hl
      cases h
      exact ⟨_, _, o1.int, o2.int, hl, r.int w⟩
    · cases h
  | Pow =>
    refine ⟨_, op_pow, fun {F H A B1 B2 v1 v2 d1 d2 d Q} w o1 o2 h r => ?_⟩
    simp only [binO] at h
    unfold powO at h
    split at h <;> try (cases h; done)
    split at h
    · rename_i hl
      cases h
      exact ⟨_, _, o1.int, o2.int, hl, r.int w⟩
    · cases h
  | _ => exact ⟨_, OpR.never, fun {F H A B1 B2 v1 v2 d1 d2 d Q} w o1 o2 h r => by simp [binO] at h⟩
/-! ### comparisons -/
theorem eqV_deq {K : PySem.W.Frag} {F H : Hp} {B1 B2 : AS} {v1 v2 : V} {d1 d2 : D} (o1 : Own K mg F H v1 d1 B1) (o2 : Own K mg F H v2 d2 B2) (h1 : flat d1 = true) (h2 : flat d2 = true) : flatV v1 = true ∧ eqV v1 v2 = deq d1 d2 := by
  cases d1 with
  | non => rw [o1.non]; refine ⟨rfl, ?_⟩; cases d2 <;> first | (rw [o2.non]; rfl) | (rw [o2.bl]; rfl) | (rw [o2.int]; rfl) | (rw [o2.str.1]; rfl) | (simp [flat] at h2)
  | bl b => rw [o1.bl]; refine ⟨rfl, ?_⟩; cases d2 <;> first | (rw [o2.non]; rfl) | (rw [o2.bl]; rfl) | (rw [o2.int]; rfl) | (rw [o2.str.1]; rfl) | (simp [flat] at h2)
  | int b => rw [o1.int]; refine ⟨rfl, ?_⟩; cases d2 <;> first | (rw [o2.non]; rfl) | (rw [o2.bl]; rfl) | (rw [o2.int]; rfl) | (rw [o2.str.1]; rfl) | (simp [flat] at h2)
  | str x =>
    rw [o1.str.1]; refine ⟨rfl, ?_⟩
    cases d2 with
    | str y =>
      rw [o2.str.1]
      show (ST x == ST y) = decide (x = y)
      by_cases e : x = y
      · subst e; simp
      · rw [decide_eq_false e]; exact beq_eq_false_iff_ne.mpr fun z => e (st_inj z)
    | _ => first | (rw [o2.non]; rfl) | (rw [o2.bl]; rfl) | (rw [o2.int]; rfl) | (simp [flat] at h2)
  | _ => simp [flat] at h1
theorem inV_inO {K : PySem.W.Frag} {F H : Hp} {B1 : AS} {v1 : V} {d1 : D} (o1 : Own K mg F H v1 d1 B1) (h1 : flat d1 = true) : ∀ {vs : List V} {ds : List D}, FzL K F vs ds → ds.all flat = true → vs.all flatV = true ∧ inV v1 vs = inO d1 ds
  | _, _, .nil, _ => ⟨rfl, rfl⟩
  | _, _, .cons (v := v) (d := d) (vs := vs) (ds := ds) h r, ha => by
    simp only [List.all_cons, Bool.and_eq_true] at ha
    obtain ⟨e1, e2⟩ := eqV_deq (mg := mg) (H := H) (B1 := no) (.fz h) o1 ha.1 h1
    obtain ⟨e3, e4⟩ := inV_inO o1 h1 r ha.2
    refine ⟨by rw [List.all_cons, e1, e3]; rfl, ?_⟩
    show (eqV v v1 || inV v1 vs) = (deq d d1 || inO d1 ds)
    rw [e2, e4]
theorem isNon_eq {K : PySem.W.Frag} {F H : Hp} {B1 : AS} {v1 : V} {d1 : D} (sm : Same F H) (o1 : Own K mg F H v1 d1 B1) : decide (v1 = V.non) = isNon d1 := by
  cases d1 with
  | non => rw [o1.non]; rfl
  | bl b => rw [o1.bl]; rfl
  | int b => rw [o1.int]; rfl
  | str b => rw [o1.str.1]; rfl
  | tup b => obtain ⟨_, _, rfl, _⟩ := o1.tupv sm; rfl
  | lst _ b => obtain ⟨_, _, rfl, _⟩ := o1.lstv sm; rfl
  | scr b => obtain ⟨_, rfl, _⟩ := o1.scrv sm; rfl
  | dic m b => cases o1 with | fz h => cases h; rfl | dic => rfl
  | dit m b => cases o1 with | fz h => cases h; rfl | dit => rfl
  | ins m b => cases o1 with | fz h => cases h | ins => rfl
theorem non_of {K : PySem.W.Frag} {F H : Hp} {B1 : AS} {v1 : V} {d1 : D} (o1 : Own K mg F H v1 d1 B1) (h : isNon d1 = true) : v1 = V.non := by
  cases d1 <;> first | exact o1.non | (simp [isNon] at h)
/-- a comparison by its operator, its answer a bool -/
theorem cmp_ok (hu : X.A.units + 65 < cLine) (o : CmpOp) : ∃ r : R2, OpR X (compareOp o) r ∧ ∀ {F H : Hp} {A B1 B2 : AS} {v1 v2 : V} {d1 d2 : D} {k : Bool} {Q : VK}, Wd F H A → Own X.K mg F H v1 d1 B1 → Own X.K mg F H v2 d2 B2 →
    cmpB o d1 d2 = some k → Q (.bl k) H → r v1 v2 H Q := by
  have hu4 : X.A.units + 64 < cLine := by omega
  cases o with
  | Eq =>
    refine ⟨_, op_eqD hu4, fun {F H A B1 B2 v1 v2 d1 d2 d Q} w o1 o2 h r => ?_⟩
    simp only [cmpB, eqO] at h
    split at h
    · rename_i hl
      simp only [Bool.and_eq_true] at hl
      cases h
      refine ⟨_, _, dp_of w.same o1 hl.1, dp_of w.same o2 hl.2, shaped_of o1 hl.1, shaped_of o2 hl.2, ?_⟩
      rw [eqv_deq d1 d2 hl.1 hl.2]; exact r
    · cases h
  | NotEq =>
    refine ⟨_, op_neD hu4, fun {F H A B1 B2 v1 v2 d1 d2 d Q} w o1 o2 h r => ?_⟩
    simp only [cmpB, eqO, Option.map_eq_some_iff] at h
    obtain ⟨k, h, rfl⟩ := h
    split at h
    · rename_i hl
      simp only [Bool.and_eq_true] at hl
      cases h
      refine ⟨_, _, dp_of w.same o1 hl.1, dp_of w.same o2 hl.2, shaped_of o1 hl.1, shaped_of o2 hl.2, ?_⟩
      rw [eqv_deq d1 d2 hl.1 hl.2]; exact r
    · cases h
  | Lt =>
    refine ⟨_, op_lt.or op_lt_str, fun {F H A B1 B2 v1 v2 d1 d2 d Q} w o1 o2 h r => ?_⟩
    simp only [cmpB] at h
    unfold ltO at h
    split at h <;> cases h
    · exact .inl ⟨_, _, o1.int, o2.int, r⟩
    · exact .inr ⟨_, _, o1.str.1, o2.str.1, by simpa using r⟩
  | LtE =>
    refine ⟨_, op_le.or op_le_str, fun {F H A B1 B2 v1 v2 d1 d2 d Q} w o1 o2 h r => ?_⟩
    simp only [cmpB] at h
    unfold leO at h
    split at h <;> cases h
    · exact .inl ⟨_, _, o1.int, o2.int, r⟩
    · exact .inr ⟨_, _, o1.str.1, o2.str.1, by simpa using r⟩
  | Gt =>
    refine ⟨_, op_gt, fun {F H A B1 B2 v1 v2 d1 d2 d Q} w o1 o2 h r => ?_⟩
    simp only [cmpB] at h
    unfold gtO at h
    split at h <;> cases h
    exact ⟨_, _, o1.int, o2.int, r⟩
  | GtE =>
    refine ⟨_, op_ge, fun {F H A B1 B2 v1 v2 d1 d2 d Q} w o1 o2 h r => ?_⟩
    simp only [cmpB] at h
    unfold geO at h
    split at h <;> cases h
    exact ⟨_, _, o1.int, o2.int, r⟩
  | Is =>
    refine ⟨_, op_isN, fun {F H A B1 B2 v1 v2 d1 d2 d Q} w o1 o2 h r => ?_⟩
    simp only [cmpB] at h
    split at h
    · rename_i hl
      cases h
      refine ⟨non_of o2 hl, ?_⟩
      rw [isNon_eq w.same o1]; exact r
    · cases h
  | IsNot =>
    refine ⟨_, op_notN, fun {F H A B1 B2 v1 v2 d1 d2 d Q} w o1 o2 h r => ?_⟩
    simp only [cmpB] at h
    split at h
    · rename_i hl
      cases h
      refine ⟨non_of o2 hl, ?_⟩
      rw [isNon_eq w.same o1]; exact r
    · cases h
  | In =>
    refine ⟨_, (op_inD hu).or (op_in_seq.or op_in_sign), fun {F H A B1 B2 v1 v2 d1 d2 d Q} w o1 o2 h r => ?_⟩
    simp only [cmpB] at h
    unfold memO at h
    split at h
    · split at h
      · rename_i hl
        simp only [Bool.and_eq_true] at hl
        cases h
        obtain ⟨a, vs, rfl, ha, ol⟩ := o2.lstv w.same
        refine .inl ⟨_, _, dp_of w.same o1 hl.1, .lst (SqL.of ha) (dpL_of w.same ol (okD_all hl.2)), shaped_of o1 hl.1, shapedL_of ol hl.2, ?_⟩
        rw [inO_any _ hl.1 _ (okD_all hl.2)]; exact r
      · cases h
    · split at h
      · rename_i hl
        simp only [Bool.and_eq_true] at hl
        cases h
        obtain ⟨a, vs, rfl, ha, _, f⟩ := o2.tupv w.same
        obtain ⟨e1, e2⟩ := inV_inO o1 hl.1 f hl.2
        refine .inr (.inl ⟨a, vs, rfl, .inr ha, (eqV_deq o1 o1 hl.1 hl.1).1, e1, ?_⟩)
        show Q (.bl (inV v1 vs)) H
        rw [e2]; exact r
      · cases h
    · cases h
      refine .inr (.inr ⟨_, _, o1.str.1, o2.str.1, by simpa using r⟩)
    · cases h
  | NotIn =>
    refine ⟨_, (op_notInD hu).or (op_notIn_seq.or op_notIn_sign), fun {F H A B1 B2 v1 v2 d1 d2 d Q} w o1 o2 h r => ?_⟩
    simp only [cmpB, Option.map_eq_some_iff] at h
    obtain ⟨k, h, rfl⟩ := h
    unfold memO at h
    split at h
    · split at h
      · rename_i hl
        simp only [Bool.and_eq_true] at hl
        cases h
        obtain ⟨a, vs, rfl, ha, ol⟩ := o2.lstv w.same
        refine .inl ⟨_, _, dp_of w.same o1 hl.1, .lst (SqL.of ha) (dpL_of w.same ol (okD_all hl.2)), shaped_of o1 hl.1, shapedL_of ol hl.2, ?_⟩
        rw [inO_any _ hl.1 _ (okD_all hl.2)]; exact r
      · cases h
    · split at h
      · rename_i hl
        simp only [Bool.and_eq_true] at hl
        cases h
        obtain ⟨a, vs, rfl, ha, _, f⟩ := o2.tupv w.same
        obtain ⟨e1, e2⟩ := inV_inO o1 hl.1 f hl.2
        refine .inr (.inl ⟨a, vs, rfl, .inr ha, (eqV_deq o1 o1 hl.1 hl.1).1, e1, ?_⟩)
        show Q (.bl (!inV v1 vs)) H
        rw [e2]; exact r
      · cases h
    · cases h
      refine .inr (.inr ⟨_, _, o1.str.1, o2.str.1, by simpa using r⟩)
    · cases h
end
end VI

namespace VI
variable [Tn]
open PySem PySem.Spec PyProof.Rows L2
def noStar : Expr → Bool
  | .Starred _ _ => false
  | _ => true
theorem starEach_cons {e : Expr} (h : noStar e = true) (es : List Expr) (env : Env) : starEach (e :: es) env = (false, eval e env) :: starEach es env := by
  cases e <;> first | rfl | (simp [noStar] at h)
theorem star_none : ∀ (es : List Expr) (env : Env), es.all noStar = true → (starEach es env).any (·.1) = false
  | [], _, _ => rfl
  | e :: es, env, h => by
    simp only [List.all_cons, Bool.and_eq_true] at h
    rw [starEach_cons h.1, List.any_cons, star_none es env h.2]; rfl
theorem back_any (pos : Pos) : ∀ (l : List (Bool × Sem Value)), (backTo pos l).any (·.1) = l.any (·.1)
  | [] => rfl
  | x :: r => by
    have := back_any pos r
    unfold backTo at this ⊢
    simp only [List.map_cons, List.any_cons, this]
theorem back_none {pos : Pos} {es : List Expr} {env : Env} (h : es.all noStar = true) : (backTo pos (starEach es env)).any (·.1) = false := by
  rw [back_any]; exact star_none es env h
section
variable {X : Cx} {mg : Str → Option Value} {call : CallT} {W : WX}
/-- the arguments' expressions are met -/
def PEs (X : Cx) (t : E → TE) : List E → List Expr → Prop
  | [], [] => True
  | e :: es, a :: as => noStar a = true ∧ PE X a (t e) ∧ PEs X t es as
  | _, _ => False
theorem PEs.star {t : E → TE} : ∀ {es : List E} {as : List Expr}, PEs X t es as → as.all noStar = true
  | [], [], _ => rfl
  | e :: es, a :: as, h => by rw [List.all_cons, h.1, PEs.star h.2.2]; rfl
  | [], _ :: _, h => h.elim
  | _ :: _, [], h => h.elim
theorem PEs.pa : ∀ {es : List E} {as : List Expr}, PEs X (tR X.K mg call W) es as → PA X as (tRs X.K mg call W es)
  | [], [], _ => pa_nil
  | e :: es, a :: as, h => pa_cons h.2.1 (PEs.pa h.2.2) (starEach_cons h.1 as X.env)
  | [], _ :: _, h => h.elim
  | _ :: _, [], h => h.elim
theorem PEs.paC : ∀ {es : List E} {as : List Expr}, PEs X (fun e => tE X.K mg call e W) es as → PA X as (tCs X.K mg call W es)
  | [], [], _ => pa_nil
  | e :: es, a :: as, h => pa_cons h.2.1 (PEs.paC h.2.2) (starEach_cons h.1 as X.env)
  | [], _ :: _, h => h.elim
  | _ :: _, [], h => h.elim
theorem PA.weak {es : List Expr} {t t' : TA} (h : PA X es t) (hw : ∀ σ H Q, t' σ H Q → t σ H Q) : PA X es t' := ⟨fun pos pins s σ H Q I q => h.run pos pins s σ H Q I (hw σ H Q q)⟩

/-! ### one, two arguments -/
theorem RL1 {K : PySem.W.Frag} {F H : Hp} {A : AS} {es : List E} {v : V} {ds : List D} (h : RL K mg F H A es [v] ds) : ∃ d B, ds = [d] ∧ Own K mg F H v d B := by
  cases h with | cons o _ r => cases r; exact ⟨_, _, rfl, o⟩
theorem RL.d1 {K : PySem.W.Frag} {F H : Hp} {A : AS} {es : List E} {vs : List V} {d : D} (h : RL K mg F H A es vs [d]) : ∃ v B, vs = [v] ∧ Own K mg F H v d B := by
  cases h with | cons o _ r => cases r; exact ⟨_, _, rfl, o⟩
theorem RL.d2 {K : PySem.W.Frag} {F H : Hp} {A : AS} {es : List E} {vs : List V} {d e : D} (h : RL K mg F H A es vs [d, e]) : ∃ v w B C, vs = [v, w] ∧ Own K mg F H v d B ∧ Own K mg F H w e C := by
  cases h with | cons o _ r => cases r with | cons o2 _ r => cases r; exact ⟨_, _, _, _, rfl, o, o2⟩
theorem RL.d3 {K : PySem.W.Frag} {F H : Hp} {A : AS} {es : List E} {vs : List V} {d e f : D} (h : RL K mg F H A es vs [d, e, f]) : ∃ v w x B C G, vs = [v, w, x] ∧ Own K mg F H v d B ∧ Own K mg F H w e C ∧ Own K mg F H x f G := by
  cases h with | cons o _ r => cases r with | cons o2 _ r => cases r with | cons o3 _ r => cases r; exact ⟨_, _, _, _, _, _, rfl, o, o2, o3⟩
theorem RL.lens {K : PySem.W.Frag} {F H : Hp} {A : AS} {es : List E} {vs : List V} {ds : List D} (h : RL K mg F H A es vs ds) : es.length = ds.length ∧ vs.length = ds.length := by
  induction h with
  | nil => exact ⟨rfl, rfl⟩
  | cons _ _ _ ih => simp [ih]


abbrev on1 (r : V → Hp → VK → Prop) : List V → Hp → VK → Prop := fun vs H Q => match vs with | [x] => r x H Q | _ => False
abbrev on2 (r : R2) : List V → Hp → VK → Prop := fun vs H Q => match vs with | [x, y] => r x y H Q | _ => False
abbrev on3 (r : V → V → V → Hp → VK → Prop) : List V → Hp → VK → Prop := fun vs H Q => match vs with | [x, y, z] => r x y z H Q | _ => False
/-- a binary operator -/
theorem pe_bin {o : Operator} {e1 e2 : E} {a b : Expr} {pos : Pos} (ha : PE X a (tR X.K mg call W e1)) (hb : PE X b (tR X.K mg call W e2)) : PE X (.BinOp a o b pos) (tE X.K mg call (.op (.bin o) [e1, e2]) W) := by
  obtain ⟨r, hr, ok⟩ := bin_ok (X := X) (mg := mg) o
  refine opFin (r := on2 r) (pe_op hr ha hb) fun {F H A vs ds d Q} w rl hd _ rs => ?_
  obtain ⟨l1, _⟩ := rl.lens
  match ds, l1 with
  | [d1, d2], _ =>
    obtain ⟨v1, v2, B1, B2, rfl, o1, o2⟩ := rl.d2
    exact ok w o1 o2 hd rs
/-- a comparison -/
theorem pe_cmpE (hu : X.A.units + 65 < cLine) {o : CmpOp} {e1 e2 : E} {a b : Expr} {pos : Pos} (hm : behindInMarks o b = false) (ha : PE X a (tR X.K mg call W e1)) (hb : PE X b (tR X.K mg call W e2)) : PE X (.Compare a [o] [b] pos) (tE X.K mg call (.op (.cmp o) [e1, e2]) W) := by
  obtain ⟨r, hr, ok⟩ := cmp_ok (X := X) (mg := mg) hu o
  refine opFin (r := on2 r) (pe_cmpR hr ha hb hm) fun {F H A vs ds d Q} w rl hd _ rs => ?_
  obtain ⟨l1, _⟩ := rl.lens
  match ds, l1 with
  | [d1, d2], _ =>
    obtain ⟨v1, v2, B1, B2, rfl, o1, o2⟩ := rl.d2
    simp only [opD, cmpO, Option.map_eq_some_iff] at hd
    obtain ⟨k, hk, rfl⟩ := hd
    exact ok w o1 o2 hk (rs.bl w)
/-- -e -/
theorem pe_negE {e : E} {a : Expr} {pos : Pos} (ha : PE X a (tR X.K mg call W e)) : PE X (.UnaryOp .USub a pos) (tE X.K mg call (.op .neg [e]) W) := by
  refine opFin (r := on1 (rU fun i => .int (-i))) (pe_un un_neg ha) fun {F H A vs ds d Q} w rl hd _ rs => ?_
  obtain ⟨l1, _⟩ := rl.lens
  match ds, l1 with
  | [d1], _ =>
    obtain ⟨v1, B1, rfl, o1⟩ := rl.d1
    cases d1 <;> simp only [opD, Option.some.injEq] at hd <;> first | (cases hd; exact ⟨_, o1.int, rs.int w⟩) | cases hd
/-- e[i] -/
theorem pe_ixE {e1 e2 : E} {a b : Expr} {pos : Pos} (hs : PlainIx b) (ha : PE X a (tR X.K mg call W e1)) (hb : PE X b (tR X.K mg call W e2)) : PE X (.Subscript a b pos) (tE X.K mg call (.op .ix [e1, e2]) W) := by
  refine opFin (r := on2 (rIx X.K)) (pe_ix ix_seq ha hb hs) fun {F H A vs ds d Q} w rl hd hc rs => ?_
  have hc := hc rfl
  have hal : shares (.op .ix [e1, e2]) = shares e1 := by simp only [shares, sharesL]
  rw [hal] at rs
  obtain ⟨v1, v2, d1, d2, B1, B2, rfl, rfl, o1, s1, o2⟩ : ∃ v1 v2 d1 d2 B1 B2, vs = [v1, v2] ∧ ds = [d1, d2] ∧ Own X.K mg F H v1 d1 B1 ∧ (shares e1 = true → Sb B1 A) ∧ Own X.K mg F H v2 d2 B2 := by
    cases rl with
    | cons o1 s1 rl =>
    cases rl with
    | cons o2 _ rl =>
    cases rl
    exact ⟨_, _, _, _, _, _, rfl, rfl, o1, s1, o2⟩
  show rIx X.K v1 v2 H Q
  cases d2 with
  | int i =>
    have e2' := o2.int
    subst e2'
    cases d1 with
    | str x =>
      simp only [opD] at hd
      split at hd
      · rename_i hl
        simp only [Option.map_eq_some_iff] at hd
        obtain ⟨c, h1, rfl⟩ := hd
        obtain ⟨e, hok⟩ := o1.str
        refine .inr (.inr ⟨_, i, c, e, rfl, ?_, by simpa using h1, ?_⟩)
        · rw [szl]; show (ST x).length ≤ _; rw [st_len]; exact hl
        · refine rs.str w (okCs_sub hok fun y hy => ?_)
          have : c ∈ x := by
            have h1 : atI x i = some c := h1
            unfold atI at h1
            cases q : ixN x.length i with
            | none => rw [q] at h1; cases h1
            | some j => rw [q] at h1; exact List.mem_of_getElem? h1
          simp at hy; rw [hy]; exact this
      · cases hd
    | lst m xs =>
      simp only [opD] at hd
      obtain ⟨p, ws, rfl, hp, ol⟩ := o1.lstv w.same
      obtain ⟨v, B', h1, h2, h3⟩ := atI_own ol hd
      refine .inl ⟨p, ws, i, v, rfl, rfl, SqL.of hp, h1, ?_⟩
      cases ha' : shares e1 with
      | true => rw [ha'] at rs; exact rs.same rfl v B' h2 (h3.trans (s1 ha'))
      | false =>
        simp only [sharesL, ha', Bool.false_eq_true, or_false] at hc
        exact rs.fz w (h2.fzd hc)
    | tup xs =>
      simp only [opD] at hd
      obtain ⟨p, ws, rfl, hp, _, f⟩ := o1.tupv w.same
      obtain ⟨v, h1, h2⟩ := atI_fz f hd
      exact .inr (.inl ⟨p, ws, i, v, rfl, rfl, hp, h1, rs.fz w h2⟩)
    | _ => simp [opD] at hd
  | _ => cases d1 <;> simp [opD] at hd
theorem cutD_fz {K : PySem.W.Frag} {F : Hp} {vs : List V} {ds : List D} (h : FzL K F vs ds) (lo hi : Option Int) : FzL K F (cutV vs lo hi) (cutD ds lo hi) := by
  unfold cutV cutD
  rw [h.len]
  exact (h.drop _).take _
/-- what a slice of data is -/
theorem slO_ok {F H : Hp} {A B : AS} {v : V} {x d : D} {lo hi : Option Int} {Q : VK} (w : Wd F H A) (o : Own X.K mg F H v x B) (h : slO x lo hi = some d) (rs : Rs X.K mg F H A false d Q) :
    (rSlS v lo hi H Q ∨ (rSlL X.K v lo hi H Q ∨ rSlT X.K v lo hi H Q)) := by
  unfold slO at h
  split at h
  · split at h
    · rename_i hl
      cases h
      obtain ⟨e, hok⟩ := o.str
      refine .inl ⟨_, e, by rw [szl]; show (ST _).length ≤ _; rw [st_len]; exact hl, ?_⟩
      have := rs.str w (okCs_sub hok fun y hy => List.mem_of_mem_drop (List.mem_of_mem_take hy))
      have e2 : ∀ l : List Nat, cutS (ST l) lo hi = ST (cutD l lo hi) := fun l => by
        unfold cutS cutD
        rw [st_len]
      rw [show (⟨_⟩ : Str) = ST _ from rfl, e2]; exact this
    · cases h
  · split at h
    · rename_i hl
      cases h
      obtain ⟨p, ws, rfl, hp, ol⟩ := o.lstv w.same
      exact .inr (.inl ⟨p, ws, rfl, SqL.of hp, fun q hq => rs.lst w (cutD_fz (ol.fzd hl) lo hi) hq⟩)
    · cases h
  · split at h
    · cases h
    · rename_i hl
      cases h
      obtain ⟨p, ws, rfl, hp, _, f⟩ := o.tupv w.same
      exact .inr (.inr ⟨p, ws, rfl, hp, by rw [f.len]; exact hl, fun q hq => rs.tup w (cutD_fz f lo hi) hq⟩)
  · cases h
theorem sl_any : SlR X (fun v lo hi H Q => rSlS v lo hi H Q ∨ (rSlL X.K v lo hi H Q ∨ rSlT X.K v lo hi H Q)) := sl_str.or (sl_list.or sl_tup)
/-- e[lo:hi], both ends at once -/
theorem slice_run {r : V → Option Int → Option Int → Hp → VK → Prop} {lo hi : Option Expr} {p2 pos : Pos} {e : Expr} (hr : SlR X r) {pins : List (Addr × Obj)} {s3 : Shared} {σ : SG} {H : Hp} {v vl vu : Value} {x : V} {l u : Option Int} {Q : VK} (I : Inv X pins σ H s3) (rx : RelV x v) (pl : IsPart vl l) (pu : IsPart vu u) (q : r x l u H Q) :
    wpAny (model X.prog X.w) X.A (subscriptTail e (.Slice lo hi none p2) v (.ref s3.heap.objs.size)) (EP X pins σ Q) X.xe { s3 with heap := s3.heap.push { cls := .type "slice", data := .fields #[vl, vu, .none] } } := by
  have I4 : Inv X pins σ H { s3 with heap := s3.heap.push { cls := .type "slice", data := .fields #[vl, vu, .none] } } := I.kept (t' := s3.toks) fun b ob q => Heap.get?_push_of_some _ q
  obtain ⟨T, id, hT, ht, hg⟩ := hr pins { s3 with heap := s3.heap.push { cls := .type "slice", data := .fields #[vl, vu, .none] } } σ H x v vl vu l u s3.heap.objs.size Q I4 rx (Heap.IsSliceOf.new ..) pl pu q
  exact tail_any (ops := [.ref s3.heap.objs.size, v]) ht hT hg (by with_unfolding_all rfl)
theorem part_int {i : Int} {v : Value} (r : RelV (.int i) v) : IsPart v (some i) := by
  obtain ⟨t, rfl⟩ := r
  exact .int i t
theorem pe_sl00 {e : E} {a : Expr} {p2 pos : Pos} (ha : PE X a (tR X.K mg call W e)) : PE X (.Subscript a (.Slice none none none p2) pos) (tE X.K mg call (.op (.sl false false) [e]) W) := by
  refine opFin (r := on1 fun v H Q => rSlS v none none H Q ∨ (rSlL X.K v none none H Q ∨ rSlT X.K v none none H Q)) (pe_slice sl_any ha po_none po_none) fun {F H A vs ds d Q} w rl hd _ rs => ?_
  obtain ⟨l1, _⟩ := rl.lens
  match ds, l1 with
  | [d1], _ =>
    obtain ⟨v1, B1, rfl, o1⟩ := rl.d1
    exact slO_ok w o1 hd rs
theorem pe_sl10 {e el : E} {a l : Expr} {p2 pos : Pos} (ha : PE X a (tR X.K mg call W e)) (hl : PE X l (tR X.K mg call W el)) : PE X (.Subscript a (.Slice (some l) none none p2) pos) (tE X.K mg call (.op (.sl true false) [e, el]) W) := by
  refine opFin (r := on2 fun v y H Q => ∃ i, y = .int i ∧ (rSlS v (some i) none H Q ∨ (rSlL X.K v (some i) none H Q ∨ rSlT X.K v (some i) none H Q))) ⟨fun pins s σ H Q I h => ?_⟩ fun {F H A vs ds d Q} w rl hd _ rs => ?_
  · refine Subscript_ (thn (ha.run pins s σ H _ I h) fun v s1 ⟨x, H1, I1, r1, q1⟩ => ?_)
    refine wpAny_Slice ?_
    rw [evalPart_some]
    refine thn (hl.run pins s1 σ H1 _ I1 q1) fun vl s2 ⟨y, H2, I2, r2, q2⟩ => ?_
    rw [evalPart_none]
    refine wpAny_pure ?_
    refine wpAny_pure ?_
    obtain ⟨i, rfl, q⟩ := q2
    exact slice_run (pos := pos) sl_any I2 r1 (part_int r2) .none q
  · obtain ⟨l1, _⟩ := rl.lens
    match ds, l1 with
    | [d1, d2], _ =>
      obtain ⟨v1, v2, B1, B2, rfl, o1, o2⟩ := rl.d2
      cases d2 <;> simp only [opD] at hd <;> try (cases hd; done)
      exact ⟨_, o2.int, slO_ok w o1 hd rs⟩
theorem pe_sl01 {e el : E} {a l : Expr} {p2 pos : Pos} (ha : PE X a (tR X.K mg call W e)) (hl : PE X l (tR X.K mg call W el)) : PE X (.Subscript a (.Slice none (some l) none p2) pos) (tE X.K mg call (.op (.sl false true) [e, el]) W) := by
  refine opFin (r := on2 fun v y H Q => ∃ i, y = .int i ∧ (rSlS v none (some i) H Q ∨ (rSlL X.K v none (some i) H Q ∨ rSlT X.K v none (some i) H Q))) ⟨fun pins s σ H Q I h => ?_⟩ fun {F H A vs ds d Q} w rl hd _ rs => ?_
  · refine Subscript_ (thn (ha.run pins s σ H _ I h) fun v s1 ⟨x, H1, I1, r1, q1⟩ => ?_)
    refine wpAny_Slice ?_
    rw [evalPart_none]
    refine wpAny_pure ?_
    rw [evalPart_some]
    refine thn (hl.run pins s1 σ H1 _ I1 q1) fun vl s2 ⟨y, H2, I2, r2, q2⟩ => ?_
    refine wpAny_pure ?_
    obtain ⟨i, rfl, q⟩ := q2
    exact slice_run (pos := pos) sl_any I2 r1 .none (part_int r2) q
  · obtain ⟨l1, _⟩ := rl.lens
    match ds, l1 with
    | [d1, d2], _ =>
      obtain ⟨v1, v2, B1, B2, rfl, o1, o2⟩ := rl.d2
      cases d2 <;> simp only [opD] at hd <;> try (cases hd; done)
      exact ⟨_, o2.int, slO_ok w o1 hd rs⟩
theorem pe_sl11 {e el eh : E} {a l u : Expr} {p2 pos : Pos} (ha : PE X a (tR X.K mg call W e)) (hl : PE X l (tR X.K mg call W el)) (hh : PE X u (tR X.K mg call W eh)) : PE X (.Subscript a (.Slice (some l) (some u) none p2) pos) (tE X.K mg call (.op (.sl true true) [e, el, eh]) W) := by
  refine opFin (r := on3 fun v y z H Q => ∃ i j, y = .int i ∧ z = .int j ∧ (rSlS v (some i) (some j) H Q ∨ (rSlL X.K v (some i) (some j) H Q ∨ rSlT X.K v (some i) (some j) H Q))) ⟨fun pins s σ H Q I h => ?_⟩ fun {F H A vs ds d Q} w rl hd _ rs => ?_
  · refine Subscript_ (thn (ha.run pins s σ H _ I h) fun v s1 ⟨x, H1, I1, r1, q1⟩ => ?_)
    refine wpAny_Slice ?_
    rw [evalPart_some]
    refine thn (hl.run pins s1 σ H1 _ I1 q1) fun vl s2 ⟨y, H2, I2, r2, q2⟩ => ?_
    rw [evalPart_some]
    refine thn (hh.run pins s2 σ H2 _ I2 q2) fun vh s3 ⟨z, H3, I3, r3, q3⟩ => ?_
    rw [evalPart_none]
    refine wpAny_pure ?_
    obtain ⟨i, j, rfl, rfl, q⟩ := q3
    exact slice_run (pos := pos) sl_any I3 r1 (part_int r2) (part_int r3) q
  · obtain ⟨l1, _⟩ := rl.lens
    match ds, l1 with
    | [d1, d2, d3], _ =>
      obtain ⟨v1, v2, v3, B1, B2, B3, rfl, o1, o2, o3⟩ := rl.d3
      cases d2 <;> cases d3 <;> simp only [opD] at hd <;> try (cases hd; done)
      exact ⟨_, _, o2.int, o3.int, slO_ok w o1 hd rs⟩
/-- e[::-1] -/
theorem pe_revE {e : E} {a : Expr} {k : Nat} {p1 p2 p3 pos : Pos} (ha : PE X a (tR X.K mg call W e)) : PE X (.Subscript a (.Slice none none (some (.UnaryOp .USub (.Constant (.int 1) k p1) p2)) p3) pos) (tE X.K mg call (.op .rev [e]) W) := by
  refine opFin (r := on1 fun x H1 Q => ∃ a xs, x = .ref a ∧ SqL X.K H1 a xs ∧ ∀ p, H1 p = none → Q (.ref p) (upd H1 p (.lst xs.reverse))) (pe_revL ha) fun {F H A vs ds d Q} w rl hd _ rs => ?_
  obtain ⟨l1, _⟩ := rl.lens
  match ds, l1 with
  | [d1], _ =>
    obtain ⟨v1, B1, rfl, o1⟩ := rl.d1
    cases d1 <;> simp only [opD] at hd <;> try (cases hd; done)
    split at hd
    · rename_i hl
      cases hd
      obtain ⟨p, ws, rfl, hp, ol⟩ := o1.lstv w.same
      exact ⟨p, ws, rfl, SqL.of hp, fun q hq => rs.lst w (ol.fzd hl).rev hq⟩
    · cases hd
/-- list(range(..)) -/
theorem rgV_fz {K : PySem.W.Frag} {F : Hp} (lo hi : Int) : FzL K F (rgV lo hi) (rngO lo hi) := by
  unfold rgV rngO
  generalize (hi - lo).toNat = n
  have : ∀ (l : List Nat), FzL K F (l.map fun i => V.int (lo + (i : Nat))) (l.map fun i => D.int (lo + (i : Nat))) := fun l => by
    induction l with
    | nil => exact .nil
    | cons x r ih => exact .cons (.int _) ih
  exact this _
theorem rngO_len (lo hi : Int) : (rngO lo hi).length = (hi - lo).toNat := by unfold rngO; simp
theorem in62_of {i : Int} (h : in62 i = true) : -(2 ^ 62) ≤ i ∧ i < 2 ^ 62 := by simpa [in62] using h
theorem pe_lrng1 (hc : X.calm = true) {e : E} {a : Expr} {q1 q2 pos pos' : Pos} (hgl : Gl X "list") (hml : X.mg "list" = none) (hgr : Gl X "range") (hmr : X.mg "range" = none) (na : noStar a = true) (ha : PE X a (tR X.K mg call W e)) :
    PE X (.Call (.Name "list" q1) [.Call (.Name "range" q2) [a] [] pos'] [] pos) (tE X.K mg call (.op .lrng [e]) W) := by
  refine opFin (r := on1 fun x H Q => ∃ n, x = .int n ∧ RgOk 0 n ∧ ∀ q, H q = none → Q (.ref q) (upd H q (.lst (rgV 0 n)))) (pe_listRg hc hgl hml (prg_1 hgr hmr ha (starEach_cons na [] X.env))) fun {F H A vs ds d Q} w rl hd _ rs => ?_
  obtain ⟨l1, _⟩ := rl.lens
  match ds, l1 with
  | [d1], _ =>
    obtain ⟨v1, B1, rfl, o1⟩ := rl.d1
    cases d1 <;> simp only [opD, rngs, Option.bind_eq_some_iff] at hd <;> try (obtain ⟨_, h, _⟩ := hd; cases h; done)
    obtain ⟨xs, h1, h2⟩ := hd
    split at h1
    · rename_i hb
      cases h1
      split at h2
      · rename_i hl
        cases h2
        rw [rngO_len] at hl
        have := in62_of hb
        refine ⟨_, o1.int, ⟨by decide, by decide, this.1, this.2, by simpa using hl⟩, fun q hq => rs.lst w (rgV_fz _ _) hq⟩
      · cases h2
    · cases h1
theorem pe_lrng2 (hc : X.calm = true) {e f : E} {a b : Expr} {q1 q2 pos pos' : Pos} (hgl : Gl X "list") (hml : X.mg "list" = none) (hgr : Gl X "range") (hmr : X.mg "range" = none) (na : noStar a = true) (nb : noStar b = true) (ha : PE X a (tR X.K mg call W e)) (hb : PE X b (tR X.K mg call W f)) :
    PE X (.Call (.Name "list" q1) [.Call (.Name "range" q2) [a, b] [] pos'] [] pos) (tE X.K mg call (.op .lrng [e, f]) W) := by
  refine opFin (r := on2 fun x y H Q => ∃ i j, x = .int i ∧ y = .int j ∧ RgOk i j ∧ ∀ q, H q = none → Q (.ref q) (upd H q (.lst (rgV i j)))) (pe_listRg hc hgl hml (prg_2 hgr hmr ha hb (starEach_cons na [b] X.env) (starEach_cons nb [] X.env) (back_none (es := [b]) (by simp [nb])))) fun {F H A vs ds d Q} w rl hd _ rs => ?_
  obtain ⟨l1, _⟩ := rl.lens
  match ds, l1 with
  | [d1, d2], _ =>
    obtain ⟨v1, v2, B1, B2, rfl, o1, o2⟩ := rl.d2
    cases d1 <;> cases d2 <;> simp only [opD, rngs, Option.bind_eq_some_iff] at hd <;> try (obtain ⟨_, h, _⟩ := hd; cases h; done)
    obtain ⟨xs, h1, h2⟩ := hd
    split at h1
    · rename_i hb
      cases h1
      simp only [Bool.and_eq_true] at hb
      split at h2
      · rename_i hl
        cases h2
        rw [rngO_len] at hl
        have h1 := in62_of hb.1
        have h2 := in62_of hb.2
        refine ⟨_, _, o1.int, o2.int, ⟨h1.1, h1.2, h2.1, h2.2, by simpa using hl⟩, fun q hq => rs.lst w (rgV_fz _ _) hq⟩
      · cases h2
    · cases h1
end
end VI

namespace VI
variable [Tn]
open PySem PySem.Spec PyProof.Rows L2
section
variable {prog : Program} {w : World} {A : Around} {R : Result → Shared → Prop} {I : Addr} {fp wr : List Addr} {n : Nat} {vf : Nat → Value} {St : Nat → Heap → Prop} {Kp : Heap → Prop} {lt : Nat → Nat → Bool}
/-- how the items compare while Kp holds of the heap -/
def LtAt (prog : Program) (w : World) (A : Around) (Kp : Heap → Prop) (n : Nat) (vf : Nat → Value) (lt : Nat → Nat → Bool) : Prop :=
  ∀ (i j : Nat) (s : Shared) (Q : Value → Shared → Prop) (E : Value → Shared → Prop), Kp s.heap → i < n → j < n → Q (.bool (lt i j)) s → wpAny (model prog w) A (richCompare .Lt (vf i) (vf j)) Q E s
structure MinH (prog : Program) (w : World) (A : Around) (S : Addr) (fp wr : List Addr) (n : Nat) (vf : Nat → Value) (Kp : Heap → Prop) (lt : Nat → Nat → Bool) : Prop where
  cmp : LtAt prog w A.in1 Kp n vf lt
  keep : ∀ h h', Kp h → (∀ b o, b ∉ wr → b ≠ S → h.get? b = some o → h'.get? b = some o) → Kp h'
  free : S ∉ fp
  irr : ∀ c, lt c c = false
  tr : ∀ m b c, lt m b = false → lt c b = true → lt m c = false
abbrev cellOb (v : Value) (c : Nat) : Obj := { cls := .type "list", dict := none, data := .seq #[v, v] c, slots := #[] }
abbrev loopNm : String := toString "min" ++ toString ".loop"
theorem minT_go {S : Addr} (W : Walks prog w A.in1 I fp wr n (fun i v => i < n ∧ v = vf i) St) (M : MinH prog w A S fp wr n vf Kp lt) :
    ∀ (k j : Nat) (s : Shared) (b c : Nat), n = j + 1 + k → b ≤ j → (∀ m, m ≤ j → lt m b = false) → St (j + 1) s.heap → Kp s.heap → s.heap.get? S = some (cellOb (vf b) c) →
    (∀ b' h' tk, b' < n → (∀ m, m < n → lt m b' = false) → (∀ a o, a ∉ wr → a ≠ S → s.heap.get? a = some o → h'.get? a = some o) → R (.ok (.ret (vf b'))) { s with heap := h', toks := tk }) →
    codeAny (model prog w) A (.builtin "min.loop" ⟨[.ref I, .none, .ref S], []⟩) R s := by
  have notW : S ∉ wr := fun z => M.free (W.sub _ z)
  have nm : loopNm = "min.loop" := by decide
  intro k
  induction k with
  | zero =>
    intro j s b c hn hb hmin st kp hS done
    have hn' : n = j + 1 := by omega
    apply codeAny_builtin F.entry_min_loop
    rw [Around.under_plainId F.plain_min_loop _]
    apply wpAny_bind
    apply wpAny_seqItems hS rfl
    apply wpAny_bind
    apply wpAny_tryCatch
    apply W.done s _ _ (hn' ▸ st)
    intro h1 tk1 k1
    have hS1 := k1 S _ notW hS
    apply wpAny_bind
    apply wpAny_updateSeq hS1 rfl
    apply wpAny_bind
    apply wpAny_letGo
    apply wpAny_pure
    apply done b _ tk1 (by omega) (fun m hm => hmin m (by omega))
    intro a o na ns e
    have e1 := k1 a o na e
    rw [← e1]
    exact Heap.get?_update_other _ _ (Ne.symm ns)
  | succ k ih =>
    intro j s b c hn hb hmin st kp hS done
    apply codeAny_builtin F.entry_min_loop
    rw [Around.under_plainId F.plain_min_loop _]
    apply wpAny_bind
    apply wpAny_seqItems hS rfl
    apply wpAny_bind
    apply wpAny_tryCatch
    apply W.item (j + 1) s _ _ (by omega) st
    rintro v h1 tk1 ⟨_, rfl⟩ st1 k1
    have hS1 := k1 S _ notW hS
    have kp1 : Kp h1 := M.keep _ _ kp fun a o na _ e => k1 a o na e
    apply wpAny_bind
    apply wpAny_pure
    show wpAny _ A.in1 (tryCatch _ _ >>= _) _ _ _
    apply wpAny_bind
    apply wpAny_tryCatch
    apply wpAny_holding
    apply wpAny_bind
    apply M.cmp (j + 1) b _ _ _ kp1 (by omega) (by omega)
    apply wpAny_bind
    apply wpAny_holding
    apply wpAny_truthy_bool
    apply wpAny_bind
    apply wpAny_letGo
    apply wpAny_pure
    cases hlt : lt (j + 1) b with
    | true =>
      simp only [if_true]
      apply wpAny_bind
      apply wpAny_updateSeq hS1 rfl
      apply wpAny_bind
      apply wpAny_letGo
      rw [show (toString "min" ++ toString ".loop" : String) = "min.loop" from nm]
      apply wpAny_pure
      refine ⟨plainId_quiet F.plain_min_loop _, ih (j + 1) _ (j + 1) _ (by omega) (Nat.le_refl _) ?_ ?_ ?_ (Heap.get?_update_self _ hS1 rfl) ?_⟩
      · intro m hm
        rcases Nat.lt_or_ge m (j + 1) with z | z
        · exact M.tr m b (j + 1) (hmin m (by omega)) hlt
        · rw [show m = j + 1 by omega]; exact M.irr _
      · exact W.frame _ _ _ st1 fun a ha o e => (Heap.get?_update_other _ _ (fun z : S = a => M.free (z ▸ ha))).trans e
      · exact M.keep _ _ kp1 fun a o _ ns e => (Heap.get?_update_other _ _ (Ne.symm ns)).trans e
      · intro b' h2 tk2 hb' hmin' k2
        exact done b' h2 tk2 hb' hmin' fun a o na ns e => k2 a o na ns ((Heap.get?_update_other _ _ (Ne.symm ns)).trans (k1 a o na e))
    | false =>
      simp only [Bool.false_eq_true, if_false]
      apply wpAny_bind
      apply wpAny_letGo
      rw [show (toString "min" ++ toString ".loop" : String) = "min.loop" from nm]
      apply wpAny_pure
      refine ⟨plainId_quiet F.plain_min_loop _, ih (j + 1) _ b c (by omega) (by omega) ?_ st1 kp1 hS1 ?_⟩
      · intro m hm
        rcases Nat.lt_or_ge m (j + 1) with z | z
        · exact hmin m (by omega)
        · rw [show m = j + 1 by omega]; exact hlt
      · intro b' h2 tk2 hb' hmin' k2
        exact done b' h2 tk2 hb' hmin' fun a o na ns e => k2 a o na ns (k1 a o na e)
end
end VI
namespace VI
variable [Tn]
open PySem PySem.Spec PyProof.Rows L2
theorem ltP_irr (a : Int × Int) : ltP a a = false := by simp [ltP]
theorem ltP_tr {a b c : Int × Int} (h1 : ltP a b = false) (h2 : ltP c b = true) : ltP a c = false := by
  unfold ltP at *
  split at h1 <;> split at h2 <;> split <;> simp at * <;> omega
theorem ltP_eq {a b : Int × Int} (h1 : ltP a b = false) (h2 : ltP b a = false) : a = b := by
  unfold ltP at *
  obtain ⟨a1, a2⟩ := a
  obtain ⟨b1, b2⟩ := b
  split at h1 <;> split at h2 <;> simp at * <;> omega
section
variable {prog : Program} {w : World} {A : Around} {E : Value → Shared → Prop} {s : Shared}
theorem minT_first {R : Result → Shared → Prop} {I : Addr} {fp wr : List Addr} {n : Nat} {vf : Nat → Value} {St : Nat → Heap → Prop} {Kp : Heap → Prop} {lt : Nat → Nat → Bool} {S : Addr} {c : Nat}
    (W : Walks prog w A.in1 I fp wr n (fun i v => i < n ∧ v = vf i) St) (M : MinH prog w A S fp wr n vf Kp lt) (hn : 0 < n) (st : St 0 s.heap) (kp : Kp s.heap)
    (hS : s.heap.get? S = some { cls := .type "list", dict := none, data := .seq #[] c, slots := #[] })
    (done : ∀ b' h' tk, b' < n → (∀ m, m < n → lt m b' = false) → (∀ a o, a ∉ wr → a ≠ S → s.heap.get? a = some o → h'.get? a = some o) → R (.ok (.ret (vf b'))) { s with heap := h', toks := tk }) :
    codeAny (model prog w) A (.builtin "min.loop" ⟨[.ref I, .none, .ref S], []⟩) R s := by
  have notW : S ∉ wr := fun z => M.free (W.sub _ z)
  have nm : loopNm = "min.loop" := by decide
  apply codeAny_builtin F.entry_min_loop
  rw [Around.under_plainId F.plain_min_loop _]
  apply wpAny_bind
  apply wpAny_seqItems hS rfl
  apply wpAny_bind
  apply wpAny_tryCatch
  apply W.item 0 s _ _ hn st
  rintro v h1 tk1 ⟨_, rfl⟩ st1 k1
  have hS1 := k1 S _ notW hS
  have kp1 : Kp h1 := M.keep _ _ kp fun a o na _ e => k1 a o na e
  apply wpAny_bind
  apply wpAny_pure
  show wpAny _ A.in1 (updateSeq S _ >>= _) _ _ _
  apply wpAny_bind
  apply wpAny_updateSeq hS1 rfl
  rw [show (toString "min" ++ toString ".loop" : String) = "min.loop" from nm]
  apply wpAny_pure
  refine ⟨plainId_quiet F.plain_min_loop _, minT_go W M (n - 1) 0 _ 0 _ (by omega) (Nat.le_refl _) ?_ ?_ ?_ (Heap.get?_update_self _ hS1 rfl) ?_⟩
  · intro m hm
    rw [show m = 0 by omega]; exact M.irr _
  · exact W.frame _ _ _ st1 fun a ha o e => (Heap.get?_update_other _ _ (fun z : S = a => M.free (z ▸ ha))).trans e
  · exact M.keep _ _ kp1 fun a o _ ns e => (Heap.get?_update_other _ _ (Ne.symm ns)).trans e
  · intro b' h2 tk2 hb' hmin' k2
    exact done b' h2 tk2 hb' hmin' fun a o na ns e => k2 a o na ns ((Heap.get?_update_other _ _ (Ne.symm ns)).trans (k1 a o na e))
/-- min(l), l a list of pairs of ints -/
theorem call_minT {l : Addr} {items : Array Value} {tf : Nat → Addr} {tt : Nat → Array Value} {pf : Nat → Int × Int} {Q : Value → Shared → Prop} (hh : A.handled = none) (hu : A.units + 1 < cLine) (hl : s.heap.IsList l items) (hne : 0 < items.size)
    (hv : ∀ i, i < items.size → items[i]? = some (.ref (tf i))) (ht : ∀ i, i < items.size → s.heap.IsTuple (tf i) (tt i))
    (hp : ∀ i, i < items.size → ∃ t u, tt i = #[.int (pf i).1 t, .int (pf i).2 u])
    (h : ∀ b h' tk, b < items.size → (∀ m, m < items.size → ltP (pf m) (pf b) = false) → (∀ a o, s.heap.get? a = some o → h'.get? a = some o) → Q (.ref (tf b)) { s with heap := h', toks := tk }) :
    wpAny (model prog w) A (call (.builtin "min") [.ref l]) Q E s := by
  have nm : loopNm = "min.loop" := by decide
  have hlt : l < s.heap.objs.size := by obtain ⟨_, e, _⟩ := hl; exact Heap.lt_size e
  have htl : ∀ i, i < items.size → tf i < s.heap.objs.size := fun i hi => by obtain ⟨_, e, _⟩ := ht i hi; exact Heap.lt_size e
  apply call_function_tree F.kind_min F.plain_min F.entry_min (F.args_min1 _)
  show wpAny _ A.in1 (Builtin.Builtins.bindParams "min" ["key", "default"] 0 ⟨[], []⟩ >>= _) _ _ s
  apply wpAny_bind
  apply wpAny_of_eq (show Builtin.Builtins.bindParams "min" ["key", "default"] 0 ⟨[], []⟩ = pure [none, none] from rfl)
  show wpAny _ A.in1 (pure _ >>= _) _ _ s
  apply wpAny_bind
  apply wpAny_pure
  apply wpAny_bind
  apply wpAny_pyIter_list hl
  apply wpAny_bind
  refine wpAny_newObj_type ?_ (by show (0 : Nat) ≤ sizeLine; omega)
  rw [show (toString "min" ++ toString ".loop" : String) = "min.loop" from nm]
  apply wpAny_pure
  refine ⟨plainId_quiet F.plain_min_loop _, ?_⟩
  have sz : (s.heap.push { cls := .type "list_iterator", data := .fields #[.ref l, .int 0 0] }).objs.size = s.heap.objs.size + 1 := by rw [Heap.size_push]
  have old : ∀ a o, s.heap.get? a = some o → ((s.heap.push { cls := .type "list_iterator", data := .fields #[.ref l, .int 0 0] }).push { cls := .type "list", data := .seq #[] }).get? a = some o := fun a o e => Heap.get?_push_of_some _ (Heap.get?_push_of_some _ e)
  have W0 := Walks.list (prog := prog) (w := w) (A := A.in1) hh s.heap.objs.size l (Nat.ne_of_lt hlt) items
  have W : Walks prog w A.in1 s.heap.objs.size [s.heap.objs.size, l] [s.heap.objs.size] items.size (fun i v => i < items.size ∧ v = Value.ref (tf i)) (fun i h => h.IsListIter s.heap.objs.size l i ∧ h.IsList l items) :=
    { W0 with item := fun i s' Q' E' hi st hQ => W0.item i s' Q' E' hi st fun v h' tk hP st' k => hQ v h' tk ⟨hi, by rw [hv i hi] at hP; exact (Option.some.inj hP).symm⟩ st' k }
  have M : MinH prog w A (s.heap.objs.size + 1) [s.heap.objs.size, l] [s.heap.objs.size] items.size (fun i => Value.ref (tf i)) (fun h => ∀ i, i < items.size → h.IsTuple (tf i) (tt i)) (fun i j => ltP (pf i) (pf j)) := by
    refine ⟨?_, ?_, ?_, fun c => ltP_irr _, fun m b c h1 h2 => ltP_tr h1 h2⟩
    · intro i j s' Q' E' kp hi hj hq
      obtain ⟨t, u, e1⟩ := hp i hi
      obtain ⟨t', u', e2⟩ := hp j hj
      have h1 := kp i hi
      have h2 := kp j hj
      rw [e1] at h1
      rw [e2] at h2
      have R := Ob.RcOp.tuples_lt (A := A.in1) (s := s') (e := fun k => if k = 0 then decide ((pf i).1 = (pf j).1) else decide ((pf i).2 = (pf j).2)) (r := fun k => if k = 0 then decide ((pf i).1 < (pf j).1) else decide ((pf i).2 < (pf j).2)) h1 h2 (show A.units + 1 < cLine from hu) ?_ ?_
      · have e3 : Ob.lexAt (fun k => if k = 0 then decide ((pf i).1 = (pf j).1) else decide ((pf i).2 = (pf j).2)) (fun k => if k = 0 then decide ((pf i).1 < (pf j).1) else decide ((pf i).2 < (pf j).2)) (decide (2 < 2)) 0 2 = ltP (pf i) (pf j) := by
          simp only [Ob.lexAt]
          unfold ltP
          by_cases z1 : (pf i).1 = (pf j).1
          · by_cases z2 : (pf i).2 = (pf j).2 <;> simp [z1, z2]
          · simp [z1]
        exact R prog w E' Q' (by
          show Q' (.bool (Ob.lexAt (fun k => if k = 0 then decide ((pf i).1 = (pf j).1) else decide ((pf i).2 = (pf j).2)) (fun k => if k = 0 then decide ((pf i).1 < (pf j).1) else decide ((pf i).2 < (pf j).2)) (decide (2 < 2)) 0 2)) s'
          rw [e3]; exact hq)
      · intro k k1 k2
        have eqd : ∀ a b : Int, (a == b) = decide (a = b) := fun a b => by
          by_cases q : a = b
          · rw [decide_eq_true q]; exact beq_iff_eq.mpr q
          · rw [decide_eq_false q]; exact beq_eq_false_iff_ne.mpr q
        match k, k1, k2 with
        | 0, _, _ =>
          show SeqAt.EqAt A.in1.in1 s' (.int (pf i).1 t) (.int (pf j).1 t') (decide ((pf i).1 = (pf j).1))
          rw [← eqd]; exact SeqAt.EqAt.int_int _ _ _ _
        | 1, _, _ =>
          show SeqAt.EqAt A.in1.in1 s' (.int (pf i).2 u) (.int (pf j).2 u') (decide ((pf i).2 = (pf j).2))
          rw [← eqd]; exact SeqAt.EqAt.int_int _ _ _ _
        | k + 2, k1, _ => exact absurd k1 (by simp)
      · intro k k1 k2 _
        match k, k1, k2 with
        | 0, _, _ => exact Ob.RcOp.lt_int _ _ _ _
        | 1, _, _ => exact Ob.RcOp.lt_int _ _ _ _
        | k + 2, k1, _ => exact absurd k1 (by simp)
    · intro h h' kp k i hi
      obtain ⟨o, e, r⟩ := kp i hi
      have := htl i hi
      exact ⟨o, k _ _ (fun hm => absurd (List.mem_singleton.mp hm) (Nat.ne_of_lt this)) (Nat.ne_of_lt (Nat.lt_succ_of_lt this)) e, r⟩
    · intro hm
      rcases List.mem_cons.mp hm with e | hm
      · exact absurd e (Nat.ne_of_gt (Nat.lt_succ_self _))
      · exact absurd (List.mem_singleton.mp hm) (Nat.ne_of_gt (Nat.lt_succ_of_lt hlt))
  have fin := minT_first (s := { s with heap := (s.heap.push { cls := .type "list_iterator", data := .fields #[.ref l, .int 0 0] }).push { cls := .type "list", data := .seq #[] } }) (R := fun r s' => match r with
      | Except.ok (Flow.ret v) => Q v s'
      | Except.ok a => False
      | Except.error e => E e s') (c := 0) W M hne ?_ ?_ ?_ ?_
  · rw [← sz] at fin
    exact fin
  · exact ⟨⟨_, Heap.get?_push_of_some _ (Heap.get?_push_size _ rfl), rfl, rfl⟩, (hl.push _).push _⟩
  · intro i hi
    obtain ⟨o, e, r⟩ := ht i hi
    exact ⟨o, old _ _ e, r⟩
  · rw [← sz]; exact Heap.get?_push_size _ rfl
  · intro b h' tk hb hmin k
    refine h b h' tk hb hmin fun a o e => ?_
    have := Heap.lt_size e
    exact k a o (fun hm => absurd (List.mem_singleton.mp hm) (Nat.ne_of_lt this)) (Nat.ne_of_lt (Nat.lt_succ_of_lt this)) (old _ _ e)
end
theorem ltP_tr2 {a b c : Int × Int} (h1 : ltP a b = false) (h2 : ltP b c = false) : ltP a c = false := by
  unfold ltP at *
  split at h1 <;> split at h2 <;> split <;> simp at * <;> omega
theorem ltP_as {a b : Int × Int} (h1 : ltP a b = true) : ltP b a = false := by
  unfold ltP at *
  split at h1 <;> split <;> simp at * <;> omega
theorem minP_min : ∀ {ps : List (Int × Int)}, ps ≠ [] → minP ps ∈ ps ∧ ∀ p ∈ ps, ltP p (minP ps) = false
  | [], h => absurd rfl h
  | [x], _ => ⟨by simp [minP], fun p hp => by simp at hp; subst hp; exact ltP_irr _⟩
  | x :: y :: r, _ => by
    obtain ⟨h1, h2⟩ := minP_min (ps := y :: r) (by simp)
    simp only [minP]
    cases hc : ltP (minP (y :: r)) x with
    | true =>
      rw [if_pos rfl]
      refine ⟨List.mem_cons_of_mem _ h1, fun p hp => ?_⟩
      rcases List.mem_cons.mp hp with rfl | hp
      · exact ltP_as hc
      · exact h2 p hp
    | false =>
      rw [if_neg (by decide)]
      refine ⟨List.mem_cons_self, fun p hp => ?_⟩
      rcases List.mem_cons.mp hp with rfl | hp
      · exact ltP_irr _
      · exact ltP_tr2 (h2 p hp) hc
def pT (p : Int × Int) : D := .tup [.int p.1, .int p.2]
theorem prsO_some : ∀ {ds : List D} {ps : List (Int × Int)}, prsO ds = some ps → ds = ps.map pT
  | [], ps, h => by simp [prsO] at h; subst h; rfl
  | d :: r, ps, h => by
    unfold prsO at h
    split at h
    · rename_i heq; cases heq
    · rename_i a b r' heq
      cases heq
      rw [Option.map_eq_some_iff] at h
      obtain ⟨qs, h1, rfl⟩ := h
      rw [prsO_some h1]; rfl
    · cases h
theorem OwnL.prs {K : PySem.W.Frag} {mg : Str → Option Value} {F H : Hp} (sm : Same F H) : ∀ {ps : List (Int × Int)} {ws : List V} {B : AS}, OwnL K mg F H ws (ps.map pT) B → ∃ ts : List Addr, ws = ts.map V.ref ∧ ts.length = ps.length ∧ ∀ (i : Nat) (t : Addr) (q : Int × Int), ts[i]? = some t → ps[i]? = some q → SqT K H t [V.int q.1, V.int q.2] ∧ Fz K F (.ref t) (pT q)
  | [], ws, B, o => by
    cases o
    exact ⟨[], rfl, rfl, fun i t q h => by simp at h⟩
  | p :: ps, ws, B, o => by
    cases o with
    | cons o1 o2 d12 t1 t2 =>
      obtain ⟨ts, rfl, hl, ht⟩ := OwnL.prs sm o2
      obtain ⟨a, vs, rfl, h2, h3⟩ := o1.tupx
      have h1 := SqT.of (K := K) (sm _ _ h2)
      have e := (FzL.own (mg := mg) (H := H) h3)
      have e2 := OwnL.ints (ns := [p.1, p.2]) e
      subst e2
      refine ⟨a :: ts, rfl, by simp [hl], fun i t q hi hq => ?_⟩
      cases i with
      | zero =>
        simp at hi hq
        subst hi hq
        exact ⟨h1, .tup h2 h3⟩
      | succ i => exact ht i t q (by simpa using hi) (by simpa using hq)
theorem refs_of : ∀ {ts : List Addr} {us : List Value}, Vals (ts.map V.ref) us → us = ts.map Value.ref
  | [], _, .nil => rfl
  | t :: ts, _ :: us, .cons r rr => by cases r; rw [refs_of rr]; rfl
def rMinT (K : PySem.W.Frag) : List V → Hp → VK → Prop := fun vs H Q => ∃ (a : Addr) (ts : List Addr) (ps : List (Int × Int)), vs = [V.ref a] ∧ SqL K H a (ts.map V.ref) ∧ ts.length = ps.length ∧ 0 < ps.length ∧ (∀ (i : Nat) (t : Addr) (q : Int × Int), ts[i]? = some t → ps[i]? = some q → SqT K H t [V.int q.1, V.int q.2]) ∧
  ∀ (b : Nat) (t : Addr) (q : Int × Int), ts[b]? = some t → ps[b]? = some q → (∀ p ∈ ps, ltP p q = false) → Q (.ref t) H
theorem cr_minT {X : Cx} (hc : X.calm = true) (hu : X.A.units + 1 < cLine) : CallR X (.builtin "min") (rMinT X.K) := by
  intro pins s σ H vs us Q I r h
  obtain ⟨a, ts, ps, rfl, hs, hlen, hpos, ht, q⟩ := h
  obtain ⟨its, rv, hl, hz⟩ := I.list hs
  rw [Vals.ref1 r]
  have hits := refs_of rv
  subst hits
  have hsz : (ts.map Value.ref).toArray.size = ps.length := by simp [hlen]
  have tk : ∀ i, (hi : i < ts.length) → ts[i]? = some (ts.getD i 0) := fun i hi => by simp [List.getD, hi]
  have pk : ∀ i, (hi : i < ps.length) → ps[i]? = some (ps.getD i (0, 0)) := fun i hi => by simp [List.getD, hi]
  have hex : ∀ i, ∃ arr : Array Value, i < ps.length → s.heap.IsTuple (ts.getD i 0) arr ∧ ∃ t u, arr = #[.int (ps.getD i (0, 0)).1 t, .int (ps.getD i (0, 0)).2 u] := by
    intro i
    by_cases hi : i < ps.length
    · obtain ⟨its', rv', p1, _⟩ := I.tuple (ht i _ _ (tk i (by omega)) (pk i hi))
      refine ⟨its'.toArray, fun _ => ⟨p1, ?_⟩⟩
      cases rv' with
      | cons a1 rr =>
        cases rr with
        | cons a2 rr2 =>
          cases rr2
          obtain ⟨t, rfl⟩ := a1
          obtain ⟨u, rfl⟩ := a2
          exact ⟨t, u, rfl⟩
    · exact ⟨#[], fun z => absurd z hi⟩
  obtain ⟨tt, htt⟩ := Classical.skolem.mp hex
  refine call_minT (tf := fun i => ts.getD i 0) (tt := tt) (pf := fun i => ps.getD i (0, 0)) (I.ok.hd hc) hu hl.isList (by rw [hsz]; exact hpos) ?_ ?_ ?_ ?_
  · intro i hi
    rw [hsz] at hi
    simp [List.getD, show i < ts.length by omega]
  · intro i hi
    rw [hsz] at hi
    exact (htt i hi).1
  · intro i hi
    rw [hsz] at hi
    exact (htt i hi).2
  · intro b h' tk' hb hmin hk
    rw [hsz] at hb hmin
    refine ⟨.ref (ts.getD b 0), H, I.kept (t' := tk') hk, rfl, q b _ _ (tk b (by omega)) (pk b hb) fun p hp => ?_⟩
    obtain ⟨m, hm, rfl⟩ := List.mem_iff_getElem.mp hp
    have := hmin m hm
    simpa [List.getD, hm] using this
end VI

namespace VI
open PySem PySem.Spec PyProof.Rows L2 PySem.W
section
variable {prog : Program} {w : World} {A : Around} {E : Value → Shared → Prop} {s : Shared} {a kS : Addr} {vs : List Value} {e1 : Nat} {P : PySem.Fin → Shared → Prop} {kz : List PyData}
theorem srt_keys {f : Value} {b : Bool} (J : List Value → Shared → Prop) (hka : kS ≠ a) (nk : s.heap.get? kS = some (seqObj "list" #[] 0)) (na : s.heap.get? a = some (seqObj "list" #[] e1))
    (hlen : kz.length = vs.length) (hZ : vs.length ≤ sizeLine) (hal : AllAlike kz) (hsk : Sortable kz) (hu : ∀ d, d ∈ kz → A.units + d.depth < cLine) (j0 : J [] s)
    (turn : ∀ (i : Nat) (x : Value) (ks : List Value) (s' : Shared), vs[i]? = some x → ks.length = i → J ks s' → (∃ o, s'.heap.get? kS = some o) → (∃ o, s'.heap.get? a = some o) →
      wpAny (model prog w) A (call f [x]) (fun v s2 => (∀ b o, (b = kS ∨ b = a) → s'.heap.get? b = some o → s2.heap.get? b = some o) ∧ ∀ h', Heap.SameBut kS s2.heap h' → J (ks ++ [v]) { s2 with heap := h' }) (fun _ _ => False) s')
    (read : ∀ (ks : List Value) (s' : Shared), J ks s' → ks.length = vs.length → EachIs (fun v k => ∃ as, Reads s'.heap v k as) ks kz)
    (h : ∀ (ks : List Value) (s' : Shared) (h' : Heap) (tk : Nat) (out : List Value) (c : Nat), J ks s' → (∀ b o, b ≠ a → b ≠ kS → s'.heap.get? b = some o → h'.get? b = some o) → h'.get? a = some (seqObj "list" out.toArray c) → KeyedOut b kz vs out →
      P (.done (.ret .none)) { s' with heap := h', toks := tk }) :
    wpAny (model prog w) A (ksk_rest a f b vs.toArray e1 (.ref kS)) P E s := by
  unfold ksk_rest
  refine wpAny_bind (wpAny_rule ?_)
  rw [List.forIn_toArray]
  refine wpAny_bind (ksk_fold (fun i s' => ∃ ks e, ks.length = i ∧ J ks s' ∧ s'.heap.get? kS = some (seqObj "list" ks.toArray e) ∧ s'.heap.get? a = some (seqObj "list" #[] e1)) vs 0 s ⟨[], 0, rfl, j0, nk, na⟩ ?one ?fin)
  case one =>
    rintro j x s' hx ⟨ks, e, hl, hJ, nk', na'⟩
    rw [Nat.zero_add] at hl
    have hj : j < vs.length := (List.getElem?_eq_some_iff.mp hx).1
    refine wpAny_bind (wpAny_attempt (wpAny_mono (turn j x ks s' hx hl hJ ⟨_, nk'⟩ ⟨_, na'⟩) (fun v s2 q => ?_) fun _ _ z => z.elim))
    obtain ⟨kp, go⟩ := q
    have nk2 := kp kS _ (.inl rfl) nk'
    have na2 := kp a _ (.inr rfl) na'
    have sb := Heap.SameBut.update s2.heap kS (Obj.mapSeq (·.push v))
    have up := get?_update_seq nk2 (·.push v)
    have e2 : (ks.toArray.push v) = (ks ++ [v]).toArray := List.push_toArray ..
    rw [e2] at up
    refine wpAny_bind (listUpdate_at nk2 rfl ?_ (by rw [List.size_toArray]; omega) (by rw [Array.size_push, List.size_toArray]; omega))
    refine wpAny_pure ⟨rfl, ks ++ [v], _, by rw [List.length_append, hl]; simp, go _ sb, up, (sb.2 a hka.symm).trans na2⟩
  case fin =>
    rintro s' ⟨ks, e, hl, hJ, nk', na'⟩
    rw [Nat.zero_add] at hl
    have rd := read ks s' hJ hl
    refine wpAny_bind (listItems_at nk' rfl ?_)
    obtain ⟨G, g1, g2⟩ := restrict s'.heap fun b => decide (b ≠ kS)
    have gk : KeepsBut a G s'.heap := fun b o _ q => by
      by_cases z : b = kS
      · rw [g2 b (by simp [z])] at q; cases q
      · rw [← g1 b (by simp [z])]; exact q
    refine keyH_end (κ := dataKind s'.heap kz) (h₁ := G) gk (g2 kS (by simp)) nk' na' hka (SortsAt.data (by simpa using rd) hal hsk hu) (by rw [List.size_toArray]; exact hl) hZ fun h3 tk c k3 n3 => ?_
    refine h ks s' h3 tk _ c hJ (fun b o n1 n2 q => k3 b o n1 ?_) n3 ⟨s'.heap, ks, hal, by simp, rd⟩
    rw [g1 b (by simp [n2])]; exact q
end
section
variable {prog : Program} {w : World} {A : Around} {E : Value → Shared → Prop} {s : Shared} {vs : List Value} {kz : List PyData}
/-- from the items on -/
theorem srt_list {q : Addr} {Q : Value → Shared → Prop} (J : List Value → Shared → Prop)
    (hlen : kz.length = vs.length) (hZ : vs.length ≤ sizeLine) (hal : AllAlike kz) (hsk : Sortable kz) (hu : ∀ d, d ∈ kz → A.units + d.depth + 1 < cLine)
    (j0 : ∀ h1, (∀ b o, s.heap.get? b = some o → h1.get? b = some o) → J [] { s with heap := h1 })
    (turn : ∀ (i : Nat) (x : Value) (ks : List Value) (s' : Shared), vs[i]? = some x → ks.length = i → J ks s' → (∃ o, s'.heap.get? (s.heap.objs.size + 2) = some o) → (∃ o, s'.heap.get? s.heap.objs.size = some o) →
      wpAny (model prog w) A.in1 (call (.ref q) [x]) (fun v s2 => (∀ b o, (b = s.heap.objs.size + 2 ∨ b = s.heap.objs.size) → s'.heap.get? b = some o → s2.heap.get? b = some o) ∧ ∀ h', Heap.SameBut (s.heap.objs.size + 2) s2.heap h' → J (ks ++ [v]) { s2 with heap := h' }) (fun _ _ => False) s')
    (read : ∀ (ks : List Value) (s' : Shared), J ks s' → ks.length = vs.length → EachIs (fun v k => ∃ as, Reads s'.heap v k as) ks kz)
    (h : ∀ (ks : List Value) (s' : Shared) (h' : Heap) (tk : Nat) (out : List Value) (c : Nat), J ks s' → (∀ b o, b ≠ s.heap.objs.size → b ≠ s.heap.objs.size + 2 → s'.heap.get? b = some o → h'.get? b = some o) → h'.get? s.heap.objs.size = some (seqObj "list" out.toArray c) → KeyedOut false kz vs out →
      Q (.ref s.heap.objs.size) { s' with heap := h', toks := tk }) :
    wpAny (model prog w) A (do
      let l ← newList vs
      let _ ← holding [l] (call (.builtin "list.sort") [l] [(Str.ofString "key", .ref q)])
      ret l) (fun fin s' => ∃ v, fin = .done (.ret v) ∧ Q v s') E s := by
  refine wpAny_bind (wpAny_newList ?_ hZ)
  have ha : (s.heap.push (seqObj "list" vs.toArray 0)).get? s.heap.objs.size = some (seqObj "list" vs.toArray 0) := Heap.get?_push_size _ rfl
  refine wpAny_bind (wpAny_holding (wpAny_call_entry_kw slot_list_sort ⟨_, ha, rfl⟩ entry_list_sort ?body (ksk_l1 _ _)))
  rw [ksk_t1]
  unfold ksk_tree
  refine wpAny_bind (listItems_at ha rfl ?_)
  refine wpAny_bind (listUpdate_at ha rfl ?_ (by rw [List.size_toArray]; exact hZ) (Nat.zero_le _))
  have ha1 := get?_update_seq ha fun _ => (#[] : Array Value)
  refine wpAny_bind (seqEpoch_at ha1 rfl ?_)
  refine wpAny_bind (wpAny_newTuple ?_ (by simpa using hZ))
  refine wpAny_bind (wpAny_newList ?_ (Nat.zero_le _))
  refine wpAny_holding ?_
  have sz : (((s.heap.push (seqObj "list" vs.toArray 0)).update s.heap.objs.size (Obj.mapSeq fun _ => (#[] : Array Value))).push (seqObj "tuple" vs.toArray 0)).objs.size = s.heap.objs.size + 2 := by
    rw [size_push', Heap.size_update, size_push']
  have old : ∀ b o, s.heap.get? b = some o → ((((s.heap.push (seqObj "list" vs.toArray 0)).update s.heap.objs.size (Obj.mapSeq fun _ => (#[] : Array Value))).push (seqObj "tuple" vs.toArray 0)).push (seqObj "list" #[] 0)).get? b = some o := fun b o e => by
    refine Heap.get?_push_of_some _ (Heap.get?_push_of_some _ ?_)
    rw [(Heap.SameBut.update (s.heap.push (seqObj "list" vs.toArray 0)) s.heap.objs.size _).2 b (Nat.ne_of_lt (Heap.lt_size e))]
    exact Heap.get?_push_of_some _ e
  have eS : (((s.heap.push (seqObj "list" vs.toArray 0)).update s.heap.objs.size (Obj.mapSeq fun _ => (#[] : Array Value))).push { cls := .type "tuple", data := .seq vs.toArray }).objs.size = s.heap.objs.size + 2 := sz
  show wpAny (model prog w) A.in1 (ksk_rest s.heap.objs.size (.ref q) false vs.toArray _ (.ref (((s.heap.push (seqObj "list" vs.toArray 0)).update s.heap.objs.size (Obj.mapSeq fun _ => (#[] : Array Value))).push { cls := .type "tuple", data := .seq vs.toArray }).objs.size)) _ _ _
  rw [eS]
  refine srt_keys (kz := kz) (kS := s.heap.objs.size + 2) (a := s.heap.objs.size) J (Nat.ne_of_gt (Nat.lt_add_of_pos_right (by decide))) ?_ (Heap.get?_push_of_some _ (Heap.get?_push_of_some _ ha1)) hlen hZ hal hsk (fun d hd => by have := hu d hd; show A.units + 1 + d.depth < _; omega) (j0 _ old) turn read fun ks s' h' tk out c hJ kp hD ko => ⟨_, rfl, wpAny_pure ⟨_, rfl, h ks s' h' tk out c hJ kp hD ko⟩⟩
  have := Heap.get?_push_size (((s.heap.push (seqObj "list" vs.toArray 0)).update s.heap.objs.size (Obj.mapSeq fun _ => (#[] : Array Value))).push { cls := .type "tuple", data := .seq vs.toArray }) (o := seqObj "list" #[] 0) rfl
  rw [eS] at this
  exact this
end
end VI

namespace VI
open PySem PySem.Spec PyProof.Rows L2 LamX
/-- a lambda's names: parameters, captured ones, globals -/
structure LamQ (sc scope : Scope) : Prop where
  kind : scope.kind = .function
  co : scope.isCoroutine = false
  gen : scope.isGenerator = false
  nocell : ∀ y ∈ scope.names, y.2 ≠ .cell
  free : ∀ y ∈ scope.names, y.2 = .free → sc.names.lookup y.1 = some .cell ∨ sc.names.lookup y.1 = some .free
theorem LamQ.has {X : Cx} {scope : Scope} (L : LamQ X.env.scope scope) (ok : X.Ok) : ∀ y ∈ scope.names, y.2 = .free → ∃ c, X.env.cells.lookup y.1 = some c :=
  fun y m e => ok.has _ (by rcases L.free y m e with k | k; exact .inl k; exact .inr k)
section
variable {X : Cx} {pins : List (Addr × Obj)} {σ σ' : L2.St} {H HZ : Hp} {s s1 : Shared} {scope : Scope}
theorem clo_look {cells : List (Str × Addr)} (hf : ∀ y ∈ scope.names, y.2 = .free → ∃ c, cells.lookup y.1 = some c) {y : Str} {c : Addr} (e : (cloFrom cells scope.names []).lookup y = some c) : cells.lookup y = some c := by
  rcases cloFrom_mem (PySem.mem_of_lookup e) with m | ⟨p, q⟩
  · cases m
  · obtain ⟨c1, h1⟩ := hf _ p rfl
    have h1 : cells.lookup y = some c1 := h1
    have : c = c1 := by rw [q, h1]; rfl
    rw [this]; exact h1
theorem clo_has {cells : List (Str × Addr)} {y : Str} (h : scope.names.lookup y = some .free) : ∃ c, (cloFrom cells scope.names []).lookup y = some c :=
  mem_lookup (cloFrom_has (cells := cells) (acc := []) (show (y, NameKind.free) ∈ scope.names from PySem.mem_of_lookup h))
/-- the lambda's body begins: its names read what the binds and the cells give -/
theorem lam_enter {A : Around} {outer : List Env} {E : XK} {f c' : Addr} {hp : Heap} {tk : Nat} {bs : List (Str × Value)} (I : Inv X pins σ H s) (L : LamQ X.env.scope scope) (e0 : Env0 X.prog X.w X.K X.mg X.base A outer s1 HZ) (hd : A.handled = none)
    (un : Un (frs X.stack) [] H HZ s.heap s1.heap) (hns : hp.Ns s1.heap.objs.size fun y => bs.reverse.lookup y) (kp : ∀ b o, s1.heap.get? b = some o → hp.get? b = some o) (hl : σ'.length = σ.length)
    (hσ : ∀ (i : Nat) (y : Str) (v : V), X.N[i]? = some y → σ'[i]? = some (some v) → (scope.names.lookup y = some .local → ∃ u, RelV v u ∧ bs.reverse.lookup y = some u) ∧ (scope.names.lookup y = some .free → σ[i]? = some (some v))) :
    Inv (lamCx X A outer s1 HZ E scope f c') [] σ' HZ { s1 with heap := hp, toks := tk } := by
  have has := L.has I.ok
  have down : ∀ {y c}, (cloFrom X.env.cells scope.names []).lookup y = some c → X.env.cells.lookup y = some c := fun {y c} e => clo_look has e
  have cellK : ∀ {c : Addr} {v : Option Value}, H c = none → s.heap.IsCell c v → hp.IsCell c v := fun {c v} n z => by
    obtain ⟨o, h1, h2⟩ := z
    obtain ⟨sl, h3⟩ := un.any h1 n (by simp)
    exact ⟨_, kp _ _ h3, h2⟩
  have ne : ∀ b : Addr, b ∉ (lamCx X A outer s1 HZ E scope f c').ex := fun b z => by
    have z : b ∈ ([] : List Addr) := z
    simp at z
  have ok : (lamCx X A outer s1 HZ E scope f c').Ok :=
    { mod := e0.mod, kind := L.kind, glob := rfl, blt := rfl, above := Nat.le_refl _
      inj := fun y z c e1 e2 => I.ok.inj y z c (down e1) (down e2)
      has := fun y hy => by
        have hy : scope.names.lookup y = some .cell ∨ scope.names.lookup y = some .free := hy
        rcases hy with hy | hy
        · exact absurd rfl (L.nocell _ (PySem.mem_of_lookup hy))
        · exact clo_has hy
      cab := fun y c z _ => by
        have z : false = true := z
        cases z
      hd := fun _ => hd, frames := Around.frames_deeper e0.frames, stk := .inr ⟨rfl, rfl⟩
      exf := fun b z => absurd z (ne b), bs := e0.bs, bsz := e0.bsz, noex := fun b _ _ => ne b, exfs := fun b z => absurd z (ne b), funs := e0.funs, frf := e0.frf }
  refine ⟨ok, rfl, e0.bare, Un.kept kp, ⟨_, hns, fun i y v e1 e2 e3 => ?_⟩, fun y c e => ?_, e0.hok.fresh (Nat.le_refl _), fun y c e => ?_, fun q hq => absurd (show q ∈ ([] : List (Addr × Obj)) ++ [] from hq) (by simp), e0.hok.kept kp, hl.trans I.len⟩
  · obtain ⟨k1, k2⟩ := hσ i y v e1 e2
    have e3 : Vis scope y := e3
    rcases e3 with k | k | k
    · obtain ⟨u, r, z⟩ := k1 k
      exact ⟨u, r, .inl ⟨k, z⟩⟩
    · exact absurd rfl (L.nocell _ (PySem.mem_of_lookup k))
    · obtain ⟨m, _, lk⟩ := I.loc
      have fr := L.free _ (PySem.mem_of_lookup k) rfl
      have fr : X.env.scope.names.lookup y = some .cell ∨ X.env.scope.names.lookup y = some .free := fr
      obtain ⟨u, r, q⟩ := lk i y v e1 (k2 k) (.inr fr)
      obtain ⟨c2, h2⟩ := clo_has (cells := X.env.cells) k
      refine ⟨u, r, .inr ⟨.inr k, c2, h2, ?_⟩⟩
      rcases q with ⟨k', _⟩ | ⟨_, c3, e', z⟩
      · have k' : X.env.scope.names.lookup y = some .local := k'
        rcases fr with f1 | f1 <;> rw [f1] at k' <;> cases k'
      · rw [down h2] at e'
        cases e'
        exact cellK (I.freeC y c2 (down h2)) z
  · obtain ⟨v, z⟩ := I.cell y c (down e)
    exact ⟨v, cellK (I.freeC y c (down e)) z⟩
  · obtain ⟨v, o, h1, _⟩ := I.cell y c (down e)
    exact un.free c o h1 (I.freeC y c (down e)) (by simp)
/-- the lambda is called: (s, H) is where its maker stood, (s1, HZ) where it is called -/
theorem lam_called {A : Around} {outer : List Env} {E : XK} {f c' : Addr} {k : Nat} {pm ctv : Value} {params : Arguments} {body : Expr} {us : List Value} {bs : List (Str × Value)} {tb : TE} {Q : VK}
    (I : Inv X pins σ H s) (L : LamQ X.env.scope scope) (e0 : Env0 X.prog X.w X.K X.mg X.base A outer s1 HZ) (hr : Room (k + 1) A) (un : Un (frs X.stack) [] H HZ s.heap s1.heap)
    (hf : s1.heap.get? f = some (PySem.W.kla_obj "<lambda>" (X.env.qual ++ "<lambda>") params body scope (cloFrom X.env.cells scope.names []) pm c' ctv)) (hc : HZ c' = some (CodeO c' (X.env.qual ++ "<lambda>")))
    (hbind : bindArgs (PySem.W.kla_fn "<lambda>" (X.env.qual ++ "<lambda>") params body scope (cloFrom X.env.cells scope.names []) pm (.ref c') ctv) ⟨us, []⟩ = pure bs) (hbs : ∀ y ∈ bs, scope.names.lookup y.1 = some .local) (hl : σ'.length = σ.length)
    (hσ : ∀ (i : Nat) (y : Str) (v : V), X.N[i]? = some y → σ'[i]? = some (some v) → (scope.names.lookup y = some .local → ∃ u, RelV v u ∧ bs.reverse.lookup y = some u) ∧ (scope.names.lookup y = some .free → σ[i]? = some (some v)))
    (hbody : ∀ (A : Around) (outer : List Env) (s : Shared) (H : Hp), Room k (A.deeper (lamEnv X scope s.heap.objs.size f c')) → PE (lamCx X A outer s H E scope f c') body tb) (ht : tb σ' HZ Q) :
    codeAny (model X.prog X.w) A (.call (.ref f) ⟨us, []⟩) (CR (L2.CX X.prog X.w) outer X.prog X.w HZ s1 Q E) s1 := by
  obtain ⟨⟨oc, vs, t, q1, q2, q3⟩, _, _⟩ := e0.hok c' _ hc
  have lim : s1.heap.NoLimit := e0.mod.nolimit.keeps fun b o e => (e0.bs b o e).1
  refine PySem.W.kla_callFunE hr.depth hf rfl L.co L.gen rfl ⟨c', oc, vs, t, rfl, q1, q2, q3⟩ ?_
  rw [hbind]
  refine wpAny_pure (wpAny_newFunctionEnv L.nocell hbs (fun hp hns sb => ⟨lim.fresh _ sb, ?_⟩) L.kind)
  show codeAny _ _ (.expr body (lamEnv X scope s1.heap.objs.size f c')) _ _
  have kp : ∀ b o, s1.heap.get? b = some o → hp.get? b = some o := fun b o e => sb.extBut b o (Nat.ne_of_lt (Heap.lt_size e)) (Heap.get?_push_of_some _ e)
  have J : Inv (lamCx X A outer s1 HZ E scope f c') [] σ' HZ { s1 with heap := hp, toks := s1.toks + bs.length } := lam_enter I L e0 hr.hd un hns kp hl hσ
  refine PySem.W.kla_codeExpr (wpAny_mono ((hbody A outer s1 HZ (hr.deeper _)).run [] _ σ' HZ Q J ht) (fun v s' hq => ?_) fun e s' hq => hq)
  obtain ⟨w', H', J', rv, q⟩ := hq
  exact ⟨w', H', J'.os, J'.bare, J'.base, J'.hok, rv, q⟩
end
end VI

namespace VI
variable [Tn]
open PySem PySem.Spec PyProof.Rows L2 PySem.W
theorem dataLe_leL {β : Type} (k : β → List Int) : PySem.W.dataLe false (fun b => PyData.tuple ((k b).map .int)) = fun a b => leL (k a) (k b) := by
  funext a b
  rw [PySem.W.dataLe_eq]
  show (!PySem.W.dataLt (.tuple ((k b).map .int)) (.tuple ((k a).map .int))) = _
  rw [PySem.W.dataLt_tuple]
  show (!PySem.W.rowLt ((k b).map .int) ((k a).map .int)) = _
  rw [PySem.W.dataLt_ints]
  rfl
theorem depth_ints : ∀ k : List Int, PyData.depthAll (k.map .int) = 0
  | [] => by simp [PyData.depthAll]
  | x :: r => by simp only [List.map_cons, PyData.depthAll, depth_ints r, PyData.depth]; rfl
theorem depth_row (k : List Int) : (PyData.tuple (k.map .int)).depth = 1 := by simp only [PyData.depth, depth_ints]
theorem alike_row (k k' : List Int) : PySem.W.alike (.tuple (k.map .int)) (.tuple (k'.map .int)) = true := by
  rw [PySem.W.alike]; exact PySem.W.alike_ints k k'
theorem rows_alike {β : Type} (k : β → List Int) (bs : List β) : PySem.W.AllAlike (bs.map fun b => PyData.tuple ((k b).map .int)) := PySem.W.AllAlike.of fun b b' => alike_row _ _
theorem rows_sortable {β : Type} (k : β → List Int) (bs : List β) (h : ∀ b ∈ bs, k b ≠ []) : PySem.W.Sortable (bs.map fun b => PyData.tuple ((k b).map .int)) := .inl fun d hd => by
  obtain ⟨b, hb, rfl⟩ := List.mem_map.mp hd
  cases hk : k b with
  | nil => exact absurd hk (h b hb)
  | cons x r => exact ⟨_, _, rfl⟩
theorem eachIs_mk {α β : Type} {R : α → β → Prop} : ∀ {as : List α} {bs : List β}, as.length = bs.length → (∀ (i : Nat) x y, as[i]? = some x → bs[i]? = some y → R x y) → EachIs R as bs
  | [], [], _, _ => .nil
  | _ :: _, _ :: _, hl, h => .cons (h 0 _ _ rfl rfl) (eachIs_mk (by simpa using hl) fun i x y h1 h2 => h (i + 1) x y (by simpa using h1) (by simpa using h2))
  | [], _ :: _, hl, _ => by simp at hl
  | _ :: _, [], hl, _ => by simp at hl
theorem eachIs_at {α β : Type} {R : α → β → Prop} : ∀ {as : List α} {bs : List β}, EachIs R as bs → as.length = bs.length ∧ ∀ (i : Nat) x y, as[i]? = some x → bs[i]? = some y → R x y
  | _, _, .nil => ⟨rfl, fun i x y h => by simp at h⟩
  | _, _, .cons h t => by
    obtain ⟨l, r⟩ := eachIs_at t
    refine ⟨by simp [l], fun i x y h1 h2 => ?_⟩
    cases i with
    | zero => simp at h1 h2; subst h1; subst h2; exact h
    | succ i => exact r i x y (by simpa using h1) (by simpa using h2)
theorem vals_mk : ∀ {as : List V} {bs : List Value}, as.length = bs.length → (∀ (i : Nat) x y, as[i]? = some x → bs[i]? = some y → RelV x y) → Vals as bs
  | [], [], _, _ => .nil
  | _ :: _, _ :: _, hl, h => .cons (h 0 _ _ rfl rfl) (vals_mk (by simpa using hl) fun i x y h1 h2 => h (i + 1) x y (by simpa using h1) (by simpa using h2))
  | [], _ :: _, hl, _ => by simp at hl
  | _ :: _, [], hl, _ => by simp at hl
theorem vals_at {as : List V} {bs : List Value} (h : Vals as bs) : as.length = bs.length ∧ ∀ (i : Nat) x y, as[i]? = some x → bs[i]? = some y → RelV x y := by
  refine ⟨h.length, fun i x y h1 h2 => ?_⟩
  obtain ⟨u, e, r⟩ := h.get h1
  rw [h2] at e; cases e; exact r
/-- sorted(xs), xs a list of rows of ints -/
def rSortT (K : PySem.W.Frag) : List V → Hp → VK → Prop := fun xs H Q => ∃ (a : Addr) (vs : List V) (ks : List (List Int)), xs = [.ref a] ∧ SqL K H a vs ∧ vs.length = ks.length ∧ (∀ (i : Nat) v k, vs[i]? = some v → ks[i]? = some k → Dp K H v (.tuple (k.map .int))) ∧ (∀ k ∈ ks, k ≠ []) ∧
  ∀ p, H p = none → Q (.ref p) (upd H p (.lst (((vs.zip ks).mergeSort fun a b => leL a.2 b.2).map (·.1))))
theorem cr_sortT {X : Cx} (hu : X.A.units + 65 < cLine) : CallR X (.builtin "sorted") (rSortT X.K) := by
  intro pins s σ H xs us Q I r h
  obtain ⟨a, vs, ks, rfl, hs, hl, hd, hne, q⟩ := h
  obtain ⟨u, rfl, ru⟩ := vals1 r
  obtain rfl : u = Value.ref a := ru
  obtain ⟨its, rv, hi, hz⟩ := I.list hs
  obtain ⟨l1, g1⟩ := vals_at rv
  have lz : (vs.zip ks).length = vs.length := by rw [List.length_zip]; omega
  have zat : ∀ (i : Nat) (y : V × List Int), (vs.zip ks)[i]? = some y → vs[i]? = some y.1 ∧ ks[i]? = some y.2 := fun i y e => by
    rwa [List.getElem?_zip_eq_some] at e
  refine PySem.W.sorted_data (R := fun u b => RelV b.1 u) (enc := fun b => PyData.tuple (b.2.map .int)) (bs := vs.zip ks) hi.isList (eachIs_mk (by omega) fun i x y h1 h2 => g1 i _ _ (zat i y h2).1 h1)
    (eachIs_mk (by omega) fun i x y h1 h2 => Dp.reads I _ _ _ (hd i _ _ (zat i y h2).1 (zat i y h2).2) (g1 i _ _ (zat i y h2).1 h1)) (rows_alike (fun b : V × List Int => b.2) _) (rows_sortable (fun b : V × List Int => b.2) _ fun b hb => hne _ (List.of_mem_zip hb).2) (by omega)
    (fun b _ => by rw [depth_row]; omega) fun out ho eo => ?_
  rw [dataLe_leL (fun b : V × List Int => b.2)] at eo
  obtain ⟨e2, g2⟩ := eachIs_at eo
  obtain ⟨n, hn⟩ := sortedAll_at s.heap its out.toArray
  refine ⟨.ref (s.heap.objs.size + 1), _, I.laid (t' := s.toks) (o := .lst (((vs.zip ks).mergeSort fun a b => leL a.2 b.2).map (·.1))) (fun b o e => sortedAll_old e) (Nat.le_succ _) ⟨?_, out, n, vals_mk ?_ fun i x y h1 h2 => ?_, hn⟩, rfl, q _ (I.hok.fresh (Nat.le_succ _))⟩
  · rw [List.length_map, List.length_mergeSort]; omega
  · rw [List.length_map]; exact e2.symm
  · rw [List.getElem?_map] at h1
    cases hb : ((vs.zip ks).mergeSort fun a b => leL a.2 b.2)[i]? with
    | none => rw [hb] at h1; cases h1
    | some b =>
      rw [hb] at h1
      cases h1
      exact g2 i y b h2 hb
theorem tupsO_some : ∀ {ds : List D} {ks : List (List Int)}, tupsO ds = some ks → ds = ks.map (fun k => D.tup (k.map .int)) ∧ ∀ k ∈ ks, k ≠ []
  | [], ks, h => by simp only [tupsO, Option.some.injEq] at h; subst h; exact ⟨rfl, fun k hk => by simp at hk⟩
  | .tup (x :: xs) :: r, ks, h => by
    simp only [tupsO, Option.bind_eq_some_iff, Option.map_eq_some_iff] at h
    obtain ⟨k, h1, ks', h2, rfl⟩ := h
    obtain ⟨e, hn⟩ := tupsO_some h2
    have ek := intsO_some h1
    refine ⟨by rw [e, List.map_cons, ek], fun z hz => ?_⟩
    rcases List.mem_cons.mp hz with rfl | hz
    · rintro rfl
      simp at ek
    · exact hn z hz
  | .tup [] :: _, _, h | .non :: _, _, h | .bl _ :: _, _, h | .int _ :: _, _, h | .str _ :: _, _, h | .lst _ _ :: _, _, h | .dic _ _ :: _, _, h | .dit _ _ :: _, _, h | .ins _ _ :: _, _, h | .scr _ :: _, _, h => by simp [tupsO] at h
theorem ints_pureD : ∀ k : List Int, pureL (k.map D.int) = true
  | [] => rfl
  | x :: r => by simp only [List.map_cons, pureL, D.pure, ints_pureD r, Bool.and_self]
theorem rowsD_pure : ∀ ks : List (List Int), pureL (ks.map fun k => D.tup (k.map .int)) = true
  | [] => rfl
  | k :: r => by simp only [List.map_cons, pureL, D.pure, ints_pureD k, rowsD_pure r, Bool.and_self]
theorem rowD_ok (k : List Int) : okD deep (.tup (k.map .int)) = true := by
  show (k.map D.int).all (okD 11) = true
  rw [List.all_map, List.all_eq_true]
  intro x _; rfl
theorem rowD_pyL : ∀ k : List Int, toPyL (k.map D.int) = k.map .int
  | [] => rfl
  | x :: r => by simp only [List.map_cons, toPyL, toPy, rowD_pyL r]
theorem rowD_py (k : List Int) : toPy (.tup (k.map .int)) = .tuple (k.map .int) := by simp only [toPy, rowD_pyL]
theorem fzL_mem {K : PySem.W.Frag} {F : Hp} {α : Type} (f : α → V) (g : α → D) : ∀ {zs : List α}, (∀ z ∈ zs, Fz K F (f z) (g z)) → FzL K F (zs.map f) (zs.map g)
  | [], _ => .nil
  | z :: zs, h => .cons (h z List.mem_cons_self) (fzL_mem f g fun y hy => h y (List.mem_cons_of_mem _ hy))
theorem rows_sorted {K : PySem.W.Frag} {F : Hp} {vs : List V} {ks : List (List Int)} (h : FzL K F vs (ks.map fun k => D.tup (k.map .int))) : FzL K F (((vs.zip ks).mergeSort fun a b => leL a.2 b.2).map (·.1)) ((srtT ks).map fun k => D.tup (k.map .int)) := by
  have hl : vs.length = ks.length := by rw [h.len, List.length_map]
  have e : srtT ks = ((vs.zip ks).mergeSort fun a b => leL a.2 b.2).map (·.2) := by
    rw [List.map_mergeSort (s := leL) (fun a _ b _ => rfl), List.map_snd_zip (by omega)]
    rfl
  rw [e, List.map_map]
  refine fzL_mem _ _ fun z hz => ?_
  have hz := (List.mem_mergeSort.mp hz)
  obtain ⟨i, hi⟩ := List.getElem?_of_mem hz
  rw [List.getElem?_zip_eq_some] at hi
  obtain ⟨v, e1, f1⟩ := h.at (i := i) (d := .tup (z.2.map .int)) (by rw [List.getElem?_map, hi.2]; rfl)
  rw [hi.1] at e1; cases e1
  exact f1
end VI

namespace VI
variable [Tn]
open PySem PySem.Spec PyProof.Rows L2
section
variable {X : Cx} {mg : Str → Option Value} {call : CallT} {W : WX}
/-- a built-in by its name, its arguments in a row -/
def CB (X : Cx) (x : Str) (r : List V → Hp → VK → Prop) : Prop := ∀ {e : Expr} {es : List Expr} {t : TA} {p pos : Pos}, Gl X x → (e :: es).all noStar = true → PA X (e :: es) t →
  PE X (.Call (.Name x p) (e :: es) [] pos) (fun σ H Q => t σ H fun vs H1 => r vs H1 Q)
theorem CB.b {x : Str} {id : String} {r : List V → Hp → VK → Prop} (hc : CallR X (.builtin id) r) (hm : X.mg x = none) (hv : bootBuiltins x = some (.builtin id)) (hn : x ≠ "__name__") (hd : (x == ("__debug__" : Str)) = false) : CB X x r :=
  fun {e es t p pos} hg hs ha => by
    simp only [List.all_cons, Bool.and_eq_true] at hs
    exact pe_callB hc hg hm hv ha hn hd (starEach_cons hs.1 es X.env) (back_none hs.2)
theorem CB.ty {x : Str} {id : String} {r : List V → Hp → VK → Prop} (hc : CallR X (.type id) r) (hm : X.mg x = none) (hv : bootBuiltins x = some (.type id)) (hn : x ≠ "__name__") (hd : (x == ("__debug__" : Str)) = false) : CB X x r :=
  fun {e es t p pos} hg hs ha => by
    simp only [List.all_cons, Bool.and_eq_true] at hs
    exact pe_callTy hc hg hm hv ha hn hd (starEach_cons hs.1 es X.env) (back_none hs.2)
theorem CB.never {x : Str} : CB X x (fun _ _ _ => False) ∨ True := .inr trivial
def fnName : Fn → Str
  | .len => "len" | .abs => "abs" | .max => "max" | .min => "min" | .sum => "sum" | .sorted => "sorted" | .list => "list" | .tuple => "tuple" | .int => "int" | .str => "str" | .all => "all" | .any => "any" | .dict => "dict" | .set => "set"
/-- which are proved -/
def fnHas : Fn → Bool
  | .len => true | .abs => true | .max => true | .min => true | .sum => true | .list => true | .tuple => true | .int => true | .all => true | .any => true | .dict => true | .sorted => true
  | _ => false
theorem keysI_some : ∀ {kvs : List (Key × D)} {ks : List Int}, keysI kvs = some ks → kvs.map (·.1) = ks.map Sum.inl
  | [], ks, h => by simp [keysI] at h; subst h; rfl
  | (.inl i, _) :: r, ks, h => by
    simp only [keysI, Option.map_eq_some_iff] at h
    obtain ⟨ms, h1, rfl⟩ := h
    simp [keysI_some h1]
  | (.inr _, _) :: _, _, h => by simp [keysI] at h
theorem insI_perm (x : Int) : ∀ l : List Int, (insI x l).Perm (x :: l)
  | [] => .refl _
  | y :: r => by
    unfold insI
    split
    · exact .refl _
    · exact ((insI_perm x r).cons y).trans (.swap x y r)
theorem srtI_perm : ∀ l : List Int, (srtI l).Perm l
  | [] => .refl _
  | x :: r => (insI_perm x (srtI r)).trans ((srtI_perm r).cons x)
theorem insI_srt (x : Int) : ∀ l : List Int, l.Pairwise (· ≤ ·) → (insI x l).Pairwise (· ≤ ·)
  | [], _ => by simp [insI]
  | y :: r, h => by
    unfold insI
    rw [List.pairwise_cons] at h
    split
    · rename_i hxy
      rw [List.pairwise_cons]
      refine ⟨fun z hz => ?_, by rw [List.pairwise_cons]; exact h⟩
      rcases List.mem_cons.mp hz with rfl | hz
      · exact hxy
      · have := h.1 z hz; omega
    · rename_i hxy
      rw [List.pairwise_cons]
      refine ⟨fun z hz => ?_, insI_srt x r h.2⟩
      rcases List.mem_cons.mp ((insI_perm x r).mem_iff.mp hz) with rfl | hz
      · omega
      · exact h.1 z hz
theorem srtI_srt : ∀ l : List Int, (srtI l).Pairwise (· ≤ ·)
  | [] => .nil
  | x :: r => insI_srt x _ (srtI_srt r)
theorem srt_uniq : ∀ {a b : List Int}, a.Perm b → a.Pairwise (· ≤ ·) → b.Pairwise (· ≤ ·) → a = b
  | [], b, p, _, _ => by rw [List.nil_perm] at p; exact p.symm
  | x :: a, [], p, _, _ => by simp at p
  | x :: a, y :: b, p, h, h' => by
    rw [List.pairwise_cons] at h h'
    have e : x = y := by
      have h1 : x ≤ y ∨ x = y := by
        rcases List.mem_cons.mp (p.mem_iff.mpr (List.mem_cons_self (a := y))) with e | m
        · exact .inr e.symm
        · exact .inl (h.1 y m)
      have h2 : y ≤ x ∨ x = y := by
        rcases List.mem_cons.mp (p.mem_iff.mp (List.mem_cons_self (a := x))) with e | m
        · exact .inr e
        · exact .inl (h'.1 x m)
      omega
    subst e
    rw [srt_uniq ((List.perm_cons _).mp p) h.2 h'.2]
theorem srt_eq {ys ks : List Int} (p : ys.Perm ks) (h : ys.Pairwise (· ≤ ·)) : ys = srtI ks := srt_uniq (p.trans (srtI_perm ks).symm) h (srtI_srt ks)
theorem FzL.intsW {K : PySem.W.Frag} {F : Hp} : ∀ (ns : List Int), FzL K F (ns.map V.int) (ns.map .int)
  | [] => .nil
  | n :: r => .cons (.int n) (FzL.intsW r)
theorem maxL_eq : ∀ {ns : List Int} {m : Int}, m ∈ ns → (∀ y ∈ ns, y ≤ m) → maxL ns = m
  | [x], m, h, _ => by simp at h; subst h; rfl
  | x :: y :: r, m, h, hle => by
    show (if x < maxL (y :: r) then maxL (y :: r) else x) = m
    have top : ∀ (l : List Int), l ≠ [] → maxL l ∈ l ∧ ∀ z ∈ l, z ≤ maxL l := by
      intro l
      induction l with
      | nil => intro h; exact absurd rfl h
      | cons a l ih =>
        intro _
        cases l with
        | nil => exact ⟨by simp [maxL], by simp [maxL]⟩
        | cons b l =>
          obtain ⟨i1, i2⟩ := ih (by simp)
          show (if a < maxL (b :: l) then maxL (b :: l) else a) ∈ a :: b :: l ∧ ∀ z ∈ a :: b :: l, z ≤ (if a < maxL (b :: l) then maxL (b :: l) else a)
          by_cases hc : a < maxL (b :: l)
          · rw [if_pos hc]
            refine ⟨List.mem_cons_of_mem _ i1, fun z hz => ?_⟩
            rcases List.mem_cons.mp hz with rfl | hz
            · omega
            · exact i2 z hz
          · rw [if_neg hc]
            refine ⟨List.mem_cons_self, fun z hz => ?_⟩
            rcases List.mem_cons.mp hz with rfl | hz
            · omega
            · have := i2 z hz; omega
    obtain ⟨t1, t2⟩ := top (x :: y :: r) (by simp)
    have e : maxL (x :: y :: r) = (if x < maxL (y :: r) then maxL (y :: r) else x) := rfl
    rw [← e]
    have a1 := hle _ t1
    have a2 := t2 m h
    omega
theorem minL_eq : ∀ {ns : List Int} {m : Int}, m ∈ ns → (∀ y ∈ ns, m ≤ y) → minL ns = m
  | [x], m, h, _ => by simp at h; subst h; rfl
  | x :: y :: r, m, h, hle => by
    have top : ∀ (l : List Int), l ≠ [] → minL l ∈ l ∧ ∀ z ∈ l, minL l ≤ z := by
      intro l
      induction l with
      | nil => intro h; exact absurd rfl h
      | cons a l ih =>
        intro _
        cases l with
        | nil => exact ⟨by simp [minL], by simp [minL]⟩
        | cons b l =>
          obtain ⟨i1, i2⟩ := ih (by simp)
          show (if minL (b :: l) < a then minL (b :: l) else a) ∈ a :: b :: l ∧ ∀ z ∈ a :: b :: l, (if minL (b :: l) < a then minL (b :: l) else a) ≤ z
          by_cases hc : minL (b :: l) < a
          · rw [if_pos hc]
            refine ⟨List.mem_cons_of_mem _ i1, fun z hz => ?_⟩
            rcases List.mem_cons.mp hz with rfl | hz
            · omega
            · exact i2 z hz
          · rw [if_neg hc]
            refine ⟨List.mem_cons_self, fun z hz => ?_⟩
            rcases List.mem_cons.mp hz with rfl | hz
            · omega
            · have := i2 z hz; omega
    obtain ⟨t1, t2⟩ := top (x :: y :: r) (by simp)
    have a1 := hle _ t1
    have a2 := t2 m h
    omega
theorem len_pos {ns : List Int} (h : ns ≠ []) : 0 < ns.length := by
  cases ns with
  | nil => exact absurd rfl h
  | cons => simp
theorem scr_fz {K : PySem.W.Frag} {F : Hp} (ns : List Int) : FzL K F (ns.map V.int) (ns.map D.int) := by
  induction ns with
  | nil => exact .nil
  | cons n r ih => exact .cons (.int n) ih
theorem fn_ok (hcalm : X.calm = true) (hu : X.A.units + 65 < cLine) (f : Fn) (hm : X.mg (fnName f) = none) (hf : fnHas f = true) : ∃ r, CB X (fnName f) r ∧
    ∀ {F H : Hp} {A : AS} {es : List E} {vs : List V} {ds : List D} {d : D} {Q : VK}, Wd F H A → RL X.K mg F H A es vs ds → fnO f ds = some d → Rs X.K mg F H A false d Q → r vs H Q := by
  cases f with
  | len =>
    refine ⟨_, CB.b call_len hm PySem.boot_len (by decide +kernel) (by decide +kernel), fun {F H A es vs ds d Q} w rl hd rs => ?_⟩
    simp only [fnO] at hd
    unfold lenO at hd
    split at hd
    · split at hd
      · rename_i hl
        cases hd
        obtain ⟨v, B, rfl, o⟩ := rl.d1
        rw [o.str.1]
        refine ⟨_, _, rfl, ⟨by rw [szl]; show (ST _).length ≤ _; rw [st_len]; exact hl, rfl⟩, ?_⟩
        rw [show (⟨_⟩ : Str) = ST _ from rfl, st_len]
        exact rs.int w
      · cases hd
    · cases hd
      obtain ⟨v, B, rfl, o⟩ := rl.d1
      obtain ⟨p, ws, rfl, hp, ol⟩ := o.lstv w.same
      exact ⟨_, _, rfl, .inl ⟨ws, SqL.of hp, rfl⟩, by rw [ol.len]; exact rs.int w⟩
    · cases hd
      obtain ⟨v, B, rfl, o⟩ := rl.d1
      obtain ⟨p, ws, rfl, hp, _, ol⟩ := o.tupv w.same
      exact ⟨_, _, rfl, .inr ⟨ws, hp, rfl⟩, by rw [ol.len]; exact rs.int w⟩
    · cases hd
      obtain ⟨v, B, rfl, o⟩ := rl.d1
      obtain ⟨p, rfl, hp⟩ := o.scrv w.same
      exact ⟨_, _, rfl, .inl ⟨_, hp, rfl⟩, by rw [List.length_map]; exact rs.int w⟩
    · cases hd
  | abs =>
    refine ⟨_, CB.b call_abs hm boot_abs (by decide +kernel) (by decide +kernel), fun {F H A es vs ds d Q} w rl hd rs => ?_⟩
    simp only [fnO] at hd
    unfold absO at hd
    split at hd <;> cases hd
    obtain ⟨v, B, rfl, o⟩ := rl.d1
    exact ⟨_, by rw [o.int], rs.int w⟩
  | max =>
    refine ⟨_, CB.b ((call_max2 hcalm).or (cr_max hcalm)) hm boot_max (by decide +kernel) (by decide +kernel), fun {F H A es vs ds d Q} w rl hd rs => ?_⟩
    simp only [fnO] at hd
    unfold maxO at hd
    split at hd
    · cases hd
      obtain ⟨v, v', B, B', rfl, o, o'⟩ := rl.d2
      exact .inl ⟨_, _, by rw [o.int, o'.int], rs.int w⟩
    · simp only [Option.bind_eq_some_iff] at hd
      obtain ⟨ns, h1, h2⟩ := hd
      split at h2
      · cases h2
      · rename_i hne
        cases h2
        obtain ⟨v, B, rfl, o⟩ := rl.d1
        obtain ⟨p, ws, rfl, hp, ol⟩ := o.lstv w.same
        rw [intsO_some h1] at ol
        have e := ol.ints
        subst e
        exact .inr ⟨p, ns, rfl, SqL.of hp, len_pos hne, fun m h3 h4 => by rw [← maxL_eq h3 h4]; exact rs.int w⟩
    · cases hd
  | min =>
    refine ⟨_, CB.b ((call_min2 hcalm).or ((cr_min hcalm).or (cr_minT hcalm (by omega)))) hm boot_min (by decide +kernel) (by decide +kernel), fun {F H A es vs ds d Q} w rl hd rs => ?_⟩
    simp only [fnO] at hd
    unfold minO at hd
    split at hd
    · cases hd
      obtain ⟨v, v', B, B', rfl, o, o'⟩ := rl.d2
      exact .inl ⟨_, _, by rw [o.int, o'.int], rs.int w⟩
    · split at hd
      · rename_i ns h1
        split at hd
        · cases hd
        · rename_i hne
          cases hd
          obtain ⟨v, B, rfl, o⟩ := rl.d1
          obtain ⟨p, ws, rfl, hp, ol⟩ := o.lstv w.same
          rw [intsO_some h1] at ol
          have e := ol.ints
          subst e
          exact .inr (.inl ⟨p, ns, rfl, SqL.of hp, len_pos hne, fun m h3 h4 => by rw [← minL_eq h3 h4]; exact rs.int w⟩)
      · rename_i hno
        rw [Option.map_eq_some_iff] at hd
        obtain ⟨ps, h1, rfl⟩ := hd
        have hne : ps ≠ [] := fun z => by
          rw [prsO_some h1, z] at hno
          simp [intsO] at hno
        obtain ⟨v, B, rfl, o⟩ := rl.d1
        obtain ⟨p, ws, rfl, hp, ol⟩ := o.lstv w.same
        rw [prsO_some h1] at ol
        obtain ⟨ts, rfl, hl, ht⟩ := OwnL.prs w.same ol
        refine .inr (.inr ⟨p, ts, ps, rfl, SqL.of hp, hl, List.length_pos_iff.mpr hne, fun i t q a b => (ht i t q a b).1, fun b t q hb hq hm => ?_⟩)
        obtain ⟨k1, k2⟩ := minP_min hne
        have e : q = minP ps := ltP_eq (k2 q (List.mem_of_getElem? hq)) (hm _ k1)
        have fz := (ht b t q hb hq).2
        rw [e] at fz
        exact rs.fz w fz
    · cases hd
  | sum =>
    refine ⟨_, CB.b (cr_sum hcalm) hm boot_sum (by decide +kernel) (by decide +kernel), fun {F H A es vs ds d Q} w rl hd rs => ?_⟩
    simp only [fnO] at hd
    unfold sumO at hd
    split at hd
    · simp only [Option.map_eq_some_iff] at hd
      obtain ⟨ns, h1, rfl⟩ := hd
      obtain ⟨v, B, rfl, o⟩ := rl.d1
      obtain ⟨p, ws, rfl, hp, ol⟩ := o.lstv w.same
      rw [intsO_some h1] at ol
      have e := ol.ints
      subst e
      exact ⟨p, ns, rfl, SqL.of hp, rs.int w⟩
    · cases hd
  | all =>
    refine ⟨_, CB.b (cr_all hcalm) hm boot_all (by decide +kernel) (by decide +kernel), fun {F H A es vs ds d Q} w rl hd rs => ?_⟩
    simp only [fnO] at hd
    unfold allO at hd
    split at hd
    · simp only [Option.map_eq_some_iff] at hd
      obtain ⟨ns, h1, rfl⟩ := hd
      obtain ⟨v, B, rfl, o⟩ := rl.d1
      obtain ⟨p, ws, rfl, hp, ol⟩ := o.lstv w.same
      rw [blsO_some h1] at ol
      have e := ol.bls
      subst e
      exact ⟨p, ns, rfl, SqL.of hp, rs.bl w⟩
    · cases hd
  | any =>
    refine ⟨_, CB.b (cr_any hcalm) hm (by decide +kernel) (by decide +kernel) (by decide +kernel), fun {F H A es vs ds d Q} w rl hd rs => ?_⟩
    simp only [fnO] at hd
    unfold anyO at hd
    split at hd
    · simp only [Option.map_eq_some_iff] at hd
      obtain ⟨ns, h1, rfl⟩ := hd
      obtain ⟨v, B, rfl, o⟩ := rl.d1
      obtain ⟨p, ws, rfl, hp, ol⟩ := o.lstv w.same
      rw [blsO_some h1] at ol
      have e := ol.bls
      subst e
      exact ⟨p, ns, rfl, SqL.of hp, rs.bl w⟩
    · cases hd
  | list =>
    refine ⟨_, CB.ty call_list_of hm boot_list (by decide +kernel) (by decide +kernel), fun {F H A es vs ds d Q} w rl hd rs => ?_⟩
    simp only [fnO] at hd
    unfold listO at hd
    split at hd
    · split at hd
      · rename_i hl
        cases hd
        obtain ⟨v, B, rfl, o⟩ := rl.d1
        obtain ⟨p, ws, rfl, hp, ol⟩ := o.lstv w.same
        exact ⟨p, ws, rfl, .inl (SqL.of hp), fun q hq => rs.lst w (ol.fzd hl) hq⟩
      · cases hd
    · cases hd
      obtain ⟨v, B, rfl, o⟩ := rl.d1
      obtain ⟨p, ws, rfl, hp, _, f⟩ := o.tupv w.same
      exact ⟨p, ws, rfl, .inr hp, fun q hq => rs.lst w f hq⟩
    · cases hd
      obtain ⟨v, B, rfl, o⟩ := rl.d1
      obtain ⟨p, rfl, hp⟩ := o.scrv w.same
      exact ⟨p, _, rfl, .inl hp, fun q hq => rs.lst w (scr_fz _) hq⟩
    · cases hd
  | tuple =>
    refine ⟨_, CB.ty call_tuple_of hm boot_tuple (by decide +kernel) (by decide +kernel), fun {F H A es vs ds d Q} w rl hd rs => ?_⟩
    simp only [fnO] at hd
    unfold tupleO at hd
    split at hd
    · split at hd
      · rename_i hl
        cases hd
        obtain ⟨v, B, rfl, o⟩ := rl.d1
        obtain ⟨p, ws, rfl, hp, ol⟩ := o.lstv w.same
        exact ⟨p, ws, rfl, .inl ⟨SqL.of hp, fun q hq => rs.tup w (ol.fzd hl) hq⟩⟩
      · cases hd
    · cases hd
      obtain ⟨v, B, rfl, o⟩ := rl.d1
      obtain ⟨p, ws, rfl, hpf, f⟩ := o.tupx
      exact ⟨p, ws, rfl, .inr ⟨SqT.of (w.same _ _ hpf), rs.fz w (.tup hpf f)⟩⟩
    · cases hd
  | int =>
    refine ⟨_, CB.ty call_int1 hm boot_int (by decide +kernel) (by decide +kernel), fun {F H A es vs ds d Q} w rl hd rs => ?_⟩
    simp only [fnO] at hd
    unfold intO at hd
    split at hd
    · cases hd
      obtain ⟨v, B, rfl, o⟩ := rl.d1
      exact .inl ⟨_, by rw [o.int], rs.int w⟩
    · cases hd
      obtain ⟨v, B, rfl, o⟩ := rl.d1
      exact .inr ⟨_, by rw [o.bl], rs.int w⟩
    · cases hd
  | sorted =>
    refine ⟨_, CB.b ((call_sortedDI hcalm).or (cr_sortT hu)) hm boot_sorted (by decide +kernel) (by decide +kernel), fun {F H A es vs ds d Q} w rl hd rs => ?_⟩
    simp only [fnO] at hd
    unfold sortedO at hd
    split at hd
    · rw [Option.bind_eq_some_iff] at hd
      obtain ⟨ks, h1, hd⟩ := hd
      split at hd
      · rename_i hl
        cases hd
        obtain ⟨v, B, rfl, o⟩ := rl.d1
        obtain ⟨p, ws, rfl, hp, ol⟩ := o.lstv w.same
        obtain ⟨rfl, hne⟩ := tupsO_some h1
        have fz := ol.fzd (rowsD_pure ks)
        have len : ws.length = ks.length := by rw [ol.len, List.length_map]
        refine .inr ⟨p, ws, ks, rfl, SqL.of hp, len, fun i v k hv hk => ?_, hne, fun q hq => ?_⟩
        · obtain ⟨v', e1, f1⟩ := fz.at (i := i) (d := .tup (k.map .int)) (by rw [List.getElem?_map, hk]; rfl)
          rw [hv] at e1; cases e1
          have := dp_of (mg := mg) (B := no) (n := deep) w.same (.fz f1) (rowD_ok k)
          rwa [rowD_py] at this
        · exact rs.lst w (rows_sorted fz) hq
      · cases hd
    · rw [Option.bind_eq_some_iff] at hd
      obtain ⟨ks, h1, hd⟩ := hd
      split at hd
      · rename_i hl
        cases hd
        obtain ⟨v, B, rfl, o⟩ := rl.d1
        obtain ⟨p, ws, rfl, hp, ol⟩ := o.dicv w.same
        refine .inl ⟨p, ws, ks, rfl, hp, (ol.keys).trans (keysI_some h1), hl, fun ys q pm pw hq => ?_⟩
        rw [srt_eq pm pw]
        exact rs.lst w (FzL.intsW _) hq
      · cases hd
    · cases hd
  | dict =>
    refine ⟨_, CB.ty ((call_dictP hcalm).or call_dictD) hm boot_dict (by decide +kernel) (by decide +kernel), fun {F H A es vs ds d Q} w rl hd rs => ?_⟩
    simp only [fnO] at hd
    unfold dictO at hd
    split at hd
    · split at hd
      · rename_i hl
        rw [Option.map_eq_some_iff] at hd
        obtain ⟨kvs, h1, rfl⟩ := hd
        simp only [Bool.and_eq_true, decide_eq_true_eq] at hl
        obtain ⟨v, B, rfl, o⟩ := rl.d1
        obtain ⟨p, ws, rfl, hp, ol⟩ := o.lstv w.same
        obtain ⟨ps, ms, rfl, q2, q3⟩ := prsK_fz w.same (ol.fzd hl.1) h1
        exact .inl ⟨p, ps, ms, rfl, SqL.of hp, q2, fun q hq => rs.dic w (FzK.merge q3 .nil) hq⟩
      · cases hd
    · split at hd
      · rename_i hl
        cases hd
        obtain ⟨v, B, rfl, o⟩ := rl.d1
        obtain ⟨p, ws, rfl, hp, ol⟩ := o.dicv w.same
        exact .inr ⟨p, ws, rfl, hp, fun q hq => rs.dic w (OwnK.fzd ol hl) hq⟩
      · cases hd
    · cases hd
  | _ => simp [fnHas] at hf
theorem pe_fn (hcalm : X.calm = true) (hu : X.A.units + 65 < cLine) {f : Fn} {es : List E} {a : Expr} {as : List Expr} {p pos : Pos} (hf : fnHas f = true) (hm : X.mg (fnName f) = none) (hg : Gl X (fnName f)) (h : PEs X (tR X.K mg call W) es (a :: as)) :
    PE X (.Call (.Name (fnName f) p) (a :: as) [] pos) (tE X.K mg call (.op (.fn f) es) W) := by
  obtain ⟨r, hr, ok⟩ := fn_ok (X := X) (mg := mg) hcalm hu f hm hf
  exact opFin (r := r) (hr hg h.star h.pa) fun {F H A vs ds d Q} w rl hd _ rs => ok w rl hd rs
/-! ### join of a written text -/
theorem join_eq (s : List Nat) : ∀ ys : List (List Nat), Txt.join (ST s) (ys.map ST) = ST (joinS s ys) := by
  intro ys
  have fold : ∀ (r : List (List Nat)) (acc : List Nat), (r.map ST).foldl (fun acc p => acc ++ (ST s).cps ++ p.cps) acc.toArray = (r.foldl (fun a y => a ++ s ++ y) acc).toArray := by
    intro r
    induction r with
    | nil => intro acc; rfl
    | cons y r ih =>
      intro acc
      rw [List.map_cons, List.foldl_cons, List.foldl_cons, ← ih]
      congr 1
      show acc.toArray ++ s.toArray ++ y.toArray = _
      simp
  have js : ∀ (r : List (List Nat)) (x : List Nat), r.foldl (fun a y => a ++ s ++ y) x = joinS s (x :: r) := by
    intro r
    induction r with
    | nil => intro x; rfl
    | cons y r ih =>
      intro x
      rw [List.foldl_cons, ih]
      cases r with
      | nil => rfl
      | cons z r => show (x ++ s ++ y) ++ s ++ joinS s (z :: r) = x ++ s ++ (y ++ s ++ joinS s (z :: r)); simp
  cases ys with
  | nil => rfl
  | cons x r =>
    show (⟨(r.map ST).foldl (fun acc p => acc ++ (ST s).cps ++ p.cps) x.toArray⟩ : Str) = _
    rw [fold, js]
theorem okCs_join (s : List Nat) (h : okCs s = true) : ∀ ys : List (List Nat), ys.all okCs = true → okCs (joinS s ys) = true
  | [], _ => rfl
  | [x], hx => by show okCs x = true; simpa using hx
  | x :: y :: r, hx => by
    rw [List.all_cons, Bool.and_eq_true] at hx
    exact okCs_app (okCs_app hx.1 h) (okCs_join s h (y :: r) hx.2)
theorem pe_joinE {l : List Nat} {e : E} {b : Expr} {k : Nat} {p0 apos pos : Pos} (hok : okCs l = true) (hline : (apos.endLine == pos.line) = true) (nb : noStar b = true) (hb : PE X b (tR X.K mg call W e)) :
    PE X (.Call (.Attribute (.Constant (.str ⟨l.toArray⟩) k p0) "join" apos) [b] [] pos) (tE X.K mg call (.op (.mt (.join l)) [e]) W) := by
  refine opFin (r := on1 fun y H Q => ∃ a p, ∃ ys : List Str, V.str ⟨l.toArray⟩ = .str a ∧ [y] = [V.ref p] ∧ (SqL X.K H p (ys.map V.str) ∨ SqT X.K H p (ys.map V.str)) ∧ (ys.map (·.length)).sum + ys.length * a.length ≤ 16777216 ∧ Q (.str (Txt.join a ys)) H)
    (PE.weak (pe_join (X := X) (o := .Constant (.str ⟨l.toArray⟩) k p0) (e := b) (to := tC (.str ⟨l.toArray⟩)) (te := tR X.K mg call W e) (apos := apos) (pos := pos) pe_str hb (by rw [starEach_cons nb]; rfl) rfl hline) fun σ H Q h => ?_) fun {F H A vs ds d Q} w rl hd _ rs => ?_
  · exact ⟨⟨_, rfl⟩, h⟩
  · simp only [opD, mtO] at hd
    unfold joinO at hd
    split at hd
    · simp only [Option.bind_eq_some_iff] at hd
      obtain ⟨ys, h1, h2⟩ := hd
      split at h2
      · rename_i hl
        cases h2
        obtain ⟨v, B, rfl, o⟩ := rl.d1
        obtain ⟨p, ws, rfl, hp, ol⟩ := o.lstv w.same
        rw [strsO_some h1] at ol
        obtain ⟨e1, e2⟩ := ol.strs
        subst e1
        refine ⟨ST l, p, ys.map ST, rfl, rfl, .inl (SqL.of hp), ?_, ?_⟩
        · rw [List.map_map, List.length_map, st_len]
          have : (fun y : Str => y.length) ∘ ST = fun y : List Nat => y.length := funext fun y => st_len y
          rw [this]; exact hl
        · rw [join_eq]; exact rs.str w (okCs_join l hok ys e2)
      · cases h2
    · cases hd
/-! ### isinstance -/
def tNames : List String := ["NoneType", "bool", "int", "str", "tuple", "list", "dict"]
def cNames : List String := ["bool", "int", "str", "tuple", "list", "dict"]
theorem kit_all : ∀ t ∈ tNames, ∀ c ∈ cNames, kitB t c = some (kitT t c) := by decide +kernel
theorem boot_all' : ∀ c ∈ cNames, bootBuiltins (Str.ofString c) = some (.type c) ∧ Str.ofString c ≠ "__name__" ∧ (Str.ofString c == ("__debug__" : Str)) = false := by decide +kernel
theorem tyN_mem {d : D} {t : String} (h : tyN d = some t) : t ∈ tNames := by
  cases d <;> simp only [tyN, Option.some.injEq] at h <;> first | (subst h; decide +kernel) | cases h
theorem kit_any {K : PySem.W.Frag} {t : String} (ht : t ∈ tNames) : ∀ {cs : List String}, (∀ c ∈ cs, c ∈ cNames) → PySem.W.kitAny K (.type t) (cs.map .type) = some (cs.any (kitT t))
  | [], _ => rfl
  | c :: cs, h => by
    have e := kit_ty (K := K) (kit_all t ht c (h c List.mem_cons_self))
    rw [List.map_cons, List.any_cons]
    refine kitAny_cons e (fun z => ?_) fun z => ?_
    · rw [z, Bool.false_or]; exact kit_any ht fun d hd => h d (List.mem_cons_of_mem _ hd)
    · rw [z, Bool.true_or]
theorem ty_of {K : PySem.W.Frag} {F H : Hp} {B : AS} {v : V} {d : D} {t : String} (s : Same F H) (o : Own K mg F H v d B) (h : tyN d = some t) : TyX K H v (.type t) := by
  cases d <;> simp only [tyN, Option.some.injEq] at h <;> try (cases h; done)
  · subst h; rw [o.non]; exact .base .non
  · subst h; rw [o.bl]; exact .base (.bl _)
  · subst h; rw [o.int]; exact .base (.int _)
  · subst h; rw [o.str.1]; exact .base (.str _)
  · subst h
    obtain ⟨p, ws, rfl, hp, _⟩ := o.tupv s
    rcases hp with (hp | ⟨ob, hp⟩) | ⟨ob, its, n, hk, hc, _⟩
    · exact .base (.tup hp)
    · exact .fTuple hp
    · exact .kTuple hk hc
  · subst h
    obtain ⟨p, ws, rfl, hp, _⟩ := o.lstv s
    exact .base (.lst hp)
  · subst h
    cases o with
    | fz hf => cases hf with | dic h1 _ => exact .fDict (s _ _ h1)
    | dic h1 => exact .base (.dK h1)
/-- the names of a tuple of types -/
def tyEs : List String → List Expr → Bool
  | [], [] => true
  | c :: cs, .Name x _ :: es => decide (x = Str.ofString c) && decide (c ∈ cNames) && tyEs cs es
  | _, _ => false
theorem tyEs_pa : ∀ {cs : List String} {es : List Expr}, tyEs cs es = true → (∀ c ∈ cs, Gl X (Str.ofString c) ∧ X.mg (Str.ofString c) = none) → (∀ c ∈ cs, c ∈ cNames) ∧ es.all noStar = true ∧ PA X es (fun σ H Q => Q (cs.map V.ty) H)
  | [], [], _, _ => ⟨by simp, rfl, PA.weak pa_nil fun _ _ _ h => h⟩
  | [], _ :: _, h, _ => by simp [tyEs] at h
  | _ :: _, [], h, _ => by simp [tyEs] at h
  | c :: cs, e :: es, h, g => by
    obtain ⟨x, p, rfl⟩ : ∃ x p, e = .Name x p := by
      cases e <;> first | exact ⟨_, _, rfl⟩ | (simp [tyEs] at h)
    simp only [tyEs, Bool.and_eq_true, decide_eq_true_eq] at h
    obtain ⟨⟨h1, h2⟩, h3⟩ := h
    subst h1
    obtain ⟨i1, i2, i3⟩ := tyEs_pa h3 fun d hd => g d (List.mem_cons_of_mem _ hd)
    obtain ⟨g1, g2⟩ := g c List.mem_cons_self
    obtain ⟨b1, b2, b3⟩ := boot_all' c h2
    refine ⟨fun d hd => ?_, by rw [List.all_cons, i2]; rfl, ?_⟩
    · rcases List.mem_cons.mp hd with rfl | hd
      · exact h2
      · exact i1 d hd
    · have hp : PE X (.Name (Str.ofString c) p) (tC (.ty c)) := pe_bltn g1 g2 b1 rfl b2 b3
      exact PA.weak (pa_cons hp i3 (starEach_cons rfl es X.env)) fun _ _ _ h => h
theorem pe_isi1 {c : String} {e : E} {a : Expr} {q p pos : Pos} (hm : X.mg "isinstance" = none) (hg : Gl X "isinstance") (hc : c ∈ cNames) (gc : Gl X (Str.ofString c)) (mc : X.mg (Str.ofString c) = none) (na : noStar a = true) (ha : PE X a (tR X.K mg call W e)) :
    PE X (.Call (.Name "isinstance" p) [a, .Name (Str.ofString c) q] [] pos) (tE X.K mg call (.op (.isi [c]) [e]) W) := by
  obtain ⟨b1, b2, b3⟩ := boot_all' c hc
  have hp : PE X (.Name (Str.ofString c) q) (tC (.ty c)) := pe_bltn gc mc b1 rfl b2 b3
  refine opFin (r := on1 fun x H Q => rIsi X.K [x, .ty c] H Q) (pe_callB call_isi hg hm (by decide +kernel) (pa_cons ha (pa_cons hp pa_nil (starEach_cons rfl [] X.env)) (starEach_cons na _ X.env)) (by decide +kernel) (by decide +kernel) (starEach_cons na _ X.env) (back_none (es := [.Name (Str.ofString c) q]) rfl)) fun {F H A vs ds d Q} w rl hd _ rs => ?_
  obtain ⟨l1, _⟩ := rl.lens
  match ds, l1 with
  | [d1], _ =>
    obtain ⟨v1, B1, rfl, o1⟩ := rl.d1
    simp only [opD, isiO, Option.map_eq_some_iff] at hd
    obtain ⟨t, h1, rfl⟩ := hd
    refine ⟨v1, .ty c, .type t, .type c, _, rfl, .ty c, ty_of w.same o1 h1, kit_ty (kit_all t (tyN_mem h1) c hc), ?_⟩
    have : [c].any (kitT t) = kitT t c := by simp
    rw [this] at rs
    exact rs.bl w
theorem prTy : ∀ cs : List String, Paired ClsV (cs.map V.ty) (cs.map Value.type)
  | [] => .nil
  | c :: r => .cons (.ty c) (prTy r)
theorem pe_isiN {cs : List String} {es : List Expr} {e : E} {a : Expr} {kk : Nat} {q p pos : Pos} (hm : X.mg "isinstance" = none) (hg : Gl X "isinstance") (hts : tyEs cs es = true) (hl : cs.length ≤ 5) (gs : ∀ c ∈ cs, Gl X (Str.ofString c) ∧ X.mg (Str.ofString c) = none) (na : noStar a = true) (ha : PE X a (tR X.K mg call W e)) :
    PE X (.Call (.Name "isinstance" p) [a, .Tuple es kk q] [] pos) (tE X.K mg call (.op (.isi cs) [e]) W) := by
  obtain ⟨i1, i2, i3⟩ := tyEs_pa hts gs
  refine opFin (r := on1 fun x H Q => (cs.map V.ty).length ≤ sizeLine ∧ ∀ p, H p = none → rIsiT X.K [x, .ref p] (upd H p (.tup (cs.map V.ty))) Q) (pe_callB call_isiT hg hm (by decide +kernel) (pa_cons ha (pa_cons (pe_tup i3) pa_nil (starEach_cons rfl [] X.env)) (starEach_cons na _ X.env)) (by decide +kernel) (by decide +kernel) (starEach_cons na _ X.env) (back_none (es := [.Tuple es kk q]) rfl)) fun {F H A vs ds d Q} w rl hd _ rs => ?_
  obtain ⟨l1, _⟩ := rl.lens
  match ds, l1 with
  | [d1], _ =>
    obtain ⟨v1, B1, rfl, o1⟩ := rl.d1
    simp only [opD, isiO, Option.map_eq_some_iff] at hd
    obtain ⟨t, h1, rfl⟩ := hd
    refine ⟨by rw [List.length_map, szl]; show _ ≤ 16777216; omega, fun p hp => ?_⟩
    have e := Ext.laidF (o := .tup (cs.map V.ty)) w.no hp
    have ty := ty_of (w.same) o1 h1
    have ty2 : TyX X.K (upd H p (.tup (cs.map V.ty))) v1 (.type t) := by
      have keep : ∀ b u, H b = some u → upd H p (.tup (cs.map V.ty)) b = some u := fun b u z => by rw [upd_ne (ne_of_none z hp)]; exact z
      have o2 := Own.move (F' := F) (H' := upd H p (.tup (cs.map V.ty))) (fun _ _ z => z) (fun b u _ z => keep b u z) o1
      exact ty_of (fun b u z => keep b u (w.same b u z)) o2 h1
    have pr : Paired ClsV (cs.map V.ty) (cs.map Value.type) := prTy cs
    refine ⟨v1, p, cs.map V.ty, .type t, cs.map .type, _, rfl, upd_same, pr, ty2, kit_any (tyN_mem h1) i1, ?_⟩
    exact rs.new rfl _ _ _ no e (fun _ _ z => (upd_ne (ne_of_none z hp)).trans z) (.fz (.bl _))
end
end VI

namespace VI
variable [Tn]
open PySem PySem.Spec PyProof.Rows L2
section
variable {X : Cx} {mg : Str → Option Value} {call : CallT} {W : WX}
theorem set_same {α : Type} : ∀ (l : List α) (i : Nat) (v : α), l[i]? = some v → l.set i v = l
  | [], _, _, h => by simp at h
  | a :: l, 0, v, h => by simp at h; subst h; rfl
  | a :: l, i + 1, v, h => by rw [List.set_cons_succ, set_same l i v (by simpa using h)]
theorem cup_sub {A B : AS} (h : Sb B A) : cup A B = A := funext fun a => propext ⟨fun z => z.elim id (h a), .inl⟩
theorem cup_no' {A : AS} : cup A no = A := cup_sub Sb.no_l
/-- a name's value stands in its slot -/
theorem put_back {K : PySem.W.Frag} {F H : Hp} {σ : SG} {ρ : Env'} {A1 A2 : AS} {i : Nat} {v : V} {d : D} (hv : σ[i]? = some (some v)) (o : Own K mg F H v d A1) (s : Slots K mg F H σ ρ A2) (dj : Dj A1 A2) : Slots K mg F H σ (ρ.set i (some d)) (cup A1 A2) := by
  have := Slots.put (i := i) o s dj (by rw [hv]; rfl)
  rwa [set_same σ i _ hv] at this
theorem pe_varE {i : Nat} {x : Str} {pos : Pos} (h : PE X (.Name x pos) (tVar i)) : PE X (.Name x pos) (tE X.K mg call (.var i) W) := by
  refine PE.weak h fun σ H Q h => ?_
  obtain ⟨F, A, ρ, w, s, p⟩ := h
  simp only [ev] at p
  cases hi : ρ[i]? with
  | none => rw [hi] at p; exact p.elim
  | some o =>
  cases o with
  | none => rw [hi] at p; exact p.elim
  | some d =>
    rw [hi] at p
    obtain ⟨v, A1, A2, h1, h2, _, _, h5, _⟩ := s.get hi
    exact ⟨v, h1, p v F H A A1 (by rw [cup_sub h5]; exact Ext.refl w) s h2 (fun _ => h5) (fun z => by simp [shares] at z) fun _ => ⟨rfl, Same.rfl', rfl⟩⟩
theorem pe_tRvar {i : Nat} {x : Str} {pos : Pos} (h : PE X (.Name x pos) (tVar i)) : PE X (.Name x pos) (tR X.K mg call W (.var i)) := h
theorem Wd.nq {F H : Hp} {A : AS} (w : Wd F H A) {a q : Addr} (h : A a) (hq : H q = none) : a ≠ q := fun z => by
  obtain ⟨_, u, e, _⟩ := w.own a h
  rw [z, hq] at e; cases e
/-- things locked, one behind another -/
theorem lk_all {pins : List (Addr × Obj)} {σ : SG} {s : Shared} : ∀ (L : List Addr) {H : Hp}, Inv X pins σ H s → (∀ a ∈ L, ∃ u, H a = some u ∧ Mut (some u)) → ∃ H2, LkL L H H2 ∧ Inv X pins σ H2 s
  | [], H, I, _ => ⟨H, fun a => ⟨fun h => by simp at h, fun _ => rfl⟩, I⟩
  | a :: L, H, I, h => by
    obtain ⟨H2, lk, I2⟩ := lk_all L I fun b hb => h b (List.mem_cons_of_mem _ hb)
    by_cases ha : a ∈ L
    · exact ⟨H2, fun b => ⟨fun hb => (lk b).1 ((List.mem_cons.mp hb).elim (fun z => z ▸ ha) id), fun hb => (lk b).2 fun z => hb (List.mem_cons_of_mem _ z)⟩, I2⟩
    · obtain ⟨u, hu, mu⟩ := h a List.mem_cons_self
      have e2 : H2 a = some u := by rw [(lk a).2 ha]; exact hu
      obtain ⟨od, I3⟩ := I2.lock e2 mu
      refine ⟨_, fun b => ⟨fun hb => ?_, fun hb => ?_⟩, I3⟩
      · by_cases z : b = a
        · subst z; exact ⟨u, od, hu, upd_same⟩
        · rw [upd_ne z]
          exact (lk b).1 ((List.mem_cons.mp hb).elim (fun y => (z y).elim) id)
      · have z : b ≠ a := fun z => hb (z ▸ List.mem_cons_self)
        rw [upd_ne z]
        exact (lk b).2 fun y => hb (List.mem_cons_of_mem _ y)
theorem PE.lockd {e : Expr} {t : TE} (h : PE X e t) : PE X e (fun σ H Q => t σ H fun v H1 => ∃ L : List Addr, (∀ a ∈ L, ∃ u, H1 a = some u ∧ Mut (some u)) ∧ ∀ H2, LkL L H1 H2 → Q v H2) := by
  refine ⟨fun pins s σ H Q I q => thn (h.run pins s σ H _ I q) fun v s1 ⟨x, H1, I1, r, L, hL, q1⟩ => ?_⟩
  obtain ⟨H2, lk, I2⟩ := lk_all L I1 hL
  exact ⟨x, H2, I2, r, q1 H2 lk⟩
theorem PSs.lockd {as : List Stmt} {t : TS} (h : PSs X as t) : PSs X as (fun D σ H => ∃ L : List Addr, (∀ a ∈ L, ∃ u, H a = some u ∧ Mut (some u)) ∧ ∀ H2, LkL L H H2 → t D σ H2) := by
  refine ⟨fun pins s σ H D I ⟨L, hL, q⟩ => ?_⟩
  obtain ⟨H2, lk, I2⟩ := lk_all L I hL
  exact h.run pins s σ H2 D I2 (q H2 lk)
/-- a slot's data frozen -/
theorem slot_frz {K : PySem.W.Frag} {F H : Hp} {A : AS} {σ : SG} {ρ : Env'} {i : Nat} {d : D} (w : Wd F H A) (s : Slots K mg F H σ ρ A) (hi : ρ[i]? = some (some d)) (hc : d.cand = true) :
    ∃ v, ∃ L : List Addr, σ[i]? = some (some v) ∧ (∀ a ∈ L, ∃ u, H a = some u ∧ Mut (some u)) ∧ ∀ H2, LkL L H H2 → ∃ F' A', Ext F H A F' H2 A' ∧ Slots K mg F' H2 σ (ρ.set i (some d.frz)) A' ∧ Fz K F' v d.frz := by
  obtain ⟨v, A1, A2, h1, h2, h3, h4, h5, h6⟩ := s.get hi
  have w12 : Wd F H (cup A1 A2) := w.sub fun a x => x.elim (h5 a) (h6 a)
  obtain ⟨L, hL, go⟩ := freezeL w12 h4 hc h2
  refine ⟨v, L, h1, hL, fun H2 lk => ?_⟩
  obtain ⟨G, ext, fz, sf, kk⟩ := go H2 lk
  have s2 : Slots K mg G H2 σ (ρ.set i none) A2 := Slots.move sf h3 fun a u b e => kk a u b e
  have s3 := put_back h1 (Own.fz fz) s2 Dj.no_l
  rw [cup_no] at s3
  have e : (ρ.set i none).set i (some d.frz) = ρ.set i (some d.frz) := by rw [List.set_set]
  rw [e] at s3
  exact ⟨_, A2, ext.more fun a x => x.elim (h5 a) (h6 a), s3, fz⟩
theorem pe_useE {i : Nat} {x : Str} {pos : Pos} (h : PE X (.Name x pos) (tVar i)) : PE X (.Name x pos) (tE X.K mg call (.use i) W) := by
  refine PE.weak (PE.lockd h) fun σ H Q h => ?_
  obtain ⟨F, A, ρ, w, s, p⟩ := h
  simp only [ev] at p
  cases hi : ρ[i]? with
  | none => rw [hi] at p; exact p.elim
  | some o =>
  cases o with
  | none => rw [hi] at p; exact p.elim
  | some d =>
    rw [hi] at p
    simp only at p
    split at p
    · rename_i hc
      obtain ⟨v, L, h1, hL, go⟩ := slot_frz w s hi hc
      refine ⟨v, h1, L, hL, fun H2 lk => ?_⟩
      obtain ⟨F', A', e, s', fz⟩ := go H2 lk
      exact p v F' H2 A' no (by rw [cup_no']; exact e) s' (.fz fz) (fun z => by simp [shares] at z) (fun _ => Dj.no_r) fun z => by simp [quiet] at z
    · exact p.elim
theorem pe_takeE {i : Nat} {x : Str} {pos : Pos} (h : PE X (.Name x pos) (tVar i)) : PE X (.Name x pos) (tE X.K mg call (.take i) W) := by
  refine PE.weak h fun σ H Q h => ?_
  obtain ⟨F, A, ρ, w, s, p⟩ := h
  simp only [ev] at p
  cases hi : ρ[i]? with
  | none => rw [hi] at p; exact p.elim
  | some o =>
  cases o with
  | none => rw [hi] at p; exact p.elim
  | some d =>
    rw [hi] at p
    obtain ⟨v, A1, A2, h1, h2, h3, h4, h5, h6⟩ := s.get hi
    exact ⟨v, h1, p v F H A2 A1 ((Ext.refl w).sub fun a x => x.elim (h6 a) (h5 a)) h3 h2 (fun z => by simp [shares] at z) (fun _ => h4.symm) fun z => by simp [quiet] at z⟩
/-- data that lies frozen whatever the frozen part is -/
def Const (K : PySem.W.Frag) (v : V) (d : D) : Prop := ∀ F : Hp, Fz K F v d
theorem pe_constE {ast : Expr} {v : V} {d : D} (e : E) (he : ∀ ρ, ev call e ρ = .ok d ρ) (ha : shares e = false) (hv : Const X.K v d) (h : PE X ast (tC v)) : PE X ast (tE X.K mg call e W) := by
  refine PE.weak h fun σ H Q h => ?_
  obtain ⟨F, A, ρ, w, s, p⟩ := h
  rw [he] at p
  exact p v F H A no (by rw [cup_no']; exact Ext.refl w) s (.fz (hv F)) (fun z => by rw [ha] at z; cases z) (fun _ => Dj.no_r) fun _ => ⟨rfl, Same.rfl', rfl⟩

/-! ### tests -/
def PostT (K : PySem.W.Frag) (mg : Str → Option Value) (W : WX) (F H : Hp) (A : AS) (σ : SG) (r : R D) (Q : Bool → Hp → Prop) : Prop := match r with
  | .ok d ρ' => ∃ k, truD d = some k ∧ ∀ F' H' A', Ext F H A F' H' A' → Slots K mg F' H' σ ρ' A' → Q k H'
  | .err x ρ' => PX K mg W F H A σ x ρ'
  | .bad => False
def tT (K : PySem.W.Frag) (mg : Str → Option Value) (call : CallT) (e : E) (W : WX) : TT := fun σ H Q => ∃ F A ρ, Wd F H A ∧ Slots K mg F H σ ρ A ∧ PostT K mg W F H A σ (ev call e ρ) Q
theorem PT.weak {e : Expr} {t t' : TT} (h : PT X e t) (hw : ∀ σ H Q, t' σ H Q → t σ H Q) : PT X e t' := ⟨fun pins s σ H Q I q => h.run pins s σ H Q I (hw σ H Q q)⟩
theorem PW.weak {e : Expr} {t t' : TT} (h : PW X e t) (hw : ∀ σ H Q, t' σ H Q → t σ H Q) : PW X e t' := ⟨fun wh pins s σ H Q I q => h.run wh pins s σ H Q I (hw σ H Q q)⟩
theorem tru_of {K : PySem.W.Frag} {F H : Hp} {B : AS} {v : V} {d : D} {k : Bool} (s : Same F H) (o : Own K mg F H v d B) (h : truD d = some k) : TruV K v H k := by
  cases d with
  | non => rw [o.non]; simp only [truD, Option.some.injEq] at h; exact h.symm
  | bl b => rw [o.bl]; simp only [truD, Option.some.injEq] at h; exact h.symm
  | int i => rw [o.int]; simp only [truD, Option.some.injEq] at h; exact h.symm
  | str l =>
    rw [o.str.1]
    simp only [truD] at h
    split at h
    · rename_i hl
      cases h
      refine ⟨by rw [szl]; show (ST _).length ≤ _; rw [st_len]; exact hl, ?_⟩
      show (l.length != 0) = (((ST l).length : Int) != 0)
      rw [st_len, Bool.eq_iff_iff]
      simp
    · cases h
  | lst m xs =>
    obtain ⟨p, ws, rfl, hp, ol⟩ := o.lstv s
    simp only [truD, Option.some.injEq] at h
    subst h
    refine .inl ⟨ws, SqL.of hp, ?_⟩
    cases ol <;> rfl
  | tup xs =>
    obtain ⟨p, ws, rfl, hp, _, ol⟩ := o.tupv s
    simp only [truD, Option.some.injEq] at h
    subst h
    refine .inr (.inl ⟨ws, hp, ?_⟩)
    cases ol <;> rfl
  | _ => simp [truD] at h
/-- the forms whose test is not their value's truth -/
def plainTest : Expr → Bool
  | .UnaryOp .Not _ _ => false
  | .BoolOp .. => false
  | .IfExp .. => false
  | .Compare .. => false
  | _ => true
theorem plain_isTrue {a : Expr} (h : plainTest a = true) (env : Env) (whole : Sem Value) : isTrue a env whole = (do let v ← whole; standAt a.pos; holding [v] (truthy v)) := by
  cases a <;> first | rfl | (simp [plainTest] at h; done) | skip
  all_goals (rename_i op _ _; cases op <;> first | rfl | (simp [plainTest] at h))
theorem pt_ofE {e : E} {a : Expr} (h : plainTest a = true) (he : PE X a (tE X.K mg call e W)) : PT X a (tT X.K mg call e W) := by
  refine PT.weak (pt_truth he (plain_isTrue h X.env)) fun σ H Q h => ?_
  obtain ⟨F, A, ρ, w, s, p⟩ := h
  refine ⟨F, A, ρ, w, s, ?_⟩
  cases hr : ev call e ρ with
  | bad => rw [hr] at p; exact p
  | err x ρ' => rw [hr] at p; exact p
  | ok d ρ' =>
    rw [hr] at p
    obtain ⟨k, hk, p⟩ := p
    intro v F' H' A' B ex s' o _ _ _
    exact ⟨k, tru_of ex.wd.same o hk, p F' H' A' (ex.sub Sb.l) s'⟩
theorem pt_notE {e : E} {a : Expr} {pos : Pos} (h : PT X a (tT X.K mg call e W)) : PT X (.UnaryOp .Not a pos) (tT X.K mg call (.not e) W) := by
  refine PT.weak (pt_not h) fun σ H Q h => ?_
  obtain ⟨F, A, ρ, w, s, p⟩ := h
  refine ⟨F, A, ρ, w, s, ?_⟩
  simp only [ev] at p
  cases hr : ev call e ρ with
  | bad => rw [hr] at p; exact p
  | err x ρ' => rw [hr] at p; exact p
  | ok d ρ' =>
    rw [hr] at p
    simp only [R.bind] at p
    cases d <;> simp only [PostT] at p
    case bl k =>
      obtain ⟨k', hk, p⟩ := p
      simp only [truD, Option.some.injEq] at hk
      subst hk
      exact ⟨k, rfl, p⟩
theorem pe_notE {e : E} {a : Expr} {pos : Pos} (h : PE X a (tE X.K mg call e W)) : PE X (.UnaryOp .Not a pos) (tE X.K mg call (.not e) W) := by
  refine PE.weak (pe_not h) fun σ H Q h => ?_
  obtain ⟨F, A, ρ, w, s, p⟩ := h
  refine ⟨F, A, ρ, w, s, ?_⟩
  simp only [ev] at p
  cases hr : ev call e ρ with
  | bad => rw [hr] at p; exact p
  | err x ρ' => rw [hr] at p; exact p
  | ok d ρ' =>
    rw [hr] at p
    simp only [R.bind] at p
    cases d <;> simp only [PostE] at p
    case bl k =>
      intro v F' H' A' B ex s' o _ _ q
      refine ⟨k, o.bl, p (.bl (!k)) F' H' A' no (by rw [cup_no']; exact ex.sub Sb.l) s' (.fz (.bl _)) (fun z => by simp [shares] at z) (fun _ => Dj.no_r) q⟩
theorem pt_cmpE (hu : X.A.units + 65 < cLine) {o : CmpOp} {e1 e2 : E} {a b : Expr} {pos : Pos} (hm : behindInMarks o b = false) (ha : PE X a (tR X.K mg call W e1)) (hb : PE X b (tR X.K mg call W e2)) : PT X (.Compare a [o] [b] pos) (tT X.K mg call (.op (.cmp o) [e1, e2]) W) := by
  obtain ⟨r, hr, ok⟩ := cmp_ok (X := X) (mg := mg) hu o
  refine PT.weak (pt_cmpR hr ha hb hm) fun σ H Q h => ?_
  obtain ⟨F, A, ρ, w, s, p⟩ := h
  show tRs X.K mg call W [e1, e2] σ H fun vs H2 => on2 r vs H2 fun x H' => ∃ k, x = .bl k ∧ Q k H'
  refine seqR _ w s ?_
  simp only [ev] at p
  cases he : evR call [e1, e2] ρ with
  | bad => simp only [he, R.bind, PostT] at p
  | err x ρ' => simp only [he, R.bind, PostT] at p; exact p
  | ok ds ρ' =>
    simp only [he, R.bind] at p
    cases hd : opD (.cmp o) ds with
    | none => simp only [hd, PostT] at p
    | some d =>
      simp only [hd] at p
      intro vs F' H' A' ex s' rl q
      obtain ⟨l1, _⟩ := rl.lens
      match ds, l1 with
      | [d1, d2], _ =>
        obtain ⟨v1, v2, B1, B2, rfl, o1, o2⟩ := rl.d2
        simp only [opD, cmpO, Option.map_eq_some_iff] at hd
        obtain ⟨k, hk, rfl⟩ := hd
        have hc : (Op.cmp o != Op.ix || (D.bl k).pure || sharesL [e1, e2]) = true := by simp [D.pure]
        rw [if_pos hc] at p
        obtain ⟨k', hk', p⟩ := p
        simp only [truD, Option.some.injEq] at hk'
        subst hk'
        exact ok ex.wd o1 o2 hk ⟨k, rfl, p F' H' A' ex s'⟩
def PostB (K : PySem.W.Frag) (mg : Str → Option Value) (W : WX) (F H : Hp) (A : AS) (σ : SG) (q : Bool) (ρ : Env') (r : R D) (Q : VK) : Prop := match r with
  | .ok d ρ' => ∃ k, d = .bl k ∧ ∀ F' H' A', Ext F H A F' H' A' → Slots K mg F' H' σ ρ' A' → (q = true → ρ' = ρ ∧ Same H H' ∧ A' = A) → Q (.bl k) H'
  | .err x ρ' => PX K mg W F H A σ x ρ'
  | .bad => False
/-- both comparisons of a chain, by what follows -/
theorem chain_core (hu : X.A.units + 65 < cLine) {o1 o2 : CmpOp} {ea eb ec : E} {r1 r2 : R2} {σ : SG} {H F : Hp} {A : AS} {ρ : Env'} {Q : VK}
    (ok1 : ∀ {F H : Hp} {A B1 B2 : AS} {v1 v2 : V} {d1 d2 : D} {k : Bool} {Q : VK}, Wd F H A → Own X.K mg F H v1 d1 B1 → Own X.K mg F H v2 d2 B2 → cmpB o1 d1 d2 = some k → Q (.bl k) H → r1 v1 v2 H Q)
    (ok2 : ∀ {F H : Hp} {A B1 B2 : AS} {v1 v2 : V} {d1 d2 : D} {k : Bool} {Q : VK}, Wd F H A → Own X.K mg F H v1 d1 B1 → Own X.K mg F H v2 d2 B2 → cmpB o2 d1 d2 = some k → Q (.bl k) H → r2 v1 v2 H Q)
    (w : Wd F H A) (s : Slots X.K mg F H σ ρ A)
    (p : PostB X.K mg W F H A σ (quiet (.chain o1 o2 ea eb ec)) ρ (ev call (.chain o1 o2 ea eb ec) ρ) Q) : tChain r1 r2 (tE X.K mg call ea W) (tE X.K mg call eb W) (tE X.K mg call ec W) σ H Q := by
  simp only [ev] at p
  refine ⟨F, A, ρ, w, s, ?_⟩
  cases ha : ev call ea ρ with
  | bad => simp only [ha, R.bind] at p; exact p.elim
  | err x ρ' => simp only [ha, R.bind] at p; exact p
  | ok x ρ1 =>
  simp only [ha, R.bind] at p
  intro v F1 H1 A1 B1 e1 s1 q1 al1 dj1 qt1
  refine ⟨F1, A1, ρ1, e1.wd.sub Sb.l, s1, ?_⟩
  cases hb : ev call eb ρ1 with
  | bad => simp only [hb] at p; exact p.elim
  | err y ρ' => simp only [hb] at p; exact fun cls dx F' H' A' e' s' y => p cls dx F' H' A' (e1.trans w (e'.more Sb.l)) s' y
  | ok y ρ2 =>
  simp only [hb] at p
  intro u F2 H2 A2 B2 e2 s2 q2 al2 dj2 qt2
  by_cases hp : (x.pure && y.pure) = true
  · rw [if_pos hp] at p
    simp only [Bool.and_eq_true] at hp
    have f1 := Fz.up e2.fsame (q1.fzd hp.1)
    have f2 := q2.fzd hp.2
    have w2 := e2.wd.sub (Sb.l (A := A2) (B := B2))
    have e12 : Ext F H A F2 H2 A2 := e1.trans w ((e2.sub Sb.l).more Sb.l)
    cases hc : cmpB o1 x y with
    | none => simp only [hc] at p; exact p.elim
    | some k =>
    cases k with
    | false =>
      simp only [hc] at p
      refine ok1 w2 (.fz (A := no) f1) (.fz (A := no) f2) hc ⟨false, rfl, ?_⟩
      obtain ⟨k', hk', p⟩ := p
      cases hk'
      exact p F2 H2 A2 e12 s2 fun hq => by
        simp only [quiet, Bool.and_eq_true] at hq
        obtain ⟨r1, r2, r3⟩ := qt1 hq.1.1
        obtain ⟨t1, t2, t3⟩ := qt2 hq.1.2
        exact ⟨t1.trans r1, fun a o h => t2 a o (r2 a o h), t3.trans r3⟩
    | true =>
      simp only [hc] at p
      refine ok1 w2 (.fz (A := no) f1) (.fz (A := no) f2) hc ⟨true, rfl, ?_⟩
      show tE X.K mg call ec W σ H2 _
      refine ⟨F2, A2, ρ2, w2, s2, ?_⟩
      cases hcc : ev call ec ρ2 with
      | bad => simp only [hcc] at p; exact p.elim
      | err z ρ' => simp only [hcc] at p; exact fun cls dx F' H' A' e' s' y => p cls dx F' H' A' (e12.trans w e') s' y
      | ok z ρ3 =>
        simp only [hcc] at p
        intro t F3 H3 A3 B3 e3 s3 q3 al3 dj3 qt3
        by_cases hz : z.pure = true
        · rw [if_pos hz] at p
          cases hc2 : cmpO o2 y z with
          | none => simp only [hc2, R.of] at p; exact p.elim
          | some d =>
            simp only [hc2, R.of] at p
            simp only [cmpO, Option.map_eq_some_iff] at hc2
            obtain ⟨k2, hk2, rfl⟩ := hc2
            obtain ⟨k', hk', p⟩ := p
            cases hk'
            refine ok2 (e3.wd.sub (Sb.l (A := A3) (B := B3))) (.fz (A := no) (Fz.up e3.fsame f2)) (.fz (A := no) (q3.fzd hz)) hk2 ?_
            exact p F3 H3 A3 (e12.trans w (e3.sub Sb.l)) s3 fun hq => by
              simp only [quiet, Bool.and_eq_true] at hq
              obtain ⟨r1, r2, r3⟩ := qt1 hq.1.1
              obtain ⟨t1, t2, t3⟩ := qt2 hq.1.2
              obtain ⟨u1, u2, u3⟩ := qt3 hq.2
              exact ⟨u1.trans (t1.trans r1), fun a o h => u2 a o (t2 a o (r2 a o h)), u3.trans (t3.trans r3)⟩
        · rw [if_neg hz] at p; exact p.elim
  · rw [if_neg hp] at p; exact p.elim
theorem cmpO_bl {o : CmpOp} {a b d : D} (h : cmpO o a b = some d) : ∃ k, d = .bl k := by
  simp only [cmpO, Option.map_eq_some_iff] at h
  obtain ⟨k, _, rfl⟩ := h
  exact ⟨k, rfl⟩
theorem chain_bl {o1 o2 : CmpOp} {ea eb ec : E} {ρ ρ' : Env'} {d : D} (h : ev call (.chain o1 o2 ea eb ec) ρ = .ok d ρ') : ∃ k, d = .bl k := by
  simp only [ev] at h
  cases ha : ev call ea ρ with
  | bad => simp [ha, R.bind] at h
  | err x ρ' => simp [ha, R.bind] at h
  | ok x ρ1 =>
  simp only [ha, R.bind] at h
  cases hb : ev call eb ρ1 with
  | bad => simp [hb] at h
  | err x ρ' => simp [hb] at h
  | ok y ρ2 =>
  simp only [hb] at h
  split at h
  · cases hc : cmpB o1 x y with
    | none => simp [hc] at h
    | some k =>
    cases k with
    | false => simp only [hc, R.ok.injEq] at h; exact ⟨false, h.1.symm⟩
    | true =>
      simp only [hc] at h
      cases hcc : ev call ec ρ2 with
      | bad => simp [hcc] at h
      | err x ρ' => simp [hcc] at h
      | ok z ρ3 =>
        simp only [hcc] at h
        split at h
        · cases hc2 : cmpO o2 y z with
          | none => simp [hc2, R.of] at h
          | some d' =>
            simp only [hc2, R.of, R.ok.injEq] at h
            obtain ⟨k, hk⟩ := cmpO_bl hc2
            exact ⟨k, by rw [← h.1, hk]⟩
        · cases h
  · cases h
theorem pe_chainE (hu : X.A.units + 65 < cLine) {o1 o2 : CmpOp} {ea eb ec : E} {a b c : Expr} {pos : Pos} (hm : lastMarks [o1, o2] [b, c] = false) (ha : PE X a (tE X.K mg call ea W)) (hb : PE X b (tE X.K mg call eb W)) (hc : PE X c (tE X.K mg call ec W)) :
    PE X (.Compare a [o1, o2] [b, c] pos) (tE X.K mg call (.chain o1 o2 ea eb ec) W) := by
  obtain ⟨r1, hr1, ok1⟩ := cmp_ok (X := X) (mg := mg) hu o1
  obtain ⟨r2, hr2, ok2⟩ := cmp_ok (X := X) (mg := mg) hu o2
  refine PE.weak (pe_chain hr1 hr2 ha hb hc hm) fun σ H Q h => ?_
  obtain ⟨F, A, ρ, w, s, p⟩ := h
  refine chain_core hu ok1 ok2 w s ?_
  cases hr : ev call (.chain o1 o2 ea eb ec) ρ with
  | bad => rw [hr] at p; exact p
  | err x ρ' => rw [hr] at p; exact p
  | ok d ρ' =>
    rw [hr] at p
    obtain ⟨k, rfl⟩ := chain_bl hr
    exact ⟨k, rfl, fun F' H' A' e s' q => p (.bl k) F' H' A' no (by rw [cup_no']; exact e) s' (.fz (.bl k)) (fun z => by simp [shares] at z) (fun _ => Dj.no_r) q⟩
theorem pt_chainE (hu : X.A.units + 65 < cLine) {o1 o2 : CmpOp} {ea eb ec : E} {a b c : Expr} {pos : Pos} (hm : lastMarks [o1, o2] [b, c] = false) (ha : PE X a (tE X.K mg call ea W)) (hb : PE X b (tE X.K mg call eb W)) (hc : PE X c (tE X.K mg call ec W)) :
    PT X (.Compare a [o1, o2] [b, c] pos) (tT X.K mg call (.chain o1 o2 ea eb ec) W) := by
  obtain ⟨r1, hr1, ok1⟩ := cmp_ok (X := X) (mg := mg) hu o1
  obtain ⟨r2, hr2, ok2⟩ := cmp_ok (X := X) (mg := mg) hu o2
  refine PT.weak (pt_chain hr1 hr2 ha hb hc hm) fun σ H Q h => ?_
  obtain ⟨F, A, ρ, w, s, p⟩ := h
  refine chain_core hu ok1 ok2 w s ?_
  cases hr : ev call (.chain o1 o2 ea eb ec) ρ with
  | bad => rw [hr] at p; exact p
  | err x ρ' => rw [hr] at p; exact p
  | ok d ρ' =>
    rw [hr] at p
    obtain ⟨k, rfl⟩ := chain_bl hr
    obtain ⟨k', hk, p⟩ := p
    simp only [truD, Option.some.injEq] at hk
    subst hk
    exact ⟨k, rfl, fun F' H' A' e s' q => ⟨k, rfl, p F' H' A' e s'⟩⟩
/-- three comparisons in a row -/
def tChain3 (r1 r2 r3 : R2) (ta tb tc td : TE) : TE := fun σ H Q => ta σ H fun x H1 => tb σ H1 fun y H2 => r1 x y H2 fun z H3 => ∃ k, z = .bl k ∧
  (if k = true then tc σ H3 fun w' H4 => r2 y w' H4 fun z2 H5 => ∃ k2, z2 = .bl k2 ∧ (if k2 = true then td σ H5 fun u' H6 => r3 w' u' H6 Q else Q (.bl false) H5) else Q (.bl false) H3)
theorem pe_chain3 {op1 op2 op3 : CmpOp} {r1 r2 r3 : R2} {a b c d : Expr} {pos : Pos} {ta tb tc td : TE} (h1 : OpR X (compareOp op1) r1) (h2 : OpR X (compareOp op2) r2) (h3 : OpR X (compareOp op3) r3) (ha : PE X a ta) (hb : PE X b tb) (hc : PE X c tc) (hd : PE X d td)
    (hm : lastMarks [op1, op2, op3] [b, c, d] = false) : PE X (.Compare a [op1, op2, op3] [b, c, d] pos) (tChain3 r1 r2 r3 ta tb tc td) := by
  refine ⟨fun pins s σ H Q I h => ?_⟩
  refine Compare_chain (thn (ha.run pins s σ H _ I h) fun v s1 ⟨x, H1, I1, r1, q1⟩ => chain_link (thn (hb.run pins s1 σ H1 _ I1 q1) fun u s2 ⟨y, H2, I2, r2, q2⟩ =>
    thn (h1 pins s2 σ H2 x y v u _ I2 r1 r2 q2) fun d s3 ⟨z, H3, I3, r3, k, e, q3⟩ => ?_)) hm
  subst e
  cases r3
  refine wpAny_truthy_bool ?_
  cases k with
  | false => exact ite_ff ⟨.bl false, H3, I3, rfl, q3⟩
  | true =>
    refine ite_tt (chain_link (thn (hc.run pins s3 σ H3 _ I3 q3) fun w' s4 ⟨z', H4, I4, r4, q4⟩ => thn (h2 pins s4 σ H4 y z' u w' _ I4 r2 r4 q4) fun d2 s5 ⟨z2, H5, I5, r5, k2, e2, q5⟩ => ?_))
    subst e2
    cases r5
    refine wpAny_truthy_bool ?_
    cases k2 with
    | false => exact ite_ff ⟨.bl false, H5, I5, rfl, q5⟩
    | true => exact ite_tt (chain_last (thn (hd.run pins s5 σ H5 _ I5 q5) fun w2 s6 ⟨z3, H6, I6, r6, q6⟩ => h3 pins s6 σ H6 z' z3 w' w2 Q I6 r4 r6 q6))
theorem pt_chain3 {op1 op2 op3 : CmpOp} {r1 r2 r3 : R2} {a b c d : Expr} {pos : Pos} {ta tb tc td : TE} (h1 : OpR X (compareOp op1) r1) (h2 : OpR X (compareOp op2) r2) (h3 : OpR X (compareOp op3) r3) (ha : PE X a ta) (hb : PE X b tb) (hc : PE X c tc) (hd : PE X d td)
    (hm : lastMarks [op1, op2, op3] [b, c, d] = false) : PT X (.Compare a [op1, op2, op3] [b, c, d] pos) (tTest (tChain3 r1 r2 r3 ta tb tc td)) := by
  refine ⟨fun pins s σ H Q I h => ?_⟩
  refine isTrue_chain (thn (ha.run pins s σ H _ I h) fun v s1 ⟨x, H1, I1, r1, q1⟩ => test_link (thn (hb.run pins s1 σ H1 _ I1 q1) fun u s2 ⟨y, H2, I2, r2, q2⟩ =>
    thn (h1 pins s2 σ H2 x y v u _ I2 r1 r2 q2) fun d s3 ⟨z, H3, I3, r3, k, e, q3⟩ => ?_)) hm
  subst e
  cases r3
  refine wpAny_truthy_bool ?_
  cases k with
  | false =>
    obtain ⟨k', e', q'⟩ := q3
    cases e'
    exact ite_ff ⟨H3, I3, q'⟩
  | true =>
    refine ite_tt (test_link (thn (hc.run pins s3 σ H3 _ I3 q3) fun w' s4 ⟨z', H4, I4, r4, q4⟩ => thn (h2 pins s4 σ H4 y z' u w' _ I4 r2 r4 q4) fun d2 s5 ⟨z2, H5, I5, r5, k2, e2, q5⟩ => ?_))
    subst e2
    cases r5
    refine wpAny_truthy_bool ?_
    cases k2 with
    | false =>
      obtain ⟨k', e', q'⟩ := q5
      cases e'
      exact ite_ff ⟨H5, I5, q'⟩
    | true =>
      refine ite_tt (test_last (thn (hd.run pins s5 σ H5 _ I5 q5) fun w2 s6 ⟨z3, H6, I6, r6, q6⟩ => thn (h3 pins s6 σ H6 z' z3 w' w2 _ I6 r4 r6 q6) fun d' s7 ⟨z4, H7, I7, r7, k3, e3, q7⟩ => ?_))
      subst e3
      cases r7
      exact wpAny_truthy_bool ⟨H7, I7, q7⟩
theorem chain3_core (hu : X.A.units + 65 < cLine) {o1 o2 o3 : CmpOp} {ea eb ec ed : E} {r1 r2 r3 : R2} {σ : SG} {H F : Hp} {A : AS} {ρ : Env'} {Q : VK}
    (ok1 : ∀ {F H : Hp} {A B1 B2 : AS} {v1 v2 : V} {d1 d2 : D} {k : Bool} {Q : VK}, Wd F H A → Own X.K mg F H v1 d1 B1 → Own X.K mg F H v2 d2 B2 → cmpB o1 d1 d2 = some k → Q (.bl k) H → r1 v1 v2 H Q)
    (ok2 : ∀ {F H : Hp} {A B1 B2 : AS} {v1 v2 : V} {d1 d2 : D} {k : Bool} {Q : VK}, Wd F H A → Own X.K mg F H v1 d1 B1 → Own X.K mg F H v2 d2 B2 → cmpB o2 d1 d2 = some k → Q (.bl k) H → r2 v1 v2 H Q)
    (ok3 : ∀ {F H : Hp} {A B1 B2 : AS} {v1 v2 : V} {d1 d2 : D} {k : Bool} {Q : VK}, Wd F H A → Own X.K mg F H v1 d1 B1 → Own X.K mg F H v2 d2 B2 → cmpB o3 d1 d2 = some k → Q (.bl k) H → r3 v1 v2 H Q)
    (w : Wd F H A) (s : Slots X.K mg F H σ ρ A)
    (p : PostB X.K mg W F H A σ false ρ (ev call (.chain3 o1 o2 o3 ea eb ec ed) ρ) Q) : tChain3 r1 r2 r3 (tE X.K mg call ea W) (tE X.K mg call eb W) (tE X.K mg call ec W) (tE X.K mg call ed W) σ H Q := by
  simp only [ev] at p
  refine ⟨F, A, ρ, w, s, ?_⟩
  cases ha : ev call ea ρ with
  | bad => simp only [ha, R.bind] at p; exact p.elim
  | err x ρ' => simp only [ha, R.bind] at p; exact p
  | ok x ρ1 =>
  simp only [ha, R.bind] at p
  intro v F1 H1 A1 B1 e1 s1 q1 al1 dj1 qt1
  refine ⟨F1, A1, ρ1, e1.wd.sub Sb.l, s1, ?_⟩
  cases hb : ev call eb ρ1 with
  | bad => simp only [hb] at p; exact p.elim
  | err y ρ' => simp only [hb] at p; exact fun cls dx F' H' A' e' s' y => p cls dx F' H' A' (e1.trans w (e'.more Sb.l)) s' y
  | ok y ρ2 =>
  simp only [hb] at p
  intro u F2 H2 A2 B2 e2 s2 q2 al2 dj2 qt2
  by_cases hp : (x.pure && y.pure) = true
  · rw [if_pos hp] at p
    simp only [Bool.and_eq_true] at hp
    have f1 := Fz.up e2.fsame (q1.fzd hp.1)
    have f2 := q2.fzd hp.2
    have w2 := e2.wd.sub (Sb.l (A := A2) (B := B2))
    have e12 : Ext F H A F2 H2 A2 := e1.trans w ((e2.sub Sb.l).more Sb.l)
    cases hc : cmpB o1 x y with
    | none => simp only [hc] at p; exact p.elim
    | some k =>
    cases k with
    | false =>
      simp only [hc] at p
      refine ok1 w2 (.fz (A := no) f1) (.fz (A := no) f2) hc ⟨false, rfl, ?_⟩
      obtain ⟨k', hk', p⟩ := p
      cases hk'
      exact p F2 H2 A2 e12 s2 fun hq => by cases hq
    | true =>
      simp only [hc] at p
      refine ok1 w2 (.fz (A := no) f1) (.fz (A := no) f2) hc ⟨true, rfl, ?_⟩
      show tE X.K mg call ec W σ H2 _
      refine ⟨F2, A2, ρ2, w2, s2, ?_⟩
      cases hcc : ev call ec ρ2 with
      | bad => simp only [hcc] at p; exact p.elim
      | err z ρ' => simp only [hcc] at p; exact fun cls dx F' H' A' e' s' y => p cls dx F' H' A' (e12.trans w e') s' y
      | ok z ρ3 =>
        simp only [hcc] at p
        intro t F3 H3 A3 B3 e3 s3 q3 al3 dj3 qt3
        by_cases hz : z.pure = true
        · rw [if_pos hz] at p
          have g2 := Fz.up e3.fsame f2
          have g3 := q3.fzd hz
          have w3 := e3.wd.sub (Sb.l (A := A3) (B := B3))
          have e13 : Ext F H A F3 H3 A3 := e12.trans w (e3.sub Sb.l)
          cases hc2 : cmpB o2 y z with
          | none => simp only [hc2] at p; exact p.elim
          | some k =>
          cases k with
          | false =>
            simp only [hc2] at p
            refine ok2 w3 (.fz (A := no) g2) (.fz (A := no) g3) hc2 ⟨false, rfl, ?_⟩
            obtain ⟨k', hk', p⟩ := p
            cases hk'
            exact p F3 H3 A3 e13 s3 fun hq => by cases hq
          | true =>
            simp only [hc2] at p
            refine ok2 w3 (.fz (A := no) g2) (.fz (A := no) g3) hc2 ⟨true, rfl, ?_⟩
            show tE X.K mg call ed W σ H3 _
            refine ⟨F3, A3, ρ3, w3, s3, ?_⟩
            cases hdd : ev call ed ρ3 with
            | bad => simp only [hdd] at p; exact p.elim
            | err z ρ' => simp only [hdd] at p; exact fun cls dx F' H' A' e' s' y => p cls dx F' H' A' (e13.trans w e') s' y
            | ok w4 ρ4 =>
              simp only [hdd] at p
              intro t4 F4 H4 A4 B4 e4 s4 q4 al4 dj4 qt4
              by_cases hw : w4.pure = true
              · rw [if_pos hw] at p
                cases hc3 : cmpO o3 z w4 with
                | none => simp only [hc3, R.of] at p; exact p.elim
                | some d =>
                  simp only [hc3, R.of] at p
                  simp only [cmpO, Option.map_eq_some_iff] at hc3
                  obtain ⟨k2, hk2, rfl⟩ := hc3
                  obtain ⟨k', hk', p⟩ := p
                  cases hk'
                  refine ok3 (e4.wd.sub (Sb.l (A := A4) (B := B4))) (.fz (A := no) (Fz.up e4.fsame g3)) (.fz (A := no) (q4.fzd hw)) hk2 ?_
                  exact p F4 H4 A4 (e13.trans w (e4.sub Sb.l)) s4 fun hq => by cases hq
              · rw [if_neg hw] at p; exact p.elim
        · rw [if_neg hz] at p; exact p.elim
  · rw [if_neg hp] at p; exact p.elim
theorem chain3_bl {o1 o2 o3 : CmpOp} {ea eb ec ed : E} {ρ ρ' : Env'} {d : D} (h : ev call (.chain3 o1 o2 o3 ea eb ec ed) ρ = .ok d ρ') : ∃ k, d = .bl k := by
  simp only [ev] at h
  cases ha : ev call ea ρ with
  | bad => simp [ha, R.bind] at h
  | err x ρ' => simp [ha, R.bind] at h
  | ok x ρ1 =>
  simp only [ha, R.bind] at h
  cases hb : ev call eb ρ1 with
  | bad => simp [hb] at h
  | err x ρ' => simp [hb] at h
  | ok y ρ2 =>
  simp only [hb] at h
  split at h
  · cases hc : cmpB o1 x y with
    | none => simp [hc] at h
    | some k =>
    cases k with
    | false => simp only [hc, R.ok.injEq] at h; exact ⟨false, h.1.symm⟩
    | true =>
      simp only [hc] at h
      cases hcc : ev call ec ρ2 with
      | bad => simp [hcc] at h
      | err x ρ' => simp [hcc] at h
      | ok z ρ3 =>
        simp only [hcc] at h
        split at h
        · cases hc2 : cmpB o2 y z with
          | none => simp [hc2] at h
          | some k =>
          cases k with
          | false => simp only [hc2, R.ok.injEq] at h; exact ⟨false, h.1.symm⟩
          | true =>
            simp only [hc2] at h
            cases hdd : ev call ed ρ3 with
            | bad => simp [hdd] at h
            | err x ρ' => simp [hdd] at h
            | ok w ρ4 =>
              simp only [hdd] at h
              split at h
              · cases hc3 : cmpO o3 z w with
                | none => simp [hc3, R.of] at h
                | some d' =>
                  simp only [hc3, R.of, R.ok.injEq] at h
                  obtain ⟨k, hk⟩ := cmpO_bl hc3
                  exact ⟨k, by rw [← h.1, hk]⟩
              · cases h
        · cases h
  · cases h
theorem pe_chain3E (hu : X.A.units + 65 < cLine) {o1 o2 o3 : CmpOp} {ea eb ec ed : E} {a b c d : Expr} {pos : Pos} (hm : lastMarks [o1, o2, o3] [b, c, d] = false) (ha : PE X a (tE X.K mg call ea W)) (hb : PE X b (tE X.K mg call eb W)) (hc : PE X c (tE X.K mg call ec W)) (hd : PE X d (tE X.K mg call ed W)) :
    PE X (.Compare a [o1, o2, o3] [b, c, d] pos) (tE X.K mg call (.chain3 o1 o2 o3 ea eb ec ed) W) := by
  obtain ⟨r1, hr1, ok1⟩ := cmp_ok (X := X) (mg := mg) hu o1
  obtain ⟨r2, hr2, ok2⟩ := cmp_ok (X := X) (mg := mg) hu o2
  obtain ⟨r3, hr3, ok3⟩ := cmp_ok (X := X) (mg := mg) hu o3
  refine PE.weak (pe_chain3 hr1 hr2 hr3 ha hb hc hd hm) fun σ H Q h => ?_
  obtain ⟨F, A, ρ, w, s, p⟩ := h
  refine chain3_core hu ok1 ok2 ok3 w s ?_
  cases hr : ev call (.chain3 o1 o2 o3 ea eb ec ed) ρ with
  | bad => rw [hr] at p; exact p
  | err x ρ' => rw [hr] at p; exact p
  | ok d ρ' =>
    rw [hr] at p
    obtain ⟨k, rfl⟩ := chain3_bl hr
    exact ⟨k, rfl, fun F' H' A' e s' q => p (.bl k) F' H' A' no (by rw [cup_no']; exact e) s' (.fz (.bl k)) (fun z => by simp [shares] at z) (fun _ => Dj.no_r) (fun z => by simp [quiet] at z)⟩
theorem pt_chain3E (hu : X.A.units + 65 < cLine) {o1 o2 o3 : CmpOp} {ea eb ec ed : E} {a b c d : Expr} {pos : Pos} (hm : lastMarks [o1, o2, o3] [b, c, d] = false) (ha : PE X a (tE X.K mg call ea W)) (hb : PE X b (tE X.K mg call eb W)) (hc : PE X c (tE X.K mg call ec W)) (hd : PE X d (tE X.K mg call ed W)) :
    PT X (.Compare a [o1, o2, o3] [b, c, d] pos) (tT X.K mg call (.chain3 o1 o2 o3 ea eb ec ed) W) := by
  obtain ⟨r1, hr1, ok1⟩ := cmp_ok (X := X) (mg := mg) hu o1
  obtain ⟨r2, hr2, ok2⟩ := cmp_ok (X := X) (mg := mg) hu o2
  obtain ⟨r3, hr3, ok3⟩ := cmp_ok (X := X) (mg := mg) hu o3
  refine PT.weak (pt_chain3 hr1 hr2 hr3 ha hb hc hd hm) fun σ H Q h => ?_
  obtain ⟨F, A, ρ, w, s, p⟩ := h
  refine chain3_core hu ok1 ok2 ok3 w s ?_
  cases hr : ev call (.chain3 o1 o2 o3 ea eb ec ed) ρ with
  | bad => rw [hr] at p; exact p
  | err x ρ' => rw [hr] at p; exact p
  | ok d ρ' =>
    rw [hr] at p
    obtain ⟨k, rfl⟩ := chain3_bl hr
    obtain ⟨k', hk, p⟩ := p
    simp only [truD, Option.some.injEq] at hk
    subst hk
    exact ⟨k, rfl, fun F' H' A' e s' q => ⟨k, rfl, p F' H' A' e s'⟩⟩
end
end VI

namespace VI
variable [Tn]
open PySem PySem.Spec PyProof.Rows L2
section
variable {X : Cx} {mg : Str → Option Value} {call : CallT} {W : WX}
theorem quiets {ρ ρ1 ρ2 : Env'} {H H1 H2 : Hp} {A A1 A2 : AS} (a : ρ1 = ρ ∧ Same H H1 ∧ A1 = A) (b : ρ2 = ρ1 ∧ Same H1 H2 ∧ A2 = A1) : ρ2 = ρ ∧ Same H H2 ∧ A2 = A :=
  ⟨b.1.trans a.1, fun x o h => b.2.1 x o (a.2.1 x o h), b.2.2.trans a.2.2⟩
theorem pe_andE {a b : E} {x y : Expr} {rest : List Expr} {pos : Pos} (ha : PE X x (tE X.K mg call a W)) (hb : PE X (.BoolOp .And (y :: rest) pos) (tE X.K mg call b W)) : PE X (.BoolOp .And (x :: y :: rest) pos) (tE X.K mg call (.and a b) W) := by
  refine PE.weak (pe_and ha hb) fun σ H Q h => ?_
  obtain ⟨F, A, ρ, w, s, p⟩ := h
  refine ⟨F, A, ρ, w, s, ?_⟩
  simp only [ev] at p
  cases hr : ev call a ρ with
  | bad => rw [hr] at p; exact p
  | err z ρ' => rw [hr] at p; exact p
  | ok d ρ1 =>
    rw [hr] at p
    simp only [R.bind] at p
    intro v F1 H1 A1 B1 e1 s1 o1 _ _ q1
    cases d <;> try (exact p.elim)
    case bl k =>
      refine ⟨k, o1.bl, ?_⟩
      have w1 := e1.wd.sub (Sb.l (A := A1) (B := B1))
      have e1' := e1.sub (Sb.l (A := A1) (B := B1))
      cases k with
      | true =>
        rw [if_pos rfl]
        refine ⟨F1, A1, ρ1, w1, s1, ?_⟩
        simp only at p
        cases hb' : ev call b ρ1 with
        | bad => rw [hb'] at p; exact p
        | err z ρ' => rw [hb'] at p; exact fun cls dx F' H' A' e' s' y => p cls dx F' H' A' (e1'.trans w e') s' y
        | ok y ρ2 =>
          rw [hb'] at p
          intro u F2 H2 A2 B2 e2 s2 o2 _ _ q2
          cases y <;> try (exact p.elim)
          case bl k2 =>
            rw [o2.bl]
            exact p (.bl k2) F2 H2 A2 no (by rw [cup_no']; exact e1'.trans w (e2.sub Sb.l)) s2 (.fz (.bl k2)) (fun z => by simp [shares] at z) (fun _ => Dj.no_r) fun hq => by
              simp only [quiet, Bool.and_eq_true] at hq
              exact quiets (q1 hq.1) (q2 hq.2)
      | false =>
        rw [if_neg Bool.false_ne_true]
        exact p (.bl false) F1 H1 A1 no (by rw [cup_no']; exact e1') s1 (.fz (.bl false)) (fun z => by simp [shares] at z) (fun _ => Dj.no_r) fun hq => by
          simp only [quiet, Bool.and_eq_true] at hq
          exact q1 hq.1
theorem pe_orE {a b : E} {x y : Expr} {rest : List Expr} {pos : Pos} (ha : PE X x (tE X.K mg call a W)) (hb : PE X (.BoolOp .Or (y :: rest) pos) (tE X.K mg call b W)) : PE X (.BoolOp .Or (x :: y :: rest) pos) (tE X.K mg call (.or a b) W) := by
  refine PE.weak (pe_or ha hb) fun σ H Q h => ?_
  obtain ⟨F, A, ρ, w, s, p⟩ := h
  refine ⟨F, A, ρ, w, s, ?_⟩
  simp only [ev] at p
  cases hr : ev call a ρ with
  | bad => rw [hr] at p; exact p
  | err z ρ' => rw [hr] at p; exact p
  | ok d ρ1 =>
    rw [hr] at p
    simp only [R.bind] at p
    intro v F1 H1 A1 B1 e1 s1 o1 _ _ q1
    cases d <;> try (exact p.elim)
    case bl k =>
      refine ⟨k, o1.bl, ?_⟩
      have w1 := e1.wd.sub (Sb.l (A := A1) (B := B1))
      have e1' := e1.sub (Sb.l (A := A1) (B := B1))
      cases k with
      | false =>
        rw [if_neg Bool.false_ne_true]
        refine ⟨F1, A1, ρ1, w1, s1, ?_⟩
        simp only at p
        cases hb' : ev call b ρ1 with
        | bad => rw [hb'] at p; exact p
        | err z ρ' => rw [hb'] at p; exact fun cls dx F' H' A' e' s' y => p cls dx F' H' A' (e1'.trans w e') s' y
        | ok y ρ2 =>
          rw [hb'] at p
          intro u F2 H2 A2 B2 e2 s2 o2 _ _ q2
          cases y <;> try (exact p.elim)
          case bl k2 =>
            rw [o2.bl]
            exact p (.bl k2) F2 H2 A2 no (by rw [cup_no']; exact e1'.trans w (e2.sub Sb.l)) s2 (.fz (.bl k2)) (fun z => by simp [shares] at z) (fun _ => Dj.no_r) fun hq => by
              simp only [quiet, Bool.and_eq_true] at hq
              exact quiets (q1 hq.1) (q2 hq.2)
      | true =>
        rw [if_pos rfl]
        exact p (.bl true) F1 H1 A1 no (by rw [cup_no']; exact e1') s1 (.fz (.bl true)) (fun z => by simp [shares] at z) (fun _ => Dj.no_r) fun hq => by
          simp only [quiet, Bool.and_eq_true] at hq
          exact q1 hq.1
theorem pe_oneE {op : BoolOp} {e : E} {x : Expr} {pos : Pos} (h : PE X x (tE X.K mg call e W)) : PE X (.BoolOp op [x] pos) (tE X.K mg call e W) := pe_one h
theorem pw_andE {a b : E} {x y : Expr} {rest : List Expr} {pos : Pos} (ha : PT X x (tT X.K mg call a W)) (hb : PW X (.BoolOp .And (y :: rest) pos) (tT X.K mg call b W)) : PW X (.BoolOp .And (x :: y :: rest) pos) (tT X.K mg call (.and a b) W) := by
  refine PW.weak (pw_and ha hb) fun σ H Q h => ?_
  obtain ⟨F, A, ρ, w, s, p⟩ := h
  refine ⟨F, A, ρ, w, s, ?_⟩
  simp only [ev] at p
  cases hr : ev call a ρ with
  | bad => rw [hr] at p; exact p
  | err z ρ' => rw [hr] at p; exact p
  | ok d ρ1 =>
    rw [hr] at p
    simp only [R.bind] at p
    cases d <;> try (exact p.elim)
    case bl k =>
      refine ⟨k, rfl, fun F1 H1 A1 e1 s1 => ?_⟩
      cases k with
      | true =>
        rw [if_pos rfl]
        refine ⟨F1, A1, ρ1, e1.wd, s1, ?_⟩
        simp only at p
        cases hb' : ev call b ρ1 with
        | bad => rw [hb'] at p; exact p
        | err z ρ' => rw [hb'] at p; exact fun cls dx F' H' A' e' s' y => p cls dx F' H' A' (e1.trans w e') s' y
        | ok y ρ2 =>
          rw [hb'] at p
          cases y <;> try (exact p.elim)
          case bl k2 =>
            obtain ⟨k', hk, p⟩ := p
            simp only [truD, Option.some.injEq] at hk
            subst hk
            exact ⟨k2, rfl, fun F2 H2 A2 e2 s2 => p F2 H2 A2 (e1.trans w e2) s2⟩
      | false =>
        rw [if_neg Bool.false_ne_true]
        obtain ⟨k', hk, p⟩ := p
        simp only [truD, Option.some.injEq] at hk
        subst hk
        exact p F1 H1 A1 e1 s1
theorem pw_orE {a b : E} {x y : Expr} {rest : List Expr} {pos : Pos} (ha : PT X x (tT X.K mg call a W)) (hb : PW X (.BoolOp .Or (y :: rest) pos) (tT X.K mg call b W)) : PW X (.BoolOp .Or (x :: y :: rest) pos) (tT X.K mg call (.or a b) W) := by
  refine PW.weak (pw_or ha hb) fun σ H Q h => ?_
  obtain ⟨F, A, ρ, w, s, p⟩ := h
  refine ⟨F, A, ρ, w, s, ?_⟩
  simp only [ev] at p
  cases hr : ev call a ρ with
  | bad => rw [hr] at p; exact p
  | err z ρ' => rw [hr] at p; exact p
  | ok d ρ1 =>
    rw [hr] at p
    simp only [R.bind] at p
    cases d <;> try (exact p.elim)
    case bl k =>
      refine ⟨k, rfl, fun F1 H1 A1 e1 s1 => ?_⟩
      cases k with
      | false =>
        rw [if_neg Bool.false_ne_true]
        refine ⟨F1, A1, ρ1, e1.wd, s1, ?_⟩
        simp only at p
        cases hb' : ev call b ρ1 with
        | bad => rw [hb'] at p; exact p
        | err z ρ' => rw [hb'] at p; exact fun cls dx F' H' A' e' s' y => p cls dx F' H' A' (e1.trans w e') s' y
        | ok y ρ2 =>
          rw [hb'] at p
          cases y <;> try (exact p.elim)
          case bl k2 =>
            obtain ⟨k', hk, p⟩ := p
            simp only [truD, Option.some.injEq] at hk
            subst hk
            exact ⟨k2, rfl, fun F2 H2 A2 e2 s2 => p F2 H2 A2 (e1.trans w e2) s2⟩
      | true =>
        rw [if_pos rfl]
        obtain ⟨k', hk, p⟩ := p
        simp only [truD, Option.some.injEq] at hk
        subst hk
        exact p F1 H1 A1 e1 s1
theorem PostE.pre {F H F1 H1 : Hp} {A A1 : AS} {σ : SG} {q q' al al' : Bool} {ρ ρ1 : Env'} {r : R D} {Q : VK} {K : PySem.W.Frag} (w : Wd F H A) (e1 : Ext F H A F1 H1 A1) (q1 : q = true → q' = true ∧ (ρ1 = ρ ∧ Same H H1 ∧ A1 = A))
    (hal : al = al') (p : PostE K mg W F H A σ q al ρ r Q) : PostE K mg W F1 H1 A1 σ q' al' ρ1 r Q := by
  subst hal
  cases r with
  | bad => exact p
  | err x ρ' => exact PX.trans w e1 p
  | ok d ρ' =>
    intro v F2 H2 A2 B2 e2 s2 o2 a2 d2 q2
    exact p v F2 H2 A2 B2 (e1.trans w e2) s2 o2 a2 d2 fun hq => quiets (q1 hq).2 (q2 (q1 hq).1)
/-- a if c else b -/
theorem pe_ifxE {c a b : E} {xc xa xb : Expr} {pos : Pos} (hc : PT X xc (tT X.K mg call c W)) (ha : PE X xa (tE X.K mg call a W)) (hb : PE X xb (tE X.K mg call b W)) : PE X (.IfExp xc xa xb pos) (tE X.K mg call (.ifx c a b) W) := by
  refine PE.weak (pe_ifExp hc ha hb) fun σ H Q h => ?_
  obtain ⟨F, A, ρ, w, s, p⟩ := h
  refine ⟨F, A, ρ, w, s, ?_⟩
  have hq : quiet (.ifx c a b) = false := by simp only [quiet]
  rw [hq] at p
  have hal : shares (.ifx c a b) = false := by simp only [shares]
  rw [hal] at p
  simp only [ev] at p
  cases hr : ev call c ρ with
  | bad => rw [hr] at p; exact p
  | err z ρ' => rw [hr] at p; exact p
  | ok d ρ1 =>
    rw [hr] at p
    simp only [R.bind] at p
    cases hk : truD d with
    | none => rw [hk] at p; exact p.elim
    | some k =>
      rw [hk] at p
      refine ⟨k, hk, fun F1 H1 A1 e1 s1 => ?_⟩
      have go : ∀ e' : E, PostE X.K mg W F H A σ false false ρ ((ev call e' ρ1).bind fun y ρ2 => if (!shares e' || y.pure) = true then R.ok y ρ2 else R.bad) Q → tE X.K mg call e' W σ H1 Q := fun e' p => by
        refine ⟨F1, A1, ρ1, e1.wd, s1, ?_⟩
        cases he : ev call e' ρ1 with
        | bad => rw [he] at p; exact p
        | err z ρ' => rw [he] at p; exact PX.trans w e1 p
        | ok y ρ2 =>
          rw [he] at p
          simp only [R.bind] at p
          by_cases hcd : (!shares e' || y.pure) = true
          · rw [if_pos hcd] at p
            intro v F2 H2 A2 B2 e2 s2 o2 a2 d2 _
            by_cases hae : shares e' = false
            · exact p v F2 H2 A2 B2 (e1.trans w e2) s2 o2 (fun z => by cases z) (fun _ => d2 hae) fun z => by cases z
            · have hp : y.pure = true := by
                cases hh : shares e' with
                | false => exact absurd hh hae
                | true => simpa [hh] using hcd
              exact p v F2 H2 A2 no (by rw [cup_no']; exact e1.trans w (e2.sub Sb.l)) s2 (.fz (o2.fzd hp)) (fun z => by cases z) (fun _ => Dj.no_r) fun z => by cases z
          · rw [if_neg hcd] at p; exact p.elim
      cases k with
      | true => exact iteT (go a p)
      | false => exact iteF (go b p)
/-- a display of a tuple -/
theorem pe_tupE {es : List E} {as : List Expr} {kk : Nat} {pos : Pos} (h : PEs X (fun e => tE X.K mg call e W) es as) : PE X (.Tuple as kk pos) (tE X.K mg call (.tup es) W) := by
  refine PE.weak (pe_tup h.paC) fun σ H Q h => ?_
  obtain ⟨F, A, ρ, w, s, p⟩ := h
  refine seqC es w s ?_
  simp only [ev] at p
  cases hr : evC call es ρ with
  | bad => simp only [hr, R.bind, PostE] at p
  | err z ρ' => simp only [hr, R.bind, PostE] at p; exact p
  | ok ds ρ' =>
    simp only [hr, R.bind] at p
    by_cases hc : (pureL ds && decide (ds.length ≤ lim)) = true
    · rw [if_pos hc] at p
      simp only [Bool.and_eq_true, decide_eq_true_eq] at hc
      intro vs F1 H1 A1 B1 e1 s1 o1 d1 q1
      have f1 := o1.fzd hc.1
      refine ⟨by rw [szl, f1.len]; exact hc.2, fun q hq => ?_⟩
      have w1 := e1.wd.sub (Sb.l (A := A1) (B := B1))
      have e2 := Ext.laidF (o := .tup vs) w1 hq
      refine p (.ref q) _ _ A1 no (by rw [cup_no']; exact (e1.sub Sb.l).trans w e2) (Slots.move e2.fsame s1 fun a o _ h => ?_) (.fz (.tup upd_same (FzL.up e2.fsame f1))) (fun z => by simp [shares] at z) (fun _ => Dj.no_r) fun hq' => ?_
      · rw [upd_ne (ne_of_none h hq)]; exact h
      · obtain ⟨t1, t2, t3⟩ := q1 (by simpa [quiet] using hq')
        exact ⟨t1, fun a o h => by rw [upd_ne (ne_of_none (t2 a o h) hq)]; exact t2 a o h, t3⟩
    · rw [if_neg hc] at p; exact p.elim
/-- a display of a list -/
theorem pe_lstE {es : List E} {as : List Expr} {pos : Pos} (h : PEs X (fun e => tE X.K mg call e W) es as) : PE X (.List as pos) (tE X.K mg call (.lst es) W) := by
  refine PE.weak (pe_lst h.paC) fun σ H Q h => ?_
  obtain ⟨F, A, ρ, w, s, p⟩ := h
  refine seqC es w s ?_
  simp only [ev] at p
  cases hr : evC call es ρ with
  | bad => simp only [hr, R.bind, PostE] at p
  | err z ρ' => simp only [hr, R.bind, PostE] at p; exact p
  | ok ds ρ' =>
    simp only [hr, R.bind] at p
    by_cases hc : ds.length ≤ lim
    · rw [if_pos hc] at p
      intro vs F1 H1 A1 B1 e1 s1 o1 d1 q1
      refine ⟨by rw [szl, o1.len]; exact hc, fun q hq => ?_⟩
      have e2 := Ext.laid (o := .lst vs) e1.wd hq
      have keep : ∀ a o, H1 a = some o → upd H1 q (.lst vs) a = some o := fun a o h => by rw [upd_ne (ne_of_none h hq)]; exact h
      have nq : ∀ a, A1 a ∨ B1 a → a ≠ q := fun a h => e1.wd.nq h hq
      have eq : cup (fun a => a = q) (cup A1 B1) = cup A1 (cup (fun a => a = q) B1) := funext fun a => propext ⟨fun h => h.elim (fun h => .inr (.inl h)) fun h => h.elim .inl fun h => .inr (.inr h), fun h => h.elim (fun h => .inr (.inl h)) fun h => h.elim .inl fun h => .inr (.inr h)⟩
      rw [eq] at e2
      refine p (.ref q) _ _ A1 (cup (fun a => a = q) B1) (e1.trans w e2) (Slots.move e2.fsame s1 fun a o _ h => keep a o h) (.lst upd_same (.inl rfl) (fun z => nq q (.inr z) rfl) Sb.r (OwnL.move e2.fsame (fun a o _ h => keep a o h) o1)) (fun z => by simp [shares] at z) (fun _ a x y => ?_) fun hq' => ?_
      · rcases y with y | y
        · exact nq a (.inl x) y
        · exact d1 a x y
      · obtain ⟨t1, t2, t3⟩ := q1 (by simpa [quiet] using hq')
        exact ⟨t1, fun a o h => keep a o (t2 a o h), t3⟩
    · rw [if_neg hc] at p; exact p.elim

/-! ### calls -/
/-- what follows a def's call -/
def PostF (K : PySem.W.Frag) (mg : Str → Option Value) (F H : Hp) (A : AS) (vs : List V) (r : FR) (Q : VK) (E : XK) : Prop := match r with
  | .ok d outs => ∀ v F' H' A' B, Ext F H A F' H' (cup A' B) → Slots K mg F' H' (vs.map some) outs A' → Own K mg F' H' v d B → Dj A' B → Q v H'
  | .err x outs => ∀ cls dx F' H' A', Ext F H A F' H' A' → Slots K mg F' H' (vs.map some) outs A' → XOk K mg F' H' cls dx x → E cls dx H'
  | .bad => False
/-- a def's promise: what the small language computes -/
def spC (K : PySem.W.Frag) (mg : Str → Option Value) (call : CallT) (f : Str) (np : Nat) : Sp := fun vs H Q E => vs.length = np ∧ ∃ F A ds, Wd F H A ∧ OwnL K mg F H vs ds A ∧ PostF K mg F H A vs (call f ds) Q E
/-- the arguments as they were evaluated -/
inductive ArL (K : PySem.W.Frag) (mg : Str → Option Value) (F H : Hp) (σ : SG) : List V → List Ar → AS → Prop
  | nil {B} : ArL K mg F H σ [] [] B
  | val {v d vs as B1 B2 B} : Own K mg F H v d B1 → ArL K mg F H σ vs as B2 → Dj B1 B2 → Sb B1 B → Sb B2 B → ArL K mg F H σ (v :: vs) (.val d :: as) B
  | lnt {i v vs as B} : σ[i]? = some (some v) → ArL K mg F H σ vs as B → ArL K mg F H σ (v :: vs) (.lnt i :: as) B
theorem ArL.move {K : PySem.W.Frag} {F H F' H' : Hp} {σ : SG} {vs : List V} {as : List Ar} {B : AS} (sf : Same F F') (h : ArL K mg F H σ vs as B) : (∀ a o, B a → H a = some o → H' a = some o) → ArL K mg F' H' σ vs as B := by
  induction h with
  | nil => intro _; exact .nil
  | val o _ d s1 s2 ih => intro k; exact .val (Own.move sf (fun a u b => k a u (s1 a b)) o) (ih fun a u b => k a u (s2 a b)) d s1 s2
  | lnt h _ ih => intro k; exact .lnt h (ih k)
def tAs (K : PySem.W.Frag) (mg : Str → Option Value) (call : CallT) (W : WX) : List E → TA
  | [] => fun _ H Q => Q [] H
  | e :: es => fun σ H Q => (match lendOf e with | some i => tVar i | none => tE K mg call e W) σ H fun x H1 => tAs K mg call W es σ H1 fun xs H2 => Q (x :: xs) H2
def PostA (K : PySem.W.Frag) (mg : Str → Option Value) (W : WX) (F H : Hp) (A : AS) (σ : SG) (r : R (List Ar)) (G : List V → Hp → Prop) : Prop := match r with
  | .ok ars ρ' => ∀ vs F' H' A' B, Ext F H A F' H' (cup A' B) → Slots K mg F' H' σ ρ' A' → ArL K mg F' H' σ vs ars B → Dj A' B → G vs H'
  | .err x ρ' => PX K mg W F H A σ x ρ'
  | .bad => False
theorem seqA : ∀ (es : List E) {σ : SG} {H F : Hp} {A : AS} {ρ : Env'} {G : List V → Hp → Prop}, Wd F H A → Slots X.K mg F H σ ρ A → PostA X.K mg W F H A σ (evA call es ρ) G → tAs X.K mg call W es σ H G
  | [], σ, H, F, A, ρ, G, w, s, p => by
    simp only [evA] at p
    exact p [] F H A no (by rw [cup_no']; exact Ext.refl w) s .nil Dj.no_r
  | e :: es, σ, H, F, A, ρ, G, w, s, p => by
    simp only [evA] at p
    cases hv : lendOf e with
    | some i =>
      simp only [hv] at p
      cases hr0 : ρ[i]? with
      | none => rw [hr0] at p; exact p.elim
      | some o0 =>
      cases o0 with
      | none => rw [hr0] at p; exact p.elim
      | some d0 =>
      rw [hr0] at p
      simp only at p
      obtain ⟨v, A1, A2, h1, h2, _, _, h5, _⟩ := s.get hr0
      show (match lendOf e with | some i => tVar i | none => tE X.K mg call e W) σ H fun x H1 => tAs X.K mg call W es σ H1 fun xs H2 => G (x :: xs) H2
      rw [hv]
      refine ⟨v, h1, ?_⟩
      refine seqA es w s ?_
      cases hr : evA call es ρ with
      | bad => rw [hr] at p; exact p
      | err x ρ' => rw [hr] at p; exact p
      | ok ars ρ2 =>
        rw [hr] at p
        intro vs F' H' A' B ex s' al dj
        exact p (v :: vs) F' H' A' B ex s' (.lnt h1 al) dj
    | none =>
      simp only [hv] at p
      show (match lendOf e with | some i => tVar i | none => tE X.K mg call e W) σ H fun x H1 => tAs X.K mg call W es σ H1 fun xs H2 => G (x :: xs) H2
      rw [hv]
      refine ⟨F, A, ρ, w, s, ?_⟩
      cases h1 : ev call e ρ with
      | bad => rw [h1] at p; exact p
      | err x ρ' => rw [h1] at p; exact p
      | ok d ρ1 =>
        rw [h1] at p
        simp only [R.bind] at p
        intro v F1 H1 A1 B e1 s1 o1 al1 dj1 q1
        refine seqA es (e1.wd.sub Sb.l) s1 ?_
        cases h2 : evA call es ρ1 with
        | bad => rw [h2] at p; exact p
        | err x ρ' => rw [h2] at p; exact fun cls dx F' H' A' e' s' y => p cls dx F' H' A' (e1.trans w (e'.more Sb.l)) s' y
        | ok ars ρ2 =>
          rw [h2] at p
          simp only at p
          by_cases hc : (!shares e || d.pure) = true
          · rw [if_pos hc] at p
            intro vs F2 H2 A2 B2 e2 s2 ol dj2
            by_cases ha : shares e = false
            · have dj := dj1 ha
              obtain ⟨f1, f2⟩ := Ext.frame e1.wd dj e2
              have f3 : Ext F H A F2 H2 (cup (cup A2 B2) B) := e1.trans w f1
              have eqs : cup (cup A2 B2) B = cup A2 (cup B B2) := funext fun a => propext ⟨fun h => h.elim (fun h => h.elim .inl fun h => .inr (.inr h)) fun h => .inr (.inl h), fun h => h.elim (fun h => .inl (.inl h)) fun h => h.elim .inr fun h => .inl (.inr h)⟩
              rw [eqs] at f3
              refine p (v :: vs) F2 H2 A2 (cup B B2) f3 s2 (.val (Own.ext e2 dj o1) ol (fun a x y => f2 a (.inr y) x) Sb.l Sb.r) (fun a x y => ?_)
              rcases y with y | y
              · exact f2 a (.inl x) y
              · exact dj2 a x y
            · have hp : d.pure = true := by
                cases hal : shares e with
                | false => exact absurd hal ha
                | true => simpa [hal] using hc
              have fz := Fz.up e2.fsame (o1.fzd hp)
              exact p (v :: vs) F2 H2 A2 B2 (e1.trans w (e2.more Sb.l)) s2 (.val (B1 := no) (B2 := B2) (.fz fz) ol Dj.no_l Sb.no_l Sb.rfl') dj2
          · rw [if_neg hc] at p; exact p.elim
/-- what is lent is fetched -/
theorem fetch_ok {K : PySem.W.Frag} {F H : Hp} {σ : SG} : ∀ {ars : List Ar} {vs : List V} {B A : AS} {ρ ρ2 : Env'} {ds : List D}, Slots K mg F H σ ρ A → ArL K mg F H σ vs ars B → Dj A B → fetch ars ρ = some (ds, ρ2) →
    ∃ A1 A2, OwnL K mg F H vs ds (cup A1 B) ∧ Slots K mg F H σ ρ2 A2 ∧ Dj A1 A2 ∧ Sb A1 A ∧ Sb A2 A
  | [], _, B, A, ρ, ρ2, ds, s, .nil, dj, h => by
    simp only [fetch, Option.some.injEq, Prod.mk.injEq] at h
    obtain ⟨rfl, rfl⟩ := h
    exact ⟨no, A, .nil, s, Dj.no_l, Sb.no_l, Sb.rfl'⟩
  | .val d :: r, _, B, A, ρ, ρ2, ds, s, .val (B1 := B1) (B2 := B2) o al d12 s1 s2, dj, h => by
    simp only [fetch, Option.map_eq_some_iff] at h
    obtain ⟨⟨ds', ρ'⟩, h1, h2⟩ := h
    cases h2
    obtain ⟨A1, A2, ol, sl, d2, e1, e2⟩ := fetch_ok s al (dj.sub Sb.rfl' s2) h1
    refine ⟨A1, A2, .cons o ol (fun a x y => ?_) (fun a x => .inr (s1 a x)) (fun a x => x.elim .inl fun x => .inr (s2 a x)), sl, d2, e1, e2⟩
    rcases y with y | y
    · exact dj a (e1 a y) (s1 a x)
    · exact d12 a x y
  | .lnt i :: r, _, B, A, ρ, ρ2, ds, s, .lnt (v := v) hv al, dj, h => by
    simp only [fetch] at h
    cases hi : ρ[i]? with
    | none => rw [hi] at h; cases h
    | some o =>
    cases o with
    | none => rw [hi] at h; cases h
    | some d =>
      rw [hi] at h
      simp only [Option.map_eq_some_iff] at h
      obtain ⟨⟨ds', ρ'⟩, h1, h2⟩ := h
      cases h2
      obtain ⟨v', C1, C2, g1, g2, g3, g4, g5, g6⟩ := s.get hi
      rw [hv] at g1
      cases g1
      obtain ⟨A1, A2, ol, sl, d2, e1, e2⟩ := fetch_ok g3 al (dj.sub g6 Sb.rfl') h1
      refine ⟨cup C1 A1, A2, .cons g2 ol (fun a x y => ?_) (fun a x => .inl (.inl x)) (fun a x => x.elim (fun x => .inl (.inr x)) .inr), sl, fun a x y => ?_, fun a x => x.elim (g5 a) fun x => g6 a (e1 a x), fun a x => g6 a (e2 a x)⟩
      · rcases y with y | y
        · exact g4 a x (e1 a y)
        · exact dj a (g5 a x) y
      · rcases x with x | x
        · exact g4 a x (e2 a y)
        · exact d2 a x y
/-- what was lent is given back -/
theorem back_ok {K : PySem.W.Frag} {F H : Hp} {σ : SG} : ∀ {ars : List Ar} {vs : List V} {outs : List (Option D)} {ρ : Env'} {A B : AS}, (∀ (k : Nat) (i : Nat), ars[k]? = some (.lnt i) → ∃ v, vs[k]? = some v ∧ σ[i]? = some (some v)) →
    Slots K mg F H σ ρ A → Slots K mg F H (vs.map some) outs B → Dj A B → ∃ C, Slots K mg F H σ (back ars outs ρ) C ∧ Sb C (cup A B)
  | [], vs, outs, ρ, A, B, _, s, t, dj => ⟨A, by simpa [back] using s, Sb.l⟩
  | .val d :: r, vs, [], ρ, A, B, _, s, t, dj => ⟨A, by simpa [back] using s, Sb.l⟩
  | .lnt i :: r, vs, [], ρ, A, B, _, s, t, dj => ⟨A, by simpa [back] using s, Sb.l⟩
  | .val d :: r, [], o :: os, ρ, A, B, _, s, t, dj => by cases t
  | .lnt i :: r, [], o :: os, ρ, A, B, _, s, t, dj => by cases t
  | .val d :: r, v :: vs, o :: os, ρ, A, B, h, s, t, dj => by
    simp only [back]
    have h' : ∀ (k : Nat) (i : Nat), r[k]? = some (.lnt i) → ∃ v, vs[k]? = some v ∧ σ[i]? = some (some v) := fun k i e => by simpa using h (k + 1) i (by simpa using e)
    cases t with
    | skip t => exact back_ok h' s t dj
    | cons _ t _ _ c =>
      obtain ⟨C, h1, h2⟩ := back_ok h' s t (dj.sub Sb.rfl' c)
      exact ⟨C, h1, fun a x => (h2 a x).imp id (c a)⟩
  | .lnt i :: r, v :: vs, o :: os, ρ, A, B, h, s, t, dj => by
    simp only [back]
    have h' : ∀ (k : Nat) (i : Nat), r[k]? = some (.lnt i) → ∃ v, vs[k]? = some v ∧ σ[i]? = some (some v) := fun k i e => by simpa using h (k + 1) i (by simpa using e)
    obtain ⟨v', e1, hv⟩ := h 0 i rfl
    cases e1
    cases t with
    | skip t => exact back_ok h' (s.gone i) t dj
    | @cons _ d _ _ B1 B2 _ x t a b c =>
      have s2 := put_back hv x s fun z p q => dj z q (b z p)
      obtain ⟨C, h1, h2⟩ := back_ok h' s2 t fun z p q => by
        rcases p with p | p
        · exact a z p q
        · exact dj z p (c z q)
      exact ⟨C, h1, fun z p => (h2 z p).elim (fun q => q.elim (fun q => .inr (b z q)) .inl) fun q => .inr (c z q)⟩
theorem ArL.lnts {K : PySem.W.Frag} {F H : Hp} {σ : SG} {vs : List V} {ars : List Ar} {B : AS} (h : ArL K mg F H σ vs ars B) : ∀ (k : Nat) (i : Nat), ars[k]? = some (.lnt i) → ∃ v, vs[k]? = some v ∧ σ[i]? = some (some v) := by
  induction h with
  | nil => intro k i e; simp at e
  | val _ _ _ _ _ ih =>
    intro k i e
    cases k with
    | zero => simp at e
    | succ k => simpa using ih k i (by simpa using e)
  | lnt hv _ ih =>
    intro k i e
    cases k with
    | zero => simp at e; subst e; exact ⟨_, rfl, hv⟩
    | succ k => simpa using ih k i (by simpa using e)
theorem ArL.len {K : PySem.W.Frag} {F H : Hp} {σ : SG} {vs : List V} {ars : List Ar} {B : AS} (h : ArL K mg F H σ vs ars B) : vs.length = ars.length := by
  induction h with
  | nil => rfl
  | val _ _ _ _ _ ih => simp [ih]
  | lnt _ _ ih => simp [ih]
theorem evA_len : ∀ {es : List E} {ρ ρ' : Env'} {ars : List Ar}, evA call es ρ = .ok ars ρ' → ars.length = es.length
  | [], ρ, ρ', ars, h => by simp only [evA, R.ok.injEq] at h; rw [← h.1]; rfl
  | e :: es, ρ, ρ', ars, h => by
    simp only [evA] at h
    cases hv : lendOf e with
    | some i =>
      simp only [hv] at h
      split at h
      · cases h2 : evA call es ρ with
        | bad => rw [h2] at h; cases h
        | err x ρ' => rw [h2] at h; cases h
        | ok as ρ2 =>
          rw [h2] at h
          simp only [R.bind, R.ok.injEq] at h
          rw [← h.1, List.length_cons, evA_len h2, List.length_cons]
      · cases h
    | none =>
      simp only [hv] at h
      cases h1 : ev call e ρ with
      | bad => rw [h1] at h; cases h
      | err x ρ' => rw [h1] at h; cases h
      | ok d ρ1 =>
        rw [h1] at h
        simp only [R.bind] at h
        cases h2 : evA call es ρ1 with
        | bad => rw [h2] at h; cases h
        | err x ρ' => rw [h2] at h; cases h
        | ok as ρ2 =>
          rw [h2] at h
          simp only at h
          split at h
          · simp only [R.ok.injEq] at h
            rw [← h.1, List.length_cons, evA_len h2, List.length_cons]
          · cases h
/-- a def is called -/
theorem pe_callE {n : Nat} {f : Str} {np : Nat} {es : List E} {a : Expr} {as : List Expr} {p pos : Pos} {fa : Addr} {fd : FuncData} {ps : List Str} (hF : FnOk X.prog X.w X.K X.mg X.base (L2.CX X.prog X.w) n fa fd ps (spC X.K mg call f np)) (hr : Room n X.A) (hg : Gl X f) (hm : X.mg f = some (.ref fa))
    (hk : PySem.W.keepIn X.K (.ref fa) = true) (hb : Binds X.K fd ps []) (tk : Takes X W) (hd : (f == ("__debug__" : Str)) = false) (hn : es.length = np) (hs : (a :: as).all noStar = true) (ha : PA X (a :: as) (tAs X.K mg call W es)) :
    PE X (.Call (.Name f p) (a :: as) [] pos) (tE X.K mg call (.call f es) W) := by
  simp only [List.all_cons, Bool.and_eq_true] at hs
  refine PE.weak (pe_callSD (E := fun σ cls d H => W cls d σ H) hF hr hg hm hk hb .nil (fun σ => passAt tk σ) ha hd (starEach_cons hs.1 as X.env) (back_none hs.2)) fun σ H Q h => ?_
  obtain ⟨F, A, ρ, w, s, p⟩ := h
  refine seqA es w s ?_
  simp only [ev] at p
  cases hA : evA call es ρ with
  | bad => simp only [hA, R.bind, PostE] at p
  | err x ρ' => simp only [hA, R.bind, PostE] at p; exact p
  | ok ars ρ1 =>
    simp only [hA, R.bind] at p
    intro vs F1 H1 A1 B e1 s1 al dj
    cases hf : fetch ars ρ1 with
    | none => simp only [hf, PostE] at p
    | some q =>
      obtain ⟨ds, ρ2⟩ := q
      simp only [hf] at p
      obtain ⟨C1, C2, ol, s2, d2, i1, i2⟩ := fetch_ok s1 al dj hf
      rw [List.append_nil]
      refine ⟨?_, F1, cup C1 B, ds, e1.wd.sub (fun z x => x.elim (fun x => .inl (i1 z x)) .inr), ol, ?_⟩
      · rw [al.len, ← hn]
        exact evA_len hA
      have dC : Dj (cup C1 B) C2 := fun z x y => x.elim (fun x => d2 z x y) fun x => dj z (i2 z y) x
      have wC : Wd F1 H1 (cup (cup C1 B) C2) := e1.wd.sub fun z x => x.elim (fun x => x.elim (fun x => .inl (i1 z x)) .inr) fun x => .inl (i2 z x)
      have eC : Ext F H A F1 H1 (cup (cup C1 B) C2) := e1.sub fun z x => x.elim (fun x => x.elim (fun x => .inl (i1 z x)) .inr) fun x => .inl (i2 z x)
      cases hc : call f ds with
      | bad => simp only [hc, PostE] at p
      | err x outs =>
        simp only [hc, PostE] at p
        intro cls dx F' H' A' e' so y
        obtain ⟨g1, g2⟩ := Ext.frame wC dC e'
        have s3 := Slots.ext e' dC s2
        obtain ⟨G, h1, h2⟩ := back_ok (ars := ars) al.lnts s3 so g2.symm
        exact p cls dx F' H' G ((eC.trans w g1).sub fun z x => (h2 z x).symm) h1 y
      | ok d outs =>
        simp only [hc, PostE] at p
        intro v F' H' A' B' e' so o db
        obtain ⟨g1, g2⟩ := Ext.frame wC dC e'
        have s3 := Slots.ext e' dC s2
        obtain ⟨G, h1, h2⟩ := back_ok (ars := ars) al.lnts s3 so (fun z x y => g2 z (.inl y) x)
        refine p v F' H' G B' ((eC.trans w g1).sub fun z x => ?_) h1 o (fun z => by simp [shares] at z) (fun _ z x y => ?_) fun z => by simp [quiet] at z
        · rcases x with x | x
          · exact (h2 z x).elim .inr fun y => .inl (.inl y)
          · exact .inl (.inr x)
        · rcases h2 z x with x | x
          · exact g2 z (.inr y) x
          · exact db z x y
end
end VI

namespace PySem
open Sem (wp)
open AutoSeq1 (wpAny_loadPart')
set_option maxHeartbeats 1000000 in
theorem VI_enum_new {v : Value} {o : Obj} {H : Heap → Prop} (B : Begins v o H) :
    Meets (Builtin.«enumerate.__new__» ⟨[.type "enumerate", v], []⟩) (fun _ R s => H s.heap ∧
      R (.ok (.ret (.ref (s.heap.push o).objs.size))) { s with heap := (s.heap.push o).push { cls := .type "enumerate", data := .fields #[.none, .bool false, .ref s.heap.objs.size, rawInt 0, .none, .none] } }) :=
  .of_wp fun prog w A R s h => by
    obtain ⟨hp, g, d, tk, os⟩ := s; obtain ⟨h1, h⟩ := h
    have hsub := sub_enumerate
    have q1 : ∀ {A' : Around} {E : Value → Shared → Prop} {Q : Value → Shared → Prop}, Q (.ref hp.objs.size) ⟨hp.push o, g, d, tk, os⟩ → wpAny (model prog w) A' (pyIter v) Q E ⟨hp, g, d, tk, os⟩ :=
      fun q => B.iter prog w _ _ ⟨hp, g, d, tk, os⟩ _ h1 q
    wp_walk using q1
    refine wpAny_stack_any fun st => wpAny_pure ?_
    split
    · rename_i c _ _ _ _ _
      cases (c == Value.type "enumerate")
      · wp_walk using q1
        exact ⟨_, rfl, h⟩
      · wp_walk using q1
        exact ⟨_, rfl, h⟩
    · wp_walk using q1
      exact ⟨_, rfl, h⟩
theorem VI_enum_call {prog : Program} {w : World} {A : Around} {E : Value → Shared → Prop} {s : Shared} {v : Value} {o : Obj} {H : Heap → Prop} {Q : Value → Shared → Prop} (B : Begins v o H) (h1 : H s.heap)
    (h : ∀ h', IsEnum h' (s.heap.objs.size + 1) s.heap.objs.size 0 .none → h'.get? s.heap.objs.size = some o → h'.objs.size = s.heap.objs.size + 2 →
      (∀ b o, s.heap.get? b = some o → h'.get? b = some o) → Q (.ref (s.heap.objs.size + 1)) { s with heap := h' }) :
    wpAny (model prog w) A (call (.type "enumerate") [v]) Q E s := by
  refine callType_new F.called_enumerate (by decide) (F.typeCall_enumerate_1 _) (F.newCall_enumerate_1 _) (fun obj => F.args_object_init_2 obj _) F.entry_enumerate_new
    (VI_enum_new B) ⟨h1, ?_⟩
  have hz : (s.heap.push o).objs.size = s.heap.objs.size + 1 := Heap.size_push ..
  show _ ∧ _
  rw [hz]
  have he : IsEnum ((s.heap.push o).push { cls := .type "enumerate", data := .fields #[.none, .bool false, .ref s.heap.objs.size, rawInt 0, .none, .none] }) (s.heap.objs.size + 1) s.heap.objs.size 0 .none := by
    have := Heap.get?_push_size (s.heap.push o) (o := { cls := .type "enumerate", data := .fields #[.none, .bool false, .ref s.heap.objs.size, rawInt 0, .none, .none] }) rfl
    rw [hz] at this; exact this
  exact ⟨⟨_, he, rfl⟩, h _ he (Heap.get?_push_of_some _ (Heap.get?_push_size _ B.free)) (by rw [Heap.size_push, hz]) fun b o x => Heap.get?_push_of_some _ (Heap.get?_push_of_some _ x)⟩
end PySem
namespace VI
variable [Tn]
open PySem PySem.Spec PyProof.Rows L2
/-- enumerate of a tuple, of a text -/
def IteT (K : PySem.W.Frag) (a : Addr) : It :=
  ⟨fun i H => ∃ (xs : List V) (x : V), SqT K H a xs ∧ xs[i]? = some x, fun i H v H' => ∃ T x, v = .ref T ∧ H T = none ∧ H' = upd H T (.tup [.int (i : Nat), x]) ∧ ∀ xs, SqT K H a xs → xs[i]? = some x, fun i H => ∃ xs : List V, SqT K H a xs ∧ xs.length ≤ i⟩
def IteS (z : Str) : It :=
  ⟨fun i _ => i < z.cps.size, fun i H v H' => ∃ T c, v = .ref T ∧ H T = none ∧ H' = upd H T (.tup [.int (i : Nat), .str ⟨#[c]⟩]) ∧ z.cps[i]? = some c, fun i _ => z.cps.size ≤ i⟩
theorem in1_hd {A : Around} (h : A.handled = none) : A.in1.handled = none := h
theorem turn_enumT {P : Program} {w : World} {K : PySem.W.Frag} {elts : List Expr} {kk : Nat} {tpos : Pos} (a e it : Addr) :
    Turn P w K (.Tuple elts kk tpos) (IteT K a) [e, it] e (fun i h => (∃ old, IsEnum h e it ((i : Nat) : Int) old) ∧ h.IsTupleIter it a i ∧ e ≠ it) where
  mem := by simp
  obj := fun i h st b hb => by
    obtain ⟨⟨old, he⟩, ⟨o, ho, hc, hd⟩, _⟩ := st
    have e' : b = e ∨ b = it := by simpa using hb
    rcases e' with z | z
    · rw [z]; exact ⟨_, he, fun v q => nomatch q⟩
    · rw [z]; exact ⟨o, ho, fun v q => by rw [hd] at q; cases q⟩
  keep := fun i h h' st k => let ⟨⟨old, he⟩, hi, hne⟩ := st; ⟨⟨old, k e (by simp) _ he⟩, hi.at fun o q => k it (by simp) o q, hne⟩
  item := by
    intro X hP hw hK hc i pins s σ H E I hf st hg
    subst hP hw hK
    obtain ⟨⟨old, he⟩, hit, hne⟩ := st
    obtain ⟨xs, x, hq, hx⟩ := hg
    obtain ⟨its, rv, p, hz⟩ := I.tuple hq
    obtain ⟨u, hu, ru⟩ := rv.get hx
    have hel : e < s.heap.objs.size := Heap.lt_size he
    have hil : it < s.heap.objs.size := by obtain ⟨_, q, _⟩ := hit; exact Heap.lt_size q
    have ait : a ≠ it := by
      intro z
      subst z
      obtain ⟨o1, g1, c1, _⟩ := p
      obtain ⟨o2, g2, c2, _⟩ := hit
      rw [g1] at g2; cases g2; rw [c1] at c2; exact absurd c2 (by decide)
    have ae : e ≠ a := by
      intro z
      subst z
      obtain ⟨o1, g1, c1, _⟩ := p
      rw [he] at g1; cases g1; exact absurd (show Value.type "enumerate" = Value.type "tuple" from c1) (by decide)
    have hlt : i < its.toArray.size := by
      have := List.getElem?_eq_some_iff.mp hu
      simpa using this.1
    refine wpAny_pyNext_enum_itemD (Draws.tuple (in1_hd (I.ok.hd hc)) it a ait its.toArray) he ⟨hit, p⟩ hlt hne (by simp [hne, ae]) fun y h' tk hy ho hit' hT hsz hk => ?_
    have ey : y = u := by
      rw [show its.toArray[i]? = some u by simpa using hu] at hy
      exact (Option.some.inj hy).symm
    subst ey
    refine ⟨_, rfl, wpAny_letOwnedTupleGo_enum (s := { s with heap := h', toks := tk + 1 }) ho fun h'' he' sb => ?_⟩
    have hT2 : h''.get? s.heap.objs.size = some { cls := .type "tuple", data := .seq #[.int i tk, y] } := (sb.2 _ (Nat.ne_of_gt hel)).trans hT
    have new : ObjOk X.prog X.w (upd H s.heap.objs.size (.tup [.int (i : Nat), x])) h'' s.heap.objs.size (.tup [.int (i : Nat), x]) :=
      ⟨by show 2 ≤ sizeLine; decide, [.int i tk, y], .cons ⟨_, rfl⟩ (.cons ru .nil), ⟨_, hT2, rfl, _, rfl⟩⟩
    have I1 : L2.Inv X pins σ (upd H s.heap.objs.size (.tup [.int (i : Nat), x])) { s with heap := h'', toks := tk + 1 } :=
      I.turnedNew (ch := [e, it]) (fun b ob hb q => (sb.2 b (fun z => hb (by simp [z]))).trans (hk b ob (fun z => hb (by simp [z])) (fun z => hb (by simp [z])) q)) hf (Nat.le_refl _) new
    refine ⟨.ref s.heap.objs.size, _, I1, rfl, ⟨_, x, rfl, I.hok.fresh (Nat.le_refl _), rfl, fun ys hy => by rw [I.tuple_inj hy hq]; exact hx⟩, ⟨⟨y, ?_⟩, hit'.1.at fun o q => (sb.2 it (Ne.symm hne)).trans q, hne⟩, fun b hb => ?_⟩
    · have e1 : ((i + 1 : Nat) : Int) = (i : Int) + 1 := by omega
      rw [e1]; exact he'
    · have hb' : b < s.heap.objs.size := by
        have e' : b = e ∨ b = it := by simpa using hb
        rcases e' with z | z
        · rw [z]; exact hel
        · rw [z]; exact hil
      rw [upd_ne (Nat.ne_of_lt hb')]
      exact (hf b hb).1
  done := by
    intro X hP hw hK hc i pins s σ H E I hf st hg
    subst hP hw hK
    obtain ⟨⟨old, he⟩, hit, hne⟩ := st
    obtain ⟨xs, hq, hx⟩ := hg
    obtain ⟨its, rv, p, hz⟩ := I.tuple hq
    obtain ⟨f0, f1, f2, f3, f4, f5⟩ := hf it (by simp)
    have hl := rv.length
    have hT : s.TypeIs (.ref e) "enumerate" := ⟨_, he, rfl⟩
    have hend : its.toArray[i]? = none := by simp; omega
    unfold pyNext
    refine wpAny_bind (wpAny_attempt (wpAny_callSpecial?_slot (name := Str.ofString "__next__") hT F.slot_enumerate_next
      (wpAny_call_entry F.slot_enumerate_next hT F.entry_enumerate_next ?_ (F.args_enumerate_next_1 _))))
    show wpAny _ _ (field (.ref e) 2 >>= _) _ _ _
    refine wpAny_bind (wpAny_field he rfl (x := .ref it) rfl ?_)
    refine wpAny_bind (wpAny_nextOf_tuple_end (in1_hd (I.ok.hd hc)) hit p hend fun h' x he' hx' => ?_)
    obtain ⟨o, ho, hc'⟩ := hx'
    refine wpAny_bind (wpAny_isInstance (T := "StopIteration") (b := true) ⟨o, ho, hc'⟩ isSubtype_stop ?_)
    exact wpAny_pure ⟨rfl, I.turned (t' := s.toks) (fun b o hb q => he' b o hb q) f0 f1 f3 f4 f5⟩
  self := fun A i s Q E st h => let ⟨⟨_, he⟩, _⟩ := st; wpAny_pyIter_enum he h
theorem turn_enumS {P : Program} {w : World} {K : PySem.W.Frag} {elts : List Expr} {kk : Nat} {tpos : Pos} (z : Str) (t : Tok) (e it : Addr) :
    Turn P w K (.Tuple elts kk tpos) (IteS z) [e, it] e (fun i h => (∃ old, IsEnum h e it ((i : Nat) : Int) old) ∧ h.IsStrIter it (strIterType z) z t i ∧ e ≠ it) where
  mem := by simp
  obj := fun i h st b hb => by
    obtain ⟨⟨old, he⟩, ⟨o, ho, hc, hd⟩, _⟩ := st
    have e' : b = e ∨ b = it := by simpa using hb
    rcases e' with z | z
    · rw [z]; exact ⟨_, he, fun v q => nomatch q⟩
    · rw [z]; exact ⟨o, ho, fun v q => by rw [hd] at q; cases q⟩
  keep := fun i h h' st k => let ⟨⟨old, he⟩, hi, hne⟩ := st; ⟨⟨old, k e (by simp) _ he⟩, (let ⟨o, ho, r⟩ := hi; ⟨o, k it (by simp) o ho, r⟩), hne⟩
  item := by
    intro X hP hw hK hc i pins s σ H E I hf st hg
    subst hP hw hK
    obtain ⟨⟨old, he⟩, hit, hne⟩ := st
    have hel : e < s.heap.objs.size := Heap.lt_size he
    have hil : it < s.heap.objs.size := by obtain ⟨_, q, _⟩ := hit; exact Heap.lt_size q
    refine wpAny_pyNext_enum_itemD (Draws.text (in1_hd (I.ok.hd hc)) it z t) he hit hg hne (by simp [hne]) fun y h' tk hy ho hit' hT hsz hk => ?_
    obtain ⟨c, u, hcx, ey⟩ := hy
    subst ey
    refine ⟨_, rfl, wpAny_letOwnedTupleGo_enum (s := { s with heap := h', toks := tk + 1 }) ho fun h'' he' sb => ?_⟩
    have hT2 : h''.get? s.heap.objs.size = some { cls := .type "tuple", data := .seq #[.int i tk, .str ⟨#[c]⟩ u] } := (sb.2 _ (Nat.ne_of_gt hel)).trans hT
    have new : ObjOk X.prog X.w (upd H s.heap.objs.size (.tup [.int (i : Nat), .str ⟨#[c]⟩])) h'' s.heap.objs.size (.tup [.int (i : Nat), .str ⟨#[c]⟩]) :=
      ⟨by show 2 ≤ sizeLine; decide, [.int i tk, .str ⟨#[c]⟩ u], .cons ⟨_, rfl⟩ (.cons ⟨_, rfl⟩ .nil), ⟨_, hT2, rfl, _, rfl⟩⟩
    have I1 : L2.Inv X pins σ (upd H s.heap.objs.size (.tup [.int (i : Nat), .str ⟨#[c]⟩])) { s with heap := h'', toks := tk + 1 } :=
      I.turnedNew (ch := [e, it]) (fun b ob hb q => (sb.2 b (fun z => hb (by simp [z]))).trans (hk b ob (fun z => hb (by simp [z])) (fun z => hb (by simp [z])) q)) hf (Nat.le_refl _) new
    refine ⟨.ref s.heap.objs.size, _, I1, rfl, ⟨_, c, rfl, I.hok.fresh (Nat.le_refl _), rfl, hcx⟩, ⟨⟨.str ⟨#[c]⟩ u, ?_⟩, (let ⟨o, ho', r⟩ := hit'; ⟨o, (sb.2 it (Ne.symm hne)).trans ho', r⟩), hne⟩, fun b hb => ?_⟩
    · have e1 : ((i + 1 : Nat) : Int) = (i : Int) + 1 := by omega
      rw [e1]; exact he'
    · have hb' : b < s.heap.objs.size := by
        have e' : b = e ∨ b = it := by simpa using hb
        rcases e' with z | z
        · rw [z]; exact hel
        · rw [z]; exact hil
      rw [upd_ne (Nat.ne_of_lt hb')]
      exact (hf b hb).1
  done := by
    intro X hP hw hK hc i pins s σ H E I hf st hg
    subst hP hw hK
    obtain ⟨⟨old, he⟩, hit, hne⟩ := st
    obtain ⟨f0, f1, f2, f3, f4, f5⟩ := hf it (by simp)
    have hT : s.TypeIs (.ref e) "enumerate" := ⟨_, he, rfl⟩
    have hend : z.cps[i]? = none := Array.getElem?_eq_none hg
    unfold pyNext
    refine wpAny_bind (wpAny_attempt (wpAny_callSpecial?_slot (name := Str.ofString "__next__") hT F.slot_enumerate_next
      (wpAny_call_entry F.slot_enumerate_next hT F.entry_enumerate_next ?_ (F.args_enumerate_next_1 _))))
    show wpAny _ _ (field (.ref e) 2 >>= _) _ _ _
    refine wpAny_bind (wpAny_field he rfl (x := .ref it) rfl ?_)
    have go : ∀ {Q : Value → Shared → Prop} {E' : Value → Shared → Prop}, (∀ h' x, Heap.ExtBut it s.heap h' → (∃ o, h'.get? x = some o ∧ o.cls = .type "StopIteration") → E' (.ref x) { s with heap := h' }) → wpAny (model X.prog X.w) X.A.in1 (Builtin.SmallTypes.nextOf (.ref it)) Q E' s := fun {Q E'} hE => by
      unfold strIterType at hit
      split at hit
      · exact wpAny_nextOf_ascii_end (in1_hd (I.ok.hd hc)) hit hend hE
      · exact wpAny_nextOf_wide_end (in1_hd (I.ok.hd hc)) hit hend hE
    refine wpAny_bind (go fun h' x he' hx' => ?_)
    obtain ⟨o, ho, hc'⟩ := hx'
    refine wpAny_bind (wpAny_isInstance (T := "StopIteration") (b := true) ⟨o, ho, hc'⟩ isSubtype_stop ?_)
    exact wpAny_pure ⟨rfl, I.turned (t' := s.toks) (fun b o hb q => he' b o hb q) f0 f1 f3 f4 f5⟩
  self := fun A i s Q E st h => let ⟨⟨_, he⟩, _⟩ := st; wpAny_pyIter_enum he h
end VI

namespace VI
variable [Tn]
open PySem PySem.Spec PyProof.Rows L2
section
variable {K : PySem.W.Frag} {mg : Str → Option Value} {call : CallT} {W : WX}
/-- an iterator walks these data -/
structure IW (K : PySem.W.Frag) (F : Hp) (J : It) (xs : List D) : Prop where
  goes : ∀ i H, i < xs.length → Same F H → J.go i H
  stops : ∀ H, Same F H → J.stop xs.length H
  yields : ∀ i H x H', i < xs.length → Same F H → J.yld i H x H' → ∃ d, xs[i]? = some d ∧ ((H' = H ∧ Fz K F x d) ∨ (∃ T vs ds, x = .ref T ∧ H T = none ∧ H' = upd H T (.tup vs) ∧ d = .tup ds ∧ FzL K F vs ds) ∨ ∃ T vs ds, x = .ref T ∧ H' = H ∧ H T = some (.tup vs) ∧ d = .tup ds ∧ FzL K F vs ds)
theorem Same.trans {F G H : Hp} (a : Same F G) (b : Same G H) : Same F H := fun x o e => b x o (a x o e)
theorem IW.up {F F' : Hp} {J : It} {xs : List D} (s : Same F F') (w : IW K F J xs) : IW K F' J xs where
  goes := fun i H a b => w.goes i H a (s.trans b)
  stops := fun H b => w.stops H (s.trans b)
  yields := fun i H x H' a b y => by
    obtain ⟨d, h1, h2⟩ := w.yields i H x H' a (s.trans b) y
    refine ⟨d, h1, ?_⟩
    rcases h2 with ⟨h3, h4⟩ | ⟨T, vs, ds, h3, h4, h5, h6, h7⟩ | ⟨T, vs, ds, h3, h4, h5, h6, h7⟩
    · exact .inl ⟨h3, Fz.up s h4⟩
    · exact .inr (.inl ⟨T, vs, ds, h3, h4, h5, h6, FzL.up s h7⟩)
    · exact .inr (.inr ⟨T, vs, ds, h3, h4, h5, h6, FzL.up s h7⟩)
theorem IW.item {F H H' : Hp} {A : AS} {J : It} {xs : List D} {i : Nat} {x : V} (w : IW K F J xs) (wd : Wd F H A) (hi : i < xs.length) (y : J.yld i H x H') : ∃ d F', xs[i]? = some d ∧ Ext F H A F' H' A ∧ Fz K F' x d ∧ Same H H' := by
  obtain ⟨d, h1, h2⟩ := w.yields i H x H' hi wd.same y
  rcases h2 with ⟨rfl, h4⟩ | ⟨T, vs, ds, rfl, h4, rfl, rfl, h7⟩ | ⟨T, vs, ds, rfl, rfl, h5, rfl, h7⟩
  · exact ⟨d, F, h1, Ext.refl wd, h4, fun _ _ e => e⟩
  · have e := Ext.laidF (o := .tup vs) wd h4
    exact ⟨_, _, h1, e, .tup upd_same (FzL.up e.fsame h7), fun a u q => by rw [upd_ne (ne_of_none q h4)]; exact q⟩
  · by_cases hF : F T = none
    · have sf : Same F (upd F T (.tup vs)) := fun a o e => by rw [upd_ne (ne_of_none e hF)]; exact e
      refine ⟨_, upd F T (.tup vs), h1, ⟨sf, ⟨fun a o e => ?_, fun a x => ?_, wd.tab, fun a ps e => by
        by_cases z : a = T
        · subst z; rw [upd_same] at e; cases e
        · rw [upd_ne z] at e; exact wd.nof a ps e⟩, fun _ _ e _ _ => e, fun _ ps e => ⟨ps, e⟩, fun a x => ?_, fun a x => .inl x⟩, .tup upd_same (FzL.up sf h7), fun _ _ e => e⟩
      · by_cases z : a = T
        · subst z; rw [upd_same] at e; cases e; exact h5
        · rw [upd_ne z] at e; exact wd.same _ _ e
      · have z : a ≠ T := fun z => by
          obtain ⟨_, u, q, mu⟩ := wd.own a x
          rw [z, h5] at q; cases q; exact mu
        rw [upd_ne z]; exact wd.own a x
      · by_cases z : a = T
        · subst z; exact .inr (.inr (.inr ⟨_, h5⟩))
        · rw [upd_ne z] at x; exact .inl x
    · have e : F T = some (.tup vs) := by
        cases q : F T with
        | none => exact absurd q hF
        | some u => have := wd.same _ _ q; rw [h5] at this; cases this; rfl
      exact ⟨_, F, h1, Ext.refl wd, .tup e h7, fun _ _ e => e⟩
theorem FzK.at : ∀ {vs : List (Key × V)} {ds : List (Key × D)} {i : Nat} {F : Hp} {p : Key × V}, FzK K F vs ds → vs[i]? = some p → ∃ d, ds[i]? = some (p.1, d) ∧ okK p.1 = true
  | _, _, _, _, _, .nil, h => by simp at h
  | _, _, 0, _, _, .cons o _ _, h => by simp at h; subst h; exact ⟨_, rfl, o⟩
  | _, _, i + 1, _, _, .cons _ _ r, h => by
    obtain ⟨d, h1, h2⟩ := FzK.at (i := i) r (by simpa using h)
    exact ⟨d, by simpa using h1, h2⟩
theorem FzT.at : ∀ {vs : List (List Key × V)} {ds : List (List Key × D)} {i : Nat} {F : Hp} {p : List Key × V}, FzT K F vs ds → vs[i]? = some p → ∃ d, ds[i]? = some (p.1, d) ∧ okKs p.1 = true
  | _, _, _, _, _, .nil, h => by simp at h
  | _, _, 0, _, _, .cons o _ _, h => by simp at h; subst h; exact ⟨_, rfl, o⟩
  | _, _, i + 1, _, _, .cons _ _ r, h => by
    obtain ⟨d, h1, h2⟩ := FzT.at (i := i) r (by simpa using h)
    exact ⟨d, by simpa using h1, h2⟩
theorem iw_keys {F : Hp} {a : Addr} {o : Obj} {vs : List (Key × V)} {ds : List (Key × D)} (h : F a = some (.frz o (.dK vs))) (z : FzK K F vs ds) : IW K F (Itk a o vs) (ds.map fun kv => dKey kv.1) where
  goes := fun i H hi s => ⟨s _ _ h, by rw [List.length_map, ← z.len] at hi; exact hi⟩
  stops := fun H s => ⟨s _ _ h, by rw [List.length_map, z.len]; exact Nat.le_refl _⟩
  yields := fun i H x H' hi s y => by
    obtain ⟨e, k, v, e1, rfl⟩ := y
    obtain ⟨d, e2, e3⟩ := z.at e1
    exact ⟨dKey k, by rw [List.getElem?_map, e2]; rfl, .inl ⟨e, dKey_fz e3⟩⟩
theorem iw_keysT {F : Hp} {a : Addr} {o : Obj} {vs : List (List Key × V)} {ds : List (List Key × D)} (h : F a = some (.frz o (.dT vs))) (z : FzT K F vs ds) : IW K F (Itkt a o vs) (ds.map fun kv => .tup (kv.1.map dKey)) where
  goes := fun i H hi s => ⟨s _ _ h, by rw [List.length_map, ← z.len] at hi; exact hi⟩
  stops := fun H s => ⟨s _ _ h, by rw [List.length_map, z.len]; exact Nat.le_refl _⟩
  yields := fun i H x H' hi s y => by
    obtain ⟨e, k, v, q, e1, rfl, e4⟩ := y
    obtain ⟨d, e2, e3⟩ := z.at e1
    exact ⟨.tup (k.map dKey), by rw [List.getElem?_map, e2]; rfl, .inr (.inr ⟨q, _, _, rfl, e, e4, rfl, dKeys_fz e3⟩)⟩
theorem iw_list {F : Hp} {a : Addr} {vs : List V} {ds : List D} (h : SqL K F a vs) (z : FzL K F vs ds) : IW K F (Itl K a) ds where
  goes := fun i H hi s => by
    obtain ⟨v, h1, _⟩ := z.at (List.getElem?_eq_getElem hi)
    exact ⟨vs, v, SqL.up s h, h1⟩
  stops := fun H s => ⟨vs, SqL.up s h, by rw [z.len]; exact Nat.le_refl _⟩
  yields := fun i H x H' hi s y => by
    obtain ⟨v, h1, h2⟩ := z.at (List.getElem?_eq_getElem hi)
    obtain ⟨e, y⟩ := y
    have := y vs (SqL.up s h)
    rw [h1] at this; cases this
    exact ⟨_, List.getElem?_eq_getElem hi, .inl ⟨e, h2⟩⟩
theorem iw_tup {F : Hp} {a : Addr} {vs : List V} {ds : List D} (h : SqT K F a vs) (z : FzL K F vs ds) : IW K F (Itt K a) ds where
  goes := fun i H hi s => by
    obtain ⟨v, h1, _⟩ := z.at (List.getElem?_eq_getElem hi)
    exact ⟨vs, v, SqT.up s h, h1⟩
  stops := fun H s => ⟨vs, SqT.up s h, by rw [z.len]; exact Nat.le_refl _⟩
  yields := fun i H x H' hi s y => by
    obtain ⟨v, h1, h2⟩ := z.at (List.getElem?_eq_getElem hi)
    obtain ⟨e, y⟩ := y
    have := y vs (SqT.up s h)
    rw [h1] at this; cases this
    exact ⟨_, List.getElem?_eq_getElem hi, .inl ⟨e, h2⟩⟩
theorem enumD_at : ∀ (n : Nat) (xs : List D) (i : Nat) (x : D), xs[i]? = some x → (enumD n xs)[i]? = some (.tup [.int ((n + i : Nat) : Int), x])
  | _, [], _, _, h => by simp at h
  | n, y :: xs, 0, x, h => by simp at h; subst h; simp [enumD]
  | n, y :: xs, i + 1, x, h => by
    simp at h
    simp only [enumD, List.getElem?_cons_succ]
    rw [enumD_at (n + 1) xs i x h]
    have : n + 1 + i = n + (i + 1) := by omega
    rw [this]
theorem enumD_len : ∀ (n : Nat) (xs : List D), (enumD n xs).length = xs.length
  | _, [] => rfl
  | n, y :: xs => by simp [enumD, enumD_len (n + 1) xs]
theorem zipD_at : ∀ (xs ys : List D) (i : Nat) (x y : D), xs[i]? = some x → ys[i]? = some y → (zipD xs ys)[i]? = some (.tup [x, y])
  | [], _, _, _, _, h, _ => by simp at h
  | _ :: _, [], _, _, _, _, h => by simp at h
  | a :: xs, b :: ys, 0, x, y, h, h' => by simp at h h'; subst h h'; simp [zipD]
  | a :: xs, b :: ys, i + 1, x, y, h, h' => by
    simp at h h'
    simp only [zipD, List.getElem?_cons_succ]
    exact zipD_at xs ys i x y h h'
theorem zipD_len : ∀ (xs ys : List D), (zipD xs ys).length = min xs.length ys.length
  | [], _ => by simp [zipD]
  | _ :: _, [] => by simp [zipD]
  | a :: xs, b :: ys => by simp only [zipD, List.length_cons, zipD_len xs ys]; omega
theorem iw_enum {F : Hp} {a : Addr} {vs : List V} {ds : List D} (h : SqL K F a vs) (z : FzL K F vs ds) : IW K F (Ite K a) (enumD 0 ds) where
  goes := fun i H hi s => by
    rw [enumD_len] at hi
    obtain ⟨v, h1, _⟩ := z.at (List.getElem?_eq_getElem hi)
    exact ⟨vs, v, SqL.up s h, h1⟩
  stops := fun H s => ⟨vs, SqL.up s h, by rw [enumD_len, z.len]; exact Nat.le_refl _⟩
  yields := fun i H x H' hi s y => by
    rw [enumD_len] at hi
    obtain ⟨v, h1, h2⟩ := z.at (List.getElem?_eq_getElem hi)
    obtain ⟨T, u, h3, h4, h5, y⟩ := y
    have := y vs (SqL.up s h)
    rw [h1] at this; cases this
    refine ⟨_, enumD_at 0 ds i _ (List.getElem?_eq_getElem hi), .inr (.inl ⟨T, _, _, h3, h4, h5, rfl, .cons ?_ (.cons h2 .nil)⟩)⟩
    simpa using Fz.int (K := K) (F := F) (i : Int)
theorem iw_enumT {F : Hp} {a : Addr} {vs : List V} {ds : List D} (h : SqT K F a vs) (z : FzL K F vs ds) : IW K F (IteT K a) (enumD 0 ds) where
  goes := fun i H hi s => by
    rw [enumD_len] at hi
    obtain ⟨v, h1, _⟩ := z.at (List.getElem?_eq_getElem hi)
    exact ⟨vs, v, SqT.up s h, h1⟩
  stops := fun H s => ⟨vs, SqT.up s h, by rw [enumD_len, z.len]; exact Nat.le_refl _⟩
  yields := fun i H x H' hi s y => by
    rw [enumD_len] at hi
    obtain ⟨v, h1, h2⟩ := z.at (List.getElem?_eq_getElem hi)
    obtain ⟨T, u, h3, h4, h5, y⟩ := y
    have := y vs (SqT.up s h)
    rw [h1] at this; cases this
    refine ⟨_, enumD_at 0 ds i _ (List.getElem?_eq_getElem hi), .inr (.inl ⟨T, _, _, h3, h4, h5, rfl, .cons ?_ (.cons h2 .nil)⟩)⟩
    simpa using Fz.int (K := K) (F := F) (i : Int)
theorem okCs_at {l : List Nat} {c i : Nat} (h : okCs l = true) (e : l[i]? = some c) : okCs [c] = true :=
  okCs_sub h fun x hx => by simp at hx; rw [hx]; exact List.mem_of_getElem? e
theorem iw_str {F : Hp} {l : List Nat} (h : okCs l = true) : IW K F (Its ⟨l.toArray⟩) (l.map fun c => .str [c]) where
  goes := fun i H hi s => by show i < l.toArray.size; simpa using hi
  stops := fun H s => by show l.toArray.size ≤ _; simp
  yields := fun i H x H' hi s y => by
    obtain ⟨e, c, h1, h2⟩ := y
    have h1 : l[i]? = some c := by simpa using h1
    exact ⟨.str [c], by simp [h1], .inl ⟨e, h2 ▸ Fz.str [c] (okCs_at h h1)⟩⟩
theorem iw_enumS {F : Hp} {l : List Nat} (h : okCs l = true) : IW K F (IteS ⟨l.toArray⟩) (enumD 0 (l.map fun c => .str [c])) where
  goes := fun i H hi s => by rw [enumD_len] at hi; show i < l.toArray.size; simpa using hi
  stops := fun H s => by rw [enumD_len]; show l.toArray.size ≤ _; simp
  yields := fun i H x H' hi s y => by
    obtain ⟨T, c, h3, h4, h5, h1⟩ := y
    have h1 : l[i]? = some c := by simpa using h1
    refine ⟨_, enumD_at 0 _ i (.str [c]) (by simp [h1]), .inr (.inl ⟨T, _, _, h3, h4, h5, rfl, .cons ?_ (.cons (Fz.str [c] (okCs_at h h1)) .nil)⟩)⟩
    simpa using Fz.int (K := K) (F := F) (i : Int)
theorem iw_rng {F : Hp} {lo hi : Int} : IW K F (Itr lo (hi - lo).toNat) (rngO lo hi) where
  goes := fun i H h s => by rw [rngO_len] at h; exact h
  stops := fun H s => by rw [rngO_len]; exact Nat.le_refl _
  yields := fun i H x H' h s y => by
    rw [rngO_len] at h
    obtain ⟨e, y⟩ := y
    refine ⟨.int (lo + (i : Nat)), by unfold rngO; simp [h], .inl ⟨e, y ▸ Fz.int _⟩⟩
theorem iw_rngC {F : Hp} {i0 : Int} {n : Nat} : IW K F (Itc i0 (-1) n) ((List.range n).map fun k => .int (i0 - (k : Nat))) where
  goes := fun i H h s => by show i < n; simpa using h
  stops := fun H s => by show n ≤ _; simp
  yields := fun i H x H' h s y => by
    obtain ⟨e, y⟩ := y
    have h : i < n := by simpa using h
    refine ⟨.int (i0 - (i : Nat)), by simp [h], .inl ⟨e, ?_⟩⟩
    have e1 : i0 + (i : Nat) * (-1) = i0 - (i : Nat) := by omega
    rw [y, e1]; exact Fz.int _
theorem iw_zip {F : Hp} {a b : Addr} {vs ws : List V} {ds es : List D} (h : SqL K F a vs) (z : FzL K F vs ds) (h' : SqL K F b ws) (z' : FzL K F ws es) : IW K F (Itz K a b) (zipD ds es) where
  goes := fun i H hi s => by
    rw [zipD_len] at hi
    obtain ⟨v, h1, _⟩ := z.at (List.getElem?_eq_getElem (show i < ds.length by omega))
    obtain ⟨v', h1', _⟩ := z'.at (List.getElem?_eq_getElem (show i < es.length by omega))
    exact ⟨vs, ws, v, v', SqL.up s h, SqL.up s h', h1, h1'⟩
  stops := fun H s => ⟨vs, ws, SqL.up s h, SqL.up s h', by rw [zipD_len, z.len, z'.len]; omega⟩
  yields := fun i H x H' hi s y => by
    rw [zipD_len] at hi
    obtain ⟨v, h1, h2⟩ := z.at (List.getElem?_eq_getElem (show i < ds.length by omega))
    obtain ⟨v', h1', h2'⟩ := z'.at (List.getElem?_eq_getElem (show i < es.length by omega))
    obtain ⟨T, u, u', h3, h4, h5, y, y'⟩ := y
    have := y vs (SqL.up s h)
    rw [h1] at this; cases this
    have := y' ws (SqL.up s h')
    rw [h1'] at this; cases this
    exact ⟨_, zipD_at ds es i _ _ (List.getElem?_eq_getElem _) (List.getElem?_eq_getElem _), .inr (.inl ⟨T, _, _, h3, h4, h5, rfl, .cons h2 (.cons h2' .nil)⟩)⟩

/-! ### iterables -/
def PostI (K : PySem.W.Frag) (mg : Str → Option Value) (W : WX) (F H : Hp) (A : AS) (σ : SG) (k : ItK) (r : R (List D)) (Rr : It → Hp → Prop) : Prop := match r with
  | .ok ds ρ1 => canL ds = true ∧ ∃ xs, itD k (frzL ds) = some xs ∧ ∀ J F' H' A', Ext F H A F' H' A' → Slots K mg F' H' σ ρ1 A' → IW K F' J xs → Rr J H'
  | .err x ρ' => PX K mg W F H A σ x ρ'
  | .bad => False
def tI (K : PySem.W.Frag) (mg : Str → Option Value) (call : CallT) (W : WX) (k : ItK) (es : List E) : TI := fun σ H Rr => ∃ F A ρ, Wd F H A ∧ Slots K mg F H σ ρ A ∧ PostI K mg W F H A σ k (evC call es ρ) Rr
theorem evC_len : ∀ {es : List E} {ρ ρ' : Env'} {ds : List D}, evC call es ρ = .ok ds ρ' → ds.length = es.length
  | [], ρ, ρ', ds, h => by simp only [evC, R.ok.injEq] at h; rw [← h.1]; rfl
  | e :: es, ρ, ρ', ds, h => by
    simp only [evC] at h
    cases h1 : ev call e ρ with
    | bad => simp [h1, R.bind] at h
    | err x r => simp [h1, R.bind] at h
    | ok d r =>
      simp only [h1, R.bind] at h
      cases h2 : evC call es r with
      | bad => simp [h2] at h
      | err x r' => simp [h2] at h
      | ok ds' r' =>
        simp only [h2] at h
        split at h
        · simp only [R.ok.injEq] at h
          rw [← h.1, List.length_cons, evC_len h2, List.length_cons]
        · cases h
theorem frzL_len : ∀ (ds : List D), (frzL ds).length = ds.length
  | [] => rfl
  | d :: ds => by simp [frzL, frzL_len ds]
theorem pre_it {k : ItK} {es : List E} {σ : SG} {H : Hp} {Rr : It → Hp → Prop} {G : List V → Hp → Prop} (h : tI K mg call W k es σ H Rr)
    (g : ∀ vs F1 H1 ds xs, ds.length = es.length → Same F1 H1 → FzL K F1 vs ds → itD k ds = some xs → (∀ J, IW K F1 J xs → Rr J H1) → G vs H1) : tCs K mg call W es σ H G := by
  obtain ⟨F, A, ρ, w, s, p⟩ := h
  refine seqC es w s ?_
  cases hr : evC call es ρ with
  | bad => rw [hr] at p; exact p
  | err x ρ' => rw [hr] at p; exact p
  | ok ds ρ1 =>
    rw [hr] at p
    obtain ⟨hc, xs, hx, p⟩ := p
    intro vs F' H' A' B ex s' ol dj q
    have w' : Wd F' H' (cup B A') := by rw [cup_comm]; exact ex.wd
    have e2 := froz_ext w' dj.symm
    have fz : FzL K (froz F' H' B) vs (frzL ds) := OwnL.froze (froz_same (w'.sub Sb.l)) (fun a h => froz_in h) hc ol
    refine g vs (froz F' H' B) H' _ xs (by rw [frzL_len]; exact evC_len hr) e2.wd.same fz hx fun J iw => ?_
    refine p J _ H' A' (ex.trans w (by rw [cup_comm]; exact e2)) (Slots.move e2.fsame s' fun a o _ e => e) iw
theorem FzL.one {F : Hp} {v : V} {ds : List D} (h : FzL K F [v] ds) : ∃ d, ds = [d] ∧ Fz K F v d := by
  cases h with
  | cons a b => cases b; exact ⟨_, rfl, a⟩
theorem FzL.intsV {F : Hp} : ∀ (ns : List Int), FzL K F (ns.map V.int) (ns.map .int)
  | [] => .nil
  | n :: r => .cons (.int n) (FzL.intsV r)
theorem PI.weak {X : Cx} {tg e : Expr} {t t' : TI} (h : PI X tg e t) (hw : ∀ σ H Q, t' σ H Q → t σ H Q) : PI X tg e t' := ⟨fun pins s σ H Q I q => h.run pins s σ H Q I (hw σ H Q q)⟩
end
section
variable {X : Cx} {mg : Str → Option Value} {call : CallT} {W : WX} {tg : Expr} {pins : List (Addr × Obj)} {σ : SG} {H : Hp} {s : Shared} {Rr : It → Hp → Prop}
theorem iter_list {a : Addr} {xs : List V} (I : Inv X pins σ H s) (hq : SqL X.K H a xs) (q : Rr (Itl X.K a) H) : wpAny (model X.prog X.w) X.A (pyIter (.ref a)) (PIE X pins σ tg Rr) X.xe s := by
  obtain ⟨its, rv, p, hz⟩ := I.list hq
  exact wpAny_pyIter_list p.isList (pi_one (tk := s.toks) I _ (turn_list a _) ⟨_, Heap.get?_push_size _ rfl, rfl, rfl⟩ q)
theorem iter_tup {a : Addr} {xs : List V} (I : Inv X pins σ H s) (hq : SqT X.K H a xs) (q : Rr (Itt X.K a) H) : wpAny (model X.prog X.w) X.A (pyIter (.ref a)) (PIE X pins σ tg Rr) X.xe s := by
  obtain ⟨its, rv, p, hz⟩ := I.tuple hq
  exact wpAny_pyIter_tuple (show s.heap.IsTuple a its.toArray from p) (pi_one (tk := s.toks) I _ (turn_tuple a _) ⟨_, Heap.get?_push_size _ rfl, rfl, rfl⟩ q)
theorem iter_str {x : Str} {t : Tok} (I : Inv X pins σ H s) (q : Rr (Its x) H) : wpAny (model X.prog X.w) X.A (pyIter (.str x t)) (PIE X pins σ tg Rr) X.xe s := by
  cases ha : x.cps.all (· < 128)
  · exact wpAny_pyIter_wide ha (pi_one (tk := s.toks) I _ (turn_str _ x t "str_iterator" (.inr rfl)) ⟨_, Heap.get?_push_size _ rfl, rfl, rfl⟩ q)
  · exact wpAny_pyIter_ascii ha (pi_one (tk := s.toks) I _ (turn_str _ x t "str_ascii_iterator" (.inl rfl)) ⟨_, Heap.get?_push_size _ rfl, rfl, rfl⟩ q)
/-- the thing itself -/
theorem pi_seqE {e : E} {a : Expr} (he : PE X a (tE X.K mg call e W)) : PI X tg a (tI X.K mg call W .seq [e]) := by
  refine ⟨fun pins s σ H Rr I h => ?_⟩
  have h1 := pre_it (es := [e]) (G := fun vs H1 => ∃ x, vs = [x] ∧ ∃ F1 d xs, Same F1 H1 ∧ Fz X.K F1 x d ∧ walkD d = some xs ∧ ∀ J, IW X.K F1 J xs → Rr J H1) h fun vs F1 H1 ds xs _ sm fz hx q => by
    unfold itD at hx
    split at hx <;> first | contradiction | skip
    cases fz with
    | cons a b => cases b; exact ⟨_, rfl, F1, _, xs, sm, a, hx, q⟩
  refine thn (he.run pins s σ H _ I h1) fun v s1 ⟨x, H1, I1, r1, x', ex, F1, d, xs, sm, fz, hx, q⟩ => ?_
  cases ex
  cases fz with
  | str l ok =>
    obtain ⟨t, rfl⟩ := r1
    simp only [walkD, Option.some.injEq] at hx
    subst hx
    exact iter_str I1 (q _ (iw_str ok))
  | tup h r =>
    cases r1
    simp only [walkD, Option.some.injEq] at hx
    subst hx
    exact iter_tup I1 (SqT.of (sm _ _ h)) (q _ (iw_tup (SqT.of h) r))
  | lst h r =>
    cases r1
    simp only [walkD, Option.some.injEq] at hx
    subst hx
    exact iter_list I1 (SqL.up sm (SqL.of h)) (q _ (iw_list (SqL.of h) r))
  | scr h =>
    cases r1
    simp only [walkD, Option.some.injEq] at hx
    subst hx
    refine iter_list I1 (SqL.up sm h) (q _ (iw_list h ?_))
    exact FzL.intsV _
  | _ => simp [walkD] at hx
/-- a dict, by its keys -/
theorem pi_dkE {e : E} {a : Expr} (he : PE X a (tE X.K mg call e W)) : PI X tg a (tI X.K mg call W .dk [e]) := by
  refine ⟨fun pins s σ H Rr I h => ?_⟩
  have h1 := pre_it (es := [e]) (G := fun vs H1 => ∃ x, vs = [x] ∧ ∃ F1 d xs, Same F1 H1 ∧ Fz X.K F1 x d ∧ walkK d = some xs ∧ ∀ J, IW X.K F1 J xs → Rr J H1) h fun vs F1 H1 ds xs _ sm fz hx q => by
    unfold itD at hx
    split at hx <;> first | contradiction | skip
    cases fz with
    | cons a b => cases b; exact ⟨_, rfl, F1, _, xs, sm, a, hx, q⟩
  refine thn (he.run pins s σ H _ I h1) fun v s1 ⟨x, H1, I1, r1, x', ex, F1, d, xs, sm, fz, hx, q⟩ => ?_
  cases ex
  cases fz with
  | dic h r =>
    cases r1
    simp only [walkK, Option.some.injEq] at hx
    subst hx
    obtain ⟨hs, hgd, hx, es, ep, vs, hdt, hsz, kv, hm⟩ := I1.frzK (sm _ _ h)
    refine iter_keys hs hgd hx hdt (pi_one (tk := s1.toks) I1 _ (turn_keys _ hdt) ⟨_, Heap.get?_push_size _ rfl, rfl, ?_⟩ (q _ (iw_keys h r)))
    rw [hsz] <;> rfl
  | dit h r =>
    cases r1
    simp only [walkK, Option.some.injEq] at hx
    subst hx
    obtain ⟨hs, hgd, hx, es, ep, hdt, hsz, ent⟩ := I1.frzT (sm _ _ h)
    refine iter_keys hs hgd hx hdt (pi_one (tk := s1.toks) I1 _ (turn_keysT _ hdt) ⟨_, Heap.get?_push_size _ rfl, rfl, ?_⟩ (q _ (iw_keysT h r)))
    rw [hsz] <;> rfl
  | _ => simp [walkK] at hx
theorem pi_rng1E {e : E} {p pos : Pos} {a : Expr} (hg : Gl X "range") (hm : X.mg "range" = none) (h : PEs X (fun e => tE X.K mg call e W) [e] [a]) :
    PI X tg (.Call (.Name "range" p) [a] [] pos) (tI X.K mg call W .rng [e]) := by
  refine PI.weak (pi_range1 hg hm h.paC (starEach_cons h.1 [] X.env)) fun σ H Rr h' => ?_
  refine pre_it h' fun vs F1 H1 ds xs hl sm fz hx q => ?_
  match ds, hl, fz with
  | [d], _, .cons f .nil =>
    cases d with
    | int j =>
      simp only [itD, rngs] at hx
      split at hx
      · rename_i h1
        obtain ⟨h1, h2⟩ := in62_of h1
        cases hx
        cases f
        refine ⟨j, rfl, h1, h2, ?_⟩
        have := q (Itr 0 (j - 0).toNat) iw_rng
        simpa using this
      · cases hx
    | _ => simp [itD, rngs] at hx
theorem pi_rng2E {e f : E} {p pos : Pos} {a b : Expr} (hg : Gl X "range") (hm : X.mg "range" = none) (h : PEs X (fun e => tE X.K mg call e W) [e, f] [a, b]) :
    PI X tg (.Call (.Name "range" p) [a, b] [] pos) (tI X.K mg call W .rng [e, f]) := by
  refine PI.weak (pi_range2 hg hm h.paC (by rw [starEach_cons h.1, starEach_cons h.2.2.1]; rfl) (starEach_cons h.2.2.1 [] X.env)) fun σ H Rr h' => ?_
  refine pre_it h' fun vs F1 H1 ds xs hl sm fz hx q => ?_
  match ds, hl, fz with
  | [d, d'], _, .cons f (.cons f' .nil) =>
    cases d with
    | int i =>
      cases d' with
      | int j =>
        simp only [itD, rngs] at hx
        split at hx
        · rename_i h1
          simp only [Bool.and_eq_true] at h1
          obtain ⟨h1, h2⟩ := h1
          obtain ⟨h1, h1'⟩ := in62_of h1
          obtain ⟨h2, h2'⟩ := in62_of h2
          cases hx
          cases f
          cases f'
          exact ⟨i, j, rfl, ⟨h1, h1', h2, h2'⟩, q _ iw_rng⟩
        · cases hx
      | _ => simp [itD, rngs] at hx
    | _ => simp [itD, rngs] at hx
theorem pi_rng3E {e f g : E} {p pos : Pos} {a b c : Expr} (hg : Gl X "range") (hm : X.mg "range" = none) (h : PEs X (fun e => tE X.K mg call e W) [e, f, g] [a, b, c]) :
    PI X tg (.Call (.Name "range" p) [a, b, c] [] pos) (tI X.K mg call W .rng [e, f, g]) := by
  have hb : ([b, c].all noStar) = true := by simp [h.2.2.1, h.2.2.2.2.1]
  refine PI.weak (pi_range3 hg hm h.paC (starEach_cons h.1 [b, c] X.env) (back_none hb)) fun σ H Rr h' => ?_
  refine pre_it h' fun vs F1 H1 ds xs hl sm fz hx q => ?_
  match ds, hl, fz with
  | [d, d', d''], _, .cons f (.cons f' (.cons f'' .nil)) =>
    simp only [itD] at hx
    unfold rngs at hx
    split at hx
    · rename_i h; cases h
    · rename_i h; cases h
    · rename_i i j h
      cases h
      split at hx
      · rename_i h1
        simp only [Bool.and_eq_true] at h1
        obtain ⟨h1, h2⟩ := h1
        obtain ⟨h1, h1'⟩ := in62_of h1
        obtain ⟨h2, h2'⟩ := in62_of h2
        cases hx
        cases f
        cases f'
        cases f''
        exact ⟨i, j, -1, _, rfl, RgC.neg h1 h1' h2 h2', q _ iw_rngC⟩
      · cases hx
    · cases hx
/-- enumerate -/
theorem pi_enumE {e : E} {p pos tpos : Pos} {a : Expr} {elts : List Expr} {kk : Nat} (hg : Gl X "enumerate") (hm : X.mg "enumerate" = none) (h : PEs X (fun e => tE X.K mg call e W) [e] [a]) :
    PI X (.Tuple elts kk tpos) (.Call (.Name "enumerate" p) [a] [] pos) (tI X.K mg call W .enum [e]) := by
  refine ⟨fun pins s σ H Rr I h' => ?_⟩
  have h1 := pre_it (es := [e]) (G := fun vs H1 => ∃ x, vs = [x] ∧ ∃ F1 d xs, Same F1 H1 ∧ Fz X.K F1 x d ∧ itD .enum [d] = some xs ∧ ∀ J, IW X.K F1 J xs → Rr J H1) h' fun vs F1 H1 ds xs hl sm fz hx q => by
    match ds, hl, fz with
    | [d], _, .cons f .nil => exact ⟨_, rfl, F1, _, xs, sm, f, hx, q⟩
  refine Call_ (ld_blt I hg hm boot_enumerate (PyProof.Rows.callWith_type1 (thn (h.paC.run pos pins s σ H _ I h1) fun us s1 ⟨vs, H1, I1, r1, x, ex, F1, d, xs, sm, fz, hx, q⟩ => ?_) (starEach_cons h.1 [] X.env) rfl))
  subst ex
  have done : ∀ {J : It} {h' : Heap} {tn : Nat → Heap → Prop}, IsEnum h' (s1.heap.objs.size + 1) s1.heap.objs.size 0 .none → (∀ b o, s1.heap.get? b = some o → h'.get? b = some o) → Turn X.prog X.w X.K (.Tuple elts kk tpos) J [s1.heap.objs.size + 1, s1.heap.objs.size] (s1.heap.objs.size + 1) tn → tn 0 h' → Rr J H1 →
      wpAny (model X.prog X.w) X.A (pyIter (.ref (s1.heap.objs.size + 1))) (PIE X pins σ (.Tuple elts kk tpos) Rr) X.xe { s1 with heap := h' } := fun {J h' tn} he hk T st q => by
    refine wpAny_pyIter_enum he ?_
    have I2 : Inv X pins σ H1 { s1 with heap := h' } := I1.kept (t' := s1.toks) hk
    refine ⟨s1.heap.objs.size + 1, [s1.heap.objs.size + 1, s1.heap.objs.size], tn, J, H1, rfl, I2, T, st, fun b hb => ?_, q⟩
    have e' : b = s1.heap.objs.size + 1 ∨ b = s1.heap.objs.size := by simpa using hb
    have hle : s1.heap.objs.size ≤ b := by
      rcases e' with z | z
      · rw [z]; exact Nat.le_add_right _ _
      · rw [z]; exact Nat.le_refl _
    exact I1.fpOk hle (I1.hok.fresh hle)
  simp only [itD, Option.map_eq_some_iff] at hx
  obtain ⟨ys, hy, rfl⟩ := hx
  have onL : ∀ {a : Addr} {vs : List V}, SqL X.K F1 a vs → FzL X.K F1 vs ys → Rr (Ite X.K a) H1 → wpAny (model X.prog X.w) X.A (PySem.call (Value.type "enumerate") [Value.ref a]) (fun v s2 => wpAny (model X.prog X.w) X.A (pyIter v) (PIE X pins σ (.Tuple elts kk tpos) Rr) X.xe s2) X.xe s1 := fun {a vs} hq z q => by
    obtain ⟨its, rv, p', hz⟩ := I1.list (SqL.up sm hq)
    exact call_enumerate_list p'.isList fun h' he hit hsz hk => done he hk (turn_enum a _ _) ⟨⟨.none, he⟩, hit, Nat.succ_ne_self _⟩ q
  cases r1 with
  | cons r rr =>
    cases rr
    cases fz with
    | lst h r' =>
      cases r
      simp only [walkD, Option.some.injEq] at hy
      subst hy
      exact onL (SqL.of h) r' (q _ (iw_enum (SqL.of h) r'))
    | scr h =>
      cases r
      simp only [walkD, Option.some.injEq] at hy
      subst hy
      exact onL h (FzL.intsV _) (q _ (iw_enum h (FzL.intsV _)))
    | tup h r' =>
      cases r
      simp only [walkD, Option.some.injEq] at hy
      subst hy
      obtain ⟨its, rv, p', hz⟩ := I1.tuple (SqT.of (sm _ _ h))
      exact VI_enum_call (begins_tuple _ its.toArray) p' fun h' he ho hsz hk => done he hk (turn_enumT _ _ _) ⟨⟨.none, he⟩, ⟨_, ho, rfl, rfl⟩, Nat.succ_ne_self _⟩ (q _ (iw_enumT (SqT.of h) r'))
    | str l ok =>
      obtain ⟨t, rfl⟩ := r
      simp only [walkD, Option.some.injEq] at hy
      subst hy
      exact VI_enum_call (begins_text _ t) trivial fun h' he ho hsz hk => done he hk (turn_enumS _ _ _ _) ⟨⟨.none, he⟩, ⟨_, ho, rfl, rfl⟩, Nat.succ_ne_self _⟩ (q _ (iw_enumS ok))
    | _ => simp [walkD] at hy
theorem pi_zipE {e f : E} {p pos tpos : Pos} {a b : Expr} {elts : List Expr} {kk : Nat} (hg : Gl X "zip") (hm : X.mg "zip" = none) (h : PEs X (fun e => tE X.K mg call e W) [e, f] [a, b]) :
    PI X (.Tuple elts kk tpos) (.Call (.Name "zip" p) [a, b] [] pos) (tI X.K mg call W .zip [e, f]) := by
  have hb : ([b].all noStar) = true := by simp [h.2.2.1]
  refine PI.weak (pi_zip hg hm h.paC (starEach_cons h.1 [b] X.env) (back_none hb)) fun σ H Rr h' => ?_
  refine pre_it h' fun vs F1 H1 ds xs hl sm fz hx q => ?_
  match ds, hl, fz with
  | [d, d'], _, .cons f (.cons f' .nil) =>
    unfold itD at hx
    split at hx <;> first | contradiction | skip
    rename_i heq
    cases heq
    cases hx
    cases f with
    | lst h r =>
      cases f' with
      | lst h' r' =>
        exact ⟨_, _, _, _, rfl, SqL.up sm (SqL.of h), SqL.up sm (SqL.of h'), q _ (iw_zip (SqL.of h) r (SqL.of h') r')⟩
end
end VI

namespace VI
variable [Tn]
open PySem PySem.Spec PyProof.Rows L2
/-- slots that stay -/
def SK (pr : Nat → Bool) (σ σ' : SG) : Prop := ∀ i, pr i = true → σ'[i]? = σ[i]?
theorem SK.refl {pr : Nat → Bool} {σ : SG} : SK pr σ σ := fun _ _ => rfl
theorem SK.trans {pr : Nat → Bool} {σ σ1 σ2 : SG} (a : SK pr σ σ1) (b : SK pr σ1 σ2) : SK pr σ σ2 := fun i h => (b i h).trans (a i h)
theorem SK.set {pr : Nat → Bool} {σ : SG} {i : Nat} {u : Option V} (h : pr i = false) : SK pr σ (σ.set i u) := fun j hj => by
  have : i ≠ j := fun e => by rw [e, hj] at h; cases h
  exact List.getElem?_set_ne this
def gT (K : PySem.W.Frag) (mg : Str → Option Value) (pr : Nat → Bool) (t : T) : TG := fun v σ H Q => ∃ F A B ρ d ρ', Wd F H (cup A B) ∧ Slots K mg F H σ ρ A ∧ Own K mg F H v d B ∧ Dj A B ∧ t.put d ρ = some ρ' ∧
  ∀ σ' A', Sb A' (cup A B) → Slots K mg F H σ' ρ' A' → SK pr σ σ' → Q σ' H
def gTs (K : PySem.W.Frag) (mg : Str → Option Value) (pr : Nat → Bool) (ts : List T) : TGs := fun vs σ H Q => ∃ F A B ρ ds ρ', Wd F H (cup A B) ∧ Slots K mg F H σ ρ A ∧ OwnL K mg F H vs ds B ∧ Dj A B ∧ putL ts ds ρ = some ρ' ∧
  ∀ σ' A', Sb A' (cup A B) → Slots K mg F H σ' ρ' A' → SK pr σ σ' → Q σ' H
section
variable {X : Cx} {mg : Str → Option Value} {call : CallT} {W : WX} {pr : Nat → Bool}
theorem PG.weak {e : Expr} {t t' : TG} (h : PG X e t) (hw : ∀ v σ H Q, t' v σ H Q → t v σ H Q) : PG X e t' := ⟨fun pins s σ H v u Q I r q => h.run pins s σ H v u Q I r (hw v σ H Q q)⟩
theorem PGs.weak {e : List Expr} {t t' : TGs} (h : PGs X e t) (hw : ∀ v σ H Q, t' v σ H Q → t v σ H Q) : PGs X e t' := ⟨fun pins s σ H v u Q I r q => h.run pins s σ H v u Q I r (hw v σ H Q q)⟩
theorem PG.or {e : Expr} {t t' : TG} (h : PG X e t) (h' : PG X e t') : PG X e (fun v σ H Q => t v σ H Q ∨ t' v σ H Q) :=
  ⟨fun pins s σ H v u Q I r q => q.elim (h.run pins s σ H v u Q I r) (h'.run pins s σ H v u Q I r)⟩
theorem pgT_slot {i : Nat} {e : Expr} (hp : pr i = false) (h : PG X e (gName i)) : PG X e (gT X.K mg pr (.slot i)) := by
  refine PG.weak h fun v σ H Q h => ?_
  obtain ⟨F, A, B, ρ, d, ρ', w, s, o, dj, hput, q⟩ := h
  simp only [T.put] at hput
  split at hput
  · rename_i hi
    cases hput
    refine q _ (cup B A) (by rw [cup_comm]; exact Sb.rfl') (Slots.put o s dj.symm ?_) (SK.set hp)
    rw [List.getElem?_eq_getElem (by rw [s.length]; exact hi)]; rfl
  · cases hput
theorem pgT_tup {ts : List T} {es : List Expr} {k : Nat} {pos : Pos} (hc : X.calm = true) (h : PGs X es (gTs X.K mg pr ts)) (hn : (assignEach es X.env).length = ts.length) (hst : (assignEach es X.env).findIdx? (·.1) = none) :
    PG X (.Tuple es k pos) (gT X.K mg pr (.tup ts)) := by
  refine PG.weak (PG.or (pg_tup hc h hn hst) (pg_lst hc h hn hst)) fun v σ H Q h => ?_
  obtain ⟨F, A, B, ρ, d, ρ', w, s, o, dj, hput, q⟩ := h
  have len : ∀ {ts : List T} {xs : List D} {ρ ρ' : Env'}, putL ts xs ρ = some ρ' → xs.length = ts.length := by
    intro ts
    induction ts with
    | nil => intro xs ρ ρ' h; cases xs with | nil => rfl | cons _ _ => simp [putL] at h
    | cons t ts ih =>
      intro xs ρ ρ' h
      cases xs with
      | nil => simp [putL] at h
      | cons x xs =>
        simp only [putL, Option.bind_eq_some_iff] at h
        obtain ⟨ρ1, _, h⟩ := h
        rw [List.length_cons, List.length_cons, ih h]
  cases d with
  | tup xs =>
    simp only [T.put] at hput
    obtain ⟨a, vs, rfl, hq, _, fz⟩ := o.tupv (w.sub Sb.l).same
    refine .inl ⟨a, vs, rfl, hq, by rw [fz.len, len hput], F, A, no, ρ, xs, ρ', w.sub (fun z x => x.elim .inl fun y => y.elim), s, fz.own, Dj.no_r, hput, fun σ' A' sb s' sk => q σ' A' (fun z x => (sb z x).elim .inl fun y => y.elim) s' sk⟩
  | lst m xs =>
    simp only [T.put] at hput
    obtain ⟨a, vs, rfl, hq, ol⟩ := o.lstv (w.sub Sb.l).same
    exact .inr ⟨a, vs, rfl, SqL.of hq, by rw [ol.len, len hput], F, A, B, ρ, xs, ρ', w, s, ol, dj, hput, q⟩
  | _ => simp [T.put] at hput
theorem pgTs_nil : PGs X [] (gTs X.K mg pr []) := by
  refine PGs.weak pgs_nil fun vs σ H Q h => ?_
  obtain ⟨F, A, B, ρ, ds, ρ', w, s, o, dj, hput, q⟩ := h
  cases ds with
  | nil =>
    simp only [putL, Option.some.injEq] at hput
    subst hput
    cases o
    exact ⟨rfl, q σ A Sb.l s SK.refl⟩
  | cons _ _ => simp [putL] at hput
theorem pgTs_cons {t : T} {ts : List T} {e : Expr} {es : List Expr} (h1 : PG X e (gT X.K mg pr t)) (h2 : PGs X es (gTs X.K mg pr ts)) (hs : (assignEach (e :: es) X.env).map (·.2) = assign e X.env :: (assignEach es X.env).map (·.2)) :
    PGs X (e :: es) (gTs X.K mg pr (t :: ts)) := by
  refine PGs.weak (pgs_cons h1 h2 hs) fun vs σ H Q h => ?_
  obtain ⟨F, A, B, ρ, ds, ρ', w, s, o, dj, hput, q⟩ := h
  cases o with
  | nil => simp [putL] at hput
  | cons o1 o2 d12 s1 s2 =>
    rename_i v d vs ds A1 A2
    simp only [putL, Option.bind_eq_some_iff] at hput
    obtain ⟨ρ1, p1, p2⟩ := hput
    refine ⟨v, vs, rfl, F, A, A1, ρ, d, ρ1, w.sub (fun z x => x.imp id (s1 z)), s, o1, fun z x y => dj z x (s1 z y), p1, fun σ1 C sb1 sl1 sk1 => ?_⟩
    refine ⟨F, C, A2, ρ1, ds, ρ', w.sub (fun z x => x.elim (fun x => (sb1 z x).imp id (s1 z)) fun y => .inr (s2 z y)), sl1, o2, fun z x y => (sb1 z x).elim (fun x => dj z x (s2 z y)) fun x => d12 z x y, p2, fun σ2 C2 sb2 sl2 sk2 => ?_⟩
    exact q σ2 C2 (fun z x => (sb2 z x).elim (fun x => (sb1 z x).imp id (s1 z)) fun y => .inr (s2 z y)) sl2 (sk1.trans sk2)

/-! ### statements -/
def PostS (K : PySem.W.Frag) (mg : Str → Option Value) (W : WX) (pr : Nat → Bool) (F H : Hp) (A : AS) (σ : SG) (r : SR) (D : Ends) : Prop := match r with
  | .nx ρ' => ∀ σ' F' H' A', Ext F H A F' H' A' → Slots K mg F' H' σ' ρ' A' → SK pr σ σ' → D.nx σ' H'
  | .brk ρ' => ∀ σ' F' H' A', Ext F H A F' H' A' → Slots K mg F' H' σ' ρ' A' → SK pr σ σ' → D.bk σ' H'
  | .cont ρ' => ∀ σ' F' H' A', Ext F H A F' H' A' → Slots K mg F' H' σ' ρ' A' → SK pr σ σ' → D.ct σ' H'
  | .ret d ρ' => ∀ v σ' F' H' A' B, Ext F H A F' H' (cup A' B) → Slots K mg F' H' σ' ρ' A' → SK pr σ σ' → Own K mg F' H' v d B → Dj A' B → D.rt v H'
  | .err x ρ' => ∀ σ', SK pr σ σ' → PX K mg W F H A σ' x ρ'
  | .bad => False
def tS (K : PySem.W.Frag) (mg : Str → Option Value) (W : WX) (pr : Nat → Bool) (run : Env' → SR) : TS := fun D σ H => ∃ F A ρ, Wd F H A ∧ Slots K mg F H σ ρ A ∧ PostS K mg W pr F H A σ (run ρ) D
theorem PostS.pre {K : PySem.W.Frag} {F H F1 H1 : Hp} {A A1 : AS} {σ σ1 : SG} {r : SR} {D : Ends} (w : Wd F H A) (e : Ext F H A F1 H1 A1) (k : SK pr σ σ1) (p : PostS K mg W pr F H A σ r D) : PostS K mg W pr F1 H1 A1 σ1 r D := by
  cases r with
  | nx ρ' => exact fun σ' F' H' A' x s y => p σ' F' H' A' (e.trans w x) s (k.trans y)
  | brk ρ' => exact fun σ' F' H' A' x s y => p σ' F' H' A' (e.trans w x) s (k.trans y)
  | cont ρ' => exact fun σ' F' H' A' x s y => p σ' F' H' A' (e.trans w x) s (k.trans y)
  | ret d ρ' => exact fun v σ' F' H' A' B x s y => p v σ' F' H' A' B (e.trans w x) s (k.trans y)
  | err z ρ' => exact fun σ' y => (p σ' (k.trans y)).trans w e
  | bad => exact p
theorem PS.weak {e : Stmt} {t t' : TS} (h : PS X e t) (hw : ∀ D σ H, t' D σ H → t D σ H) : PS X e t' := ⟨fun pins s σ H D I q => h.run pins s σ H D I (hw D σ H q)⟩
theorem PSs.weak {e : List Stmt} {t t' : TS} (h : PSs X e t) (hw : ∀ D σ H, t' D σ H → t D σ H) : PSs X e t' := ⟨fun pins s σ H D I q => h.run pins s σ H D I (hw D σ H q)⟩
/-- from a statement's run to an expression's -/
theorem preE {K : PySem.W.Frag} {e : E} {g : D → Env' → SR} {Dn : Ends} {σ : SG} {H : Hp} {Q : VK} (h : tS K mg W pr (fun ρ => (ev call e ρ).sbind g) Dn σ H)
    (hq : ∀ F A ρ d ρ1 v F' H' A' B, Wd F H A → ev call e ρ = .ok d ρ1 → Ext F H A F' H' (cup A' B) → Slots K mg F' H' σ ρ1 A' → Own K mg F' H' v d B → (shares e = true → Sb B A') → (shares e = false → Dj A' B) → PostS K mg W pr F H A σ (g d ρ1) Dn → Q v H') : tE K mg call e W σ H Q := by
  obtain ⟨F, A, ρ, w, s, p⟩ := h
  refine ⟨F, A, ρ, w, s, ?_⟩
  cases hr : ev call e ρ with
  | bad => simp only [hr, R.sbind] at p; exact p
  | err x ρ' => simp only [hr, R.sbind] at p; exact p σ SK.refl
  | ok d ρ1 =>
    simp only [hr, R.sbind] at p
    exact fun v F' H' A' B ex s' o al dj _ => hq F A ρ d ρ1 v F' H' A' B w hr ex s' o al dj p
/-- what an expression gave, for the taker -/
theorem taken {K : PySem.W.Frag} {e : E} {F H : Hp} {A B : AS} {v : V} {d : D} (hc : (!shares e || d.pure) = true) (w : Wd F H (cup A B)) (o : Own K mg F H v d B) (dj : shares e = false → Dj A B) : ∃ B', Own K mg F H v d B' ∧ Dj A B' ∧ Sb B' B := by
  cases ha : shares e with
  | false => exact ⟨B, o, dj ha, Sb.rfl'⟩
  | true =>
    simp only [ha, Bool.not_true, Bool.false_or] at hc
    exact ⟨no, .fz (o.fzd hc), Dj.no_r, Sb.no_l⟩
theorem cupSb {A B B' : AS} (h : Sb B' B) : Sb (cup A B') (cup A B) := fun z x => x.imp id (h z)
theorem psE_asg {e : E} {t : T} {st : Stmt} (h : PS X st (tAsg (tE X.K mg call e W) (gT X.K mg pr t))) : PS X st (tS X.K mg W pr (ex call (.asg t e))) := by
  refine PS.weak h fun D σ H h => ?_
  simp only [tS, ex] at h
  refine preE h fun F A ρ d ρ1 v F' H' A' B w hr ex s' o al dj p => ?_
  split at p
  · rename_i hc
    obtain ⟨B', o', dj', sb⟩ := taken hc ex.wd o dj
    split at p
    · rename_i ρ2 hput
      refine ⟨F', A', B', ρ1, d, ρ2, ex.wd.sub (cupSb sb), s', o', dj', hput, fun σ' C sc sl sk => ?_⟩
      exact p σ' F' H' C (ex.sub (fun z x => cupSb sb z (sc z x))) sl sk
    · exact p.elim
  · exact p.elim
theorem psE_expr {e : E} {a : Expr} {pos : Pos} (hs : swapsWith a none pos.line X.env = pure false) (h : PE X a (tE X.K mg call e W)) : PS X (.Expr a pos) (tS X.K mg W pr (ex call (.expr e))) := by
  refine PS.weak (ps_expr h hs) fun D σ H h => ?_
  simp only [tS, ex] at h
  exact preE h fun F A ρ d ρ1 v F' H' A' B w hr ex s' o al dj p => p σ F' H' A' (ex.sub Sb.l) s' SK.refl
theorem psE_ret {e : E} {a : Expr} {pos : Pos} (h : PE X a (tE X.K mg call e W)) : PS X (.Return (some a) pos) (tS X.K mg W pr (ex call (.ret e))) := by
  refine PS.weak (ps_ret h) fun D σ H h => ?_
  simp only [tS, ex] at h
  refine preE h fun F A ρ d ρ1 v F' H' A' B w hr ex s' o al dj p => ?_
  split at p
  · rename_i hc
    obtain ⟨B', o', dj', sb⟩ := taken hc ex.wd o dj
    exact p v σ F' H' A' B' (ex.sub (cupSb sb)) s' SK.refl o' dj'
  · exact p.elim
theorem psE_retN {pos : Pos} : PS X (.Return none pos) (tS X.K mg W pr (ex call .retN)) := by
  refine PS.weak ps_retN fun D σ H h => ?_
  obtain ⟨F, A, ρ, w, s, p⟩ := h
  exact p .non σ F H A no (by rw [cup_no']; exact Ext.refl w) s SK.refl (.fz .non) Dj.no_r
theorem psE_pass {pos : Pos} : PS X (.Pass pos) (tS X.K mg W pr (ex call .pass)) := by
  refine PS.weak ps_pass fun D σ H h => ?_
  obtain ⟨F, A, ρ, w, s, p⟩ := h
  exact p σ F H A (Ext.refl w) s SK.refl
theorem psE_brk {pos : Pos} : PS X (.Break pos) (tS X.K mg W pr (ex call .brk)) := by
  refine PS.weak ps_break fun D σ H h => ?_
  obtain ⟨F, A, ρ, w, s, p⟩ := h
  exact p σ F H A (Ext.refl w) s SK.refl
theorem psE_cont {pos : Pos} : PS X (.Continue pos) (tS X.K mg W pr (ex call .cont)) := by
  refine PS.weak ps_continue fun D σ H h => ?_
  obtain ⟨F, A, ρ, w, s, p⟩ := h
  exact p σ F H A (Ext.refl w) s SK.refl
theorem psE_bad {st : Stmt} : PS X st (tS X.K mg W pr (ex call .bad)) := by
  refine PS.weak ps_never fun D σ H h => ?_
  obtain ⟨F, A, ρ, w, s, p⟩ := h
  exact p
theorem pssE_nil : PSs X [] (tS X.K mg W pr (exs call [])) := by
  refine PSs.weak pss_nil fun D σ H h => ?_
  obtain ⟨F, A, ρ, w, s, p⟩ := h
  exact p σ F H A (Ext.refl w) s SK.refl
theorem pssE_cons {st : S} {r : List S} {a : Stmt} {as : List Stmt} (h1 : PS X a (tS X.K mg W pr (ex call st))) (h2 : PSs X as (tS X.K mg W pr (exs call r))) : PSs X (a :: as) (tS X.K mg W pr (exs call (st :: r))) := by
  refine PSs.weak (pss_cons h1 h2) fun D σ H h => ?_
  obtain ⟨F, A, ρ, w, s, p⟩ := h
  refine ⟨F, A, ρ, w, s, ?_⟩
  simp only [exs] at p
  cases hr : ex call st ρ with
  | nx ρ1 =>
    simp only [hr] at p
    exact fun σ' F' H' A' x sl sk => ⟨F', A', ρ1, x.wd, sl, p.pre w x sk⟩
  | brk ρ1 => simp only [hr] at p; exact p
  | cont ρ1 => simp only [hr] at p; exact p
  | ret d ρ1 => simp only [hr] at p; exact p
  | err x ρ1 => simp only [hr] at p; exact p
  | bad => simp only [hr] at p; exact p
theorem exs_one (s : S) (ρ : Env') : exs call [s] ρ = ex call s ρ := by
  simp only [exs]
  cases ex call s ρ <;> rfl
/-- a ghost step ahead of the rest -/
theorem pssE_frz {i : Nat} {r : List S} {as : List Stmt} (h2 : PSs X as (tS X.K mg W pr (exs call r))) : PSs X as (tS X.K mg W pr (exs call (.frz i :: r))) := by
  refine PSs.weak (PSs.lockd h2) fun D σ H h => ?_
  obtain ⟨F, A, ρ, w, s, p⟩ := h
  simp only [exs, ex] at p
  cases hi : ρ[i]? with
  | none => simp only [hi] at p; exact p.elim
  | some o =>
    cases o with
    | none => simp only [hi] at p; exact p.elim
    | some d =>
      simp only [hi] at p
      by_cases hc : d.cand = true
      · simp only [hc, if_true] at p
        obtain ⟨v, L, hv, hL, go⟩ := slot_frz w s hi hc
        refine ⟨L, hL, fun H2 lk => ?_⟩
        obtain ⟨F', A', e, sl, fz⟩ := go H2 lk
        exact ⟨F', A', _, e.wd, sl, p.pre w e SK.refl⟩
      · simp only [hc] at p; exact p.elim
end
end VI

namespace VI
variable [Tn]
open PySem PySem.Spec PyProof.Rows L2
section
variable {X : Cx} {mg : Str → Option Value} {call : CallT} {W : WX} {pr : Nat → Bool}
theorem psE_ifs {c : E} {a b : List S} {ac : Expr} {as bs : List Stmt} {pos : Pos} (hc : PT X ac (tT X.K mg call c W)) (ha : PSs X as (tS X.K mg W pr (exs call a))) (hb : PSs X bs (tS X.K mg W pr (exs call b))) :
    PS X (.If ac as bs pos) (tS X.K mg W pr (ex call (.ifs c a b))) := by
  refine PS.weak (ps_if hc ha hb) fun D σ H h => ?_
  obtain ⟨F, A, ρ, w, s, p⟩ := h
  refine ⟨F, A, ρ, w, s, ?_⟩
  simp only [ex] at p
  cases hr : ev call c ρ with
  | bad => simp only [hr, R.sbind] at p; exact p
  | err x ρ' => simp only [hr, R.sbind] at p; exact p σ SK.refl
  | ok d ρ1 =>
    simp only [hr, R.sbind] at p
    cases hk : truD d with
    | none => simp only [hk] at p; exact p.elim
    | some k =>
      refine ⟨k, hk, fun F' H' A' e s' => ?_⟩
      cases k with
      | true =>
        simp only [hk] at p
        rw [if_pos rfl]
        exact ⟨F', A', ρ1, e.wd, s', p.pre w e SK.refl⟩
      | false =>
        simp only [hk] at p
        rw [if_neg Bool.false_ne_true]
        exact ⟨F', A', ρ1, e.wd, s', p.pre w e SK.refl⟩
theorem psE_whl {c : E} {b : List S} {n : Nat} {ac : Expr} {bs : List Stmt} {pos : Pos} (hp : PassesOwn (model X.prog X.w) X.A X.env X.xe) (hc : PT X ac (tT X.K mg call c W)) (hb : PSs X bs (tS X.K mg W pr (exs call b))) :
    PS X (.While ac bs [] pos) (tS X.K mg W pr (ex call (.whl n c b))) := by
  refine PS.weak (ps_while hp hc hb) fun D σ H h => ?_
  refine ⟨fun m σ H => tS X.K mg W pr (whlLoop (ev call c) (exs call b) m) D σ H, ⟨n, by simpa only [tS, ex] using h⟩, fun m σ H h => ?_⟩
  obtain ⟨F, A, ρ, w, s, p⟩ := h
  cases m with
  | zero => simp only [whlLoop] at p; exact p.elim
  | succ m =>
    simp only [whlLoop] at p
    refine ⟨F, A, ρ, w, s, ?_⟩
    cases hr : ev call c ρ with
    | bad => simp only [hr, R.sbind] at p; exact p
    | err x ρ' => simp only [hr, R.sbind] at p; exact p σ SK.refl
    | ok d ρ1 =>
      simp only [hr, R.sbind] at p
      cases hk : truD d with
      | none => simp only [hk] at p; exact p.elim
      | some k =>
        refine ⟨k, hk, fun F1 H1 A1 e s1 => ?_⟩
        cases k with
        | false =>
          simp only [hk] at p
          rw [if_neg Bool.false_ne_true]
          exact p σ F1 H1 A1 e s1 SK.refl
        | true =>
          simp only [hk] at p
          rw [if_pos rfl]
          refine ⟨fun σ H => tS X.K mg W pr (whlLoop (ev call c) (exs call b) m) D σ H, fun σ' H' h' => ⟨m, Nat.lt_succ_self m, h'⟩, F1, A1, ρ1, e.wd, s1, ?_⟩
          cases hb' : exs call b ρ1 with
          | nx ρ2 => simp only [hb'] at p; exact fun σ' F' H' A' x sl sk => ⟨F', A', ρ2, x.wd, sl, p.pre w (e.trans w x) sk⟩
          | cont ρ2 => simp only [hb'] at p; exact fun σ' F' H' A' x sl sk => ⟨F', A', ρ2, x.wd, sl, p.pre w (e.trans w x) sk⟩
          | brk ρ2 => simp only [hb'] at p; exact p.pre w e SK.refl
          | ret d ρ2 => simp only [hb'] at p; exact p.pre w e SK.refl
          | err x ρ2 => simp only [hb'] at p; exact p.pre w e SK.refl
          | bad => simp only [hb'] at p; exact p
theorem psE_for {t : T} {k : ItK} {es : List E} {b : List S} {st : Stmt} (h : PS X st (tFor (tI X.K mg call W k es) (gT X.K mg pr t) (tS X.K mg W pr (exs call b)))) : PS X st (tS X.K mg W pr (ex call (.fors t k es b))) := by
  refine PS.weak h fun D σ H h => ?_
  obtain ⟨F, A, ρ, w, s, p⟩ := h
  simp only [ex] at p
  refine ⟨F, A, ρ, w, s, ?_⟩
  cases hr : evC call es ρ with
  | bad => simp only [hr, R.sbind] at p; exact p
  | err x ρ' => simp only [hr, R.sbind] at p; exact p σ SK.refl
  | ok ds ρ1 =>
    simp only [hr, R.sbind] at p
    by_cases hc : canL ds = true
    · rw [if_pos hc] at p
      cases hx : itD k (frzL ds) with
      | none => simp only [hx] at p; exact p.elim
      | some xs =>
        simp only [hx] at p
        refine ⟨hc, xs, hx, fun J F1 H1 A1 e1 s1 iw => ?_⟩
        refine ⟨fun i m σ H => i ≤ xs.length ∧ m = xs.length - i ∧ ∃ F A ρ, Same F1 F ∧ Wd F H A ∧ Slots X.K mg F H σ ρ A ∧ PostS X.K mg W pr F H A σ (forLoop (fun x ρ => match t.put x ρ with
          | some ρ' => exs call b ρ'
          | none => .bad) (xs.drop i) ρ) D, ⟨xs.length, Nat.zero_le _, by simp, F1, A1, ρ1, fun _ _ e => e, e1.wd, s1, by rw [List.drop_zero]; exact p.pre w e1 SK.refl⟩, ?_⟩
        rintro i m σ2 H2 ⟨hi, rfl, F2, A2, ρ2, sm, w2, s2, p2⟩
        have iw2 := iw.up sm
        by_cases hlt : i < xs.length
        · refine .inr ⟨iw2.goes i H2 hlt w2.same, _, fun σ' H' h' => ⟨xs.length - (i + 1), by omega, h'⟩, fun x H3 y => ?_⟩
          obtain ⟨d, F3, hd, e3, fz, sm3⟩ := iw2.item w2 hlt y
          have hdr : xs.drop i = d :: xs.drop (i + 1) := by
            rw [List.drop_eq_getElem_cons hlt]
            rw [List.getElem?_eq_getElem hlt] at hd
            cases hd; rfl
          rw [hdr] at p2
          simp only [forLoop] at p2
          cases ht : t.put d ρ2 with
          | none => simp only [ht] at p2; exact p2.elim
          | some ρ3 =>
            simp only [ht] at p2
            refine ⟨F3, A2, no, ρ2, d, ρ3, by rw [cup_no']; exact e3.wd, ?_, .fz fz, Dj.no_r, ht, fun σ4 A4 sb4 sl4 sk4 => ?_⟩
            · exact Slots.move e3.fsame s2 fun a o _ h => sm3 a o h
            · have sb4' : Sb A4 A2 := fun z x => (sb4 z x).elim id fun z => z.elim
              have e4 := e3.sub sb4'
              refine ⟨F3, A4, ρ3, e4.wd, sl4, ?_⟩
              have again : ∀ {ρ5}, PostS X.K mg W pr F2 H2 A2 σ2 (forLoop (fun x ρ => match t.put x ρ with
                  | some ρ' => exs call b ρ'
                  | none => .bad) (xs.drop (i + 1)) ρ5) D → ∀ σ' F' H' A', Ext F3 H3 A4 F' H' A' → Slots X.K mg F' H' σ' ρ5 A' → SK pr σ4 σ' → (i + 1 ≤ xs.length ∧ xs.length - (i + 1) = xs.length - (i + 1) ∧ ∃ F A ρ, Same F1 F ∧ Wd F H' A ∧ Slots X.K mg F H' σ' ρ A ∧ PostS X.K mg W pr F H' A σ' (forLoop (fun x ρ => match t.put x ρ with
                  | some ρ' => exs call b ρ'
                  | none => .bad) (xs.drop (i + 1)) ρ) D) := fun {ρ5} p5 σ' F' H' A' x sl sk =>
                ⟨hlt, rfl, F', A', ρ5, sm.trans (e3.fsame.trans x.fsame), x.wd, sl, p5.pre w2 (e4.trans w2 x) (sk4.trans sk)⟩
              cases hb : exs call b ρ3 with
              | nx ρ5 => simp only [hb] at p2; exact again p2
              | cont ρ5 => simp only [hb] at p2; exact again p2
              | brk ρ5 => simp only [hb] at p2; exact p2.pre w2 e4 sk4
              | ret d ρ5 => simp only [hb] at p2; exact p2.pre w2 e4 sk4
              | err z ρ5 => simp only [hb] at p2; exact p2.pre w2 e4 sk4
              | bad => simp only [hb] at p2; exact p2
        · have e : i = xs.length := by omega
          subst e
          refine .inl ⟨iw2.stops H2 w2.same, ?_⟩
          rw [List.drop_length] at p2
          exact p2 σ2 F2 H2 A2 (Ext.refl w2) s2 SK.refl
    · rw [if_neg hc] at p; exact p.elim
end
end VI

namespace VI
variable [Tn]
open PySem PySem.Spec PyProof.Rows L2
section
variable {K : PySem.W.Frag} {mg : Str → Option Value}
theorem OwnL.append {F H : Hp} : ∀ {vs : List V} {ds : List D} {ws : List V} {es : List D} {B B1 : AS}, OwnL K mg F H vs ds B → OwnL K mg F H ws es B1 → Dj B B1 → OwnL K mg F H (vs ++ ws) (ds ++ es) (cup B B1)
  | _, _, _, _, B, B1, .nil, h, _ => h.sub Sb.r
  | _, _, _, _, B, B1, .cons o r d s1 s2, h, dj =>
    .cons o (OwnL.append r h fun a x y => dj a (s2 a x) y) (fun a x y => y.elim (d a x) (dj a (s1 a x))) (s1.trans Sb.l) (cupSb' s2)
where cupSb' {A B C : AS} (h : Sb A B) : Sb (cup A C) (cup B C) := fun z x => x.imp (h z) id
/-- one item of several -/
theorem OwnL.focus {F H : Hp} : ∀ {vs : List V} {ds : List D} {B : AS} {j : Nat} {d : D}, OwnL K mg F H vs ds B → ds[j]? = some d →
    ∃ v Bj Br, vs[j]? = some v ∧ Own K mg F H v d Bj ∧ Dj Bj Br ∧ Sb Bj B ∧ Sb Br B ∧ ∀ F' H' v' d' Bj', Same F F' → (∀ a o, Br a → H a = some o → H' a = some o) → Own K mg F' H' v' d' Bj' → Dj Bj' Br → OwnL K mg F' H' (vs.set j v') (ds.set j d') (cup Bj' Br)
  | _, _, _, _, _, .nil, h => by simp at h
  | _, _, B, 0, d, .cons (v := v) o r dj s1 s2, h => by
    simp at h
    subst h
    exact ⟨v, _, _, rfl, o, dj, s1, s2, fun F' H' v' d' Bj' sf k o' dj' => .cons o' (OwnL.move sf k r) dj' Sb.l Sb.r⟩
  | _, _, B, j + 1, d, .cons (v := w) (A1 := A1) o r dj s1 s2, h => by
    simp at h
    obtain ⟨v, Bj, Br, h1, h2, h3, h4, h5, h6⟩ := OwnL.focus r h
    refine ⟨v, Bj, cup A1 Br, by simpa using h1, h2, fun a x y => y.elim (fun y => dj a y (h4 a x)) (h3 a x), h4.trans s2, fun a x => x.elim (s1 a) fun x => s2 a (h5 a x), fun F' H' v' d' Bj' sf k o' dj' => ?_⟩
    have r' := h6 F' H' v' d' Bj' sf (fun a o x => k a o (.inr x)) o' fun a x y => dj' a x (.inr y)
    exact .cons (Own.move sf (fun a u x => k a u (.inl x)) o) r' (fun a x y => y.elim (fun y => dj' a y (.inl x)) fun y => dj a x (h5 a y)) (fun a x => .inr (.inl x)) (fun a x => x.imp id .inr)
end
section
variable {X : Cx} {mg : Str → Option Value} {call : CallT} {W : WX} {pr : Nat → Bool}
/-- in place, by values: ints and texts -/
def augHas : Operator → Bool
  | .Add => true | .Sub => true | .Mult => true | _ => false
theorem psE_aug {i : Nat} {e : E} {o : Operator} {x : Str} {a : Expr} {pos pos' : Pos} (ho : augHas o = true) (hp : pr i = false) (hN : X.N.Nodup) (hi : X.N[i]? = some x) (hx : Loc X.env.scope x) (hf : X.fn x = true ∨ X.env.scope.names.lookup x = some .local)
    (he : PE X a (tE X.K mg call e W)) : PS X (.AugAssign (.Name x pos') o a pos) (tS X.K mg W pr (ex call (.aug i o e))) := by
  obtain ⟨ti, hti, rule⟩ : ∃ ti : TIp, PIp X o ti ∧ ∀ {F H : Hp} {A B1 B2 : AS} {v1 v2 : V} {d1 d2 d : D} {Q : VK}, flat2 d1 = true → Own X.K mg F H v1 d1 B1 → Own X.K mg F H v2 d2 B2 → binO o d1 d2 = some d → (∀ v, Fz X.K F v d → Q v H) → ti v1 v2 H Q := by
    cases o with
    | Add =>
      refine ⟨_, (iop_add).or (iop_add_str), fun {F H A B1 B2 v1 v2 d1 d2 d Q} hfl o1 o2 hd q => ?_⟩
      cases d1 <;> simp [flat2] at hfl
      · cases d2 <;> simp only [binO, addO, Option.some.injEq] at hd <;> first | contradiction | skip
        subst hd
        exact .inl ⟨_, _, o1.int, o2.int, q _ (.int _)⟩
      · cases d2 <;> simp only [binO, addO] at hd <;> first | contradiction | skip
        split at hd
        · rename_i hl
          cases hd
          refine .inr ⟨_, _, o1.str.1, o2.str.1, ?_, ?_⟩
          · rw [szl]; show (ST _).length + (ST _).length ≤ _; rw [st_len, st_len]; exact hl
          · have := q _ (Fz.str _ (okCs_app o1.str.2 o2.str.2))
            rw [st_app]
            exact this
        · cases hd
    | Sub =>
      refine ⟨_, iop_sub, fun {F H A B1 B2 v1 v2 d1 d2 d Q} hfl o1 o2 hd q => ?_⟩
      cases d1 <;> simp [flat2] at hfl <;> cases d2 <;> simp only [binO, subO, Option.some.injEq] at hd <;> first | contradiction | skip
      subst hd
      exact ⟨_, _, o1.int, o2.int, q _ (.int _)⟩
    | Mult =>
      refine ⟨_, iop_mul, fun {F H A B1 B2 v1 v2 d1 d2 d Q} hfl o1 o2 hd q => ?_⟩
      cases d1 <;> simp [flat2] at hfl <;> cases d2 <;> simp only [binO, mulO] at hd <;> first | contradiction | skip
      split at hd
      · rename_i hc
        cases hd
        simp only [Bool.or_eq_true, decide_eq_true_eq] at hc
        exact ⟨_, _, o1.int, o2.int, hc, q _ (.int _)⟩
      · cases hd
    | _ => simp [augHas] at ho
  refine PS.weak (ps_aug hN hi hx he hti hf) fun D σ H h => ?_
  obtain ⟨F, A, ρ, w, s, p⟩ := h
  simp only [ex] at p
  cases h0 : ρ[i]? with
  | none => simp only [h0] at p; exact p.elim
  | some o0 =>
  cases o0 with
  | none => simp only [h0] at p; exact p.elim
  | some d0 =>
  simp only [h0] at p
  obtain ⟨v, _, _, hv, _⟩ := s.get h0
  refine ⟨v, hv, F, A, ρ, w, s, ?_⟩
  cases hr : ev call e ρ with
  | bad => simp only [hr, R.sbind] at p; exact p
  | err z ρ' => simp only [hr, R.sbind] at p; exact p σ SK.refl
  | ok d ρ1 =>
    simp only [hr, R.sbind] at p
    intro y F' H' A' B e1 s1 o1 _ _ _
    cases h1 : ρ1[i]? with
    | none => simp only [h1] at p; exact p.elim
    | some ox =>
    cases ox with
    | none => simp only [h1] at p; exact p.elim
    | some x =>
    simp only [h1] at p
    by_cases hfl : flat2 x = true
    · simp only [hfl, if_true] at p
      cases h2 : binO o x d with
      | none => simp only [h2] at p; exact p.elim
      | some y' =>
        simp only [h2] at p
        obtain ⟨v2, A1, A2, g1, g2, g3, g4, g5, g6⟩ := s1.get h1
        rw [hv] at g1
        cases g1
        refine rule (A := no) hfl g2 o1 h2 fun u fz => ?_
        have s2 := Slots.put (Own.fz fz) (s1.gone i) Dj.no_l (i := i) (by rw [hv]; rfl)
        rw [List.set_set, cup_no] at s2
        exact p _ F' H' A' (e1.sub Sb.l) s2 (SK.set hp)
    · simp only [hfl] at p; exact p.elim
/-! ### append, extend -/
def pickM : Mo → Str
  | .append => "append" | .extend => "extend" | .insert => "insert"
def rInsert : V → List V → Hp → VK → Prop := fun x vs H Q => ∃ (l : Addr) (xs : List V) (i : Int) (y : V), x = .ref l ∧ vs = [.int i, y] ∧ H l = some (.lst xs) ∧ xs.length < sizeLine ∧ 0 ≤ i ∧ i < 2 ^ 63 ∧ Q .non (upd H l (.lst (xs.take i.toNat ++ [y] ++ xs.drop i.toNat)))
theorem mt_insertR : MtR X "list.insert" rInsert := mt_insert
def rMo : Mo → V → List V → Hp → VK → Prop
  | .append => rAppend | .extend => rExtend | .insert => rInsert
theorem mo_run {o : Mo} {F H : Hp} {A A1 A2 B : AS} {x : V} {vs : List V} {d d' r : D} {ds : List D} {Q : VK} (w : Wd F H (cup (cup A1 A2) B)) (ox : Own X.K mg F H x d A1) (d1 : Dj A1 A2) (d2 : Dj (cup A1 A2) B) (ol : OwnL X.K mg F H vs ds B) (hm : moD o d ds = some (d', r))
    (q : ∀ H' A1', Ext F H (cup (cup A1 A2) B) F H' (cup A1' A2) → Own X.K mg F H' x d' A1' → Dj A1' A2 → (∀ a u, A2 a → H a = some u → H' a = some u) → r = .non → Q .non H') : rMo o x vs H Q := by
  have main : ∀ {a : Addr} {ws : List V} {es ds1 : List D} {zs : List V} {C : AS}, x = .ref a → d = .lst true es → H a = some (.lst ws) → A1 a → ¬ C a → Sb C A1 → OwnL X.K mg F H ws es C → OwnL X.K mg F H zs ds1 B → d' = .lst true (es ++ ds1) → r = .non → Q .non (upd H a (.lst (ws ++ zs))) := by
    intro a ws es ds1 zs C ex ed ha h1 h2 h3 h4 h5 e1 e2
    subst ex ed e1 e2
    have wa : Wd F H (cup (cup A1 A2) B) := w
    have e := Ext.put (o := .lst (ws ++ zs)) w (p := a) (.inl (.inl h1))
    have nB : ∀ c, B c → c ≠ a := fun c hc z => d2 a (.inl h1) (z ▸ hc)
    have keep : ∀ c u, c ≠ a → H c = some u → upd H a (.lst (ws ++ zs)) c = some u := fun c u hc hu => by rw [upd_ne hc]; exact hu
    refine q _ (cup A1 B) (e.sub fun c hc => ?_) (.lst (B := cup C B) upd_same (.inl h1) (fun z => z.elim h2 fun z => nB a z rfl) (fun c hc => hc.imp (h3 c) id) ?_) (fun c hc => hc.elim (d1 c) fun hb hc => d2 c (.inr hc) hb) (fun c u hc hu => keep c u (fun z => d1 a h1 (z ▸ hc)) hu) rfl
    · rcases hc with (hc | hc) | hc
      · exact .inl (.inl hc)
      · exact .inr hc
      · exact .inl (.inr hc)
    · exact OwnL.append (OwnL.move (fun _ _ e => e) (fun c u hc hu => keep c u (fun z => h2 (z ▸ hc)) hu) h4) (OwnL.move (fun _ _ e => e) (fun c u hc hu => keep c u (nB c hc) hu) h5) fun c x y => d2 c (.inl (h3 c x)) y
  cases o with
  | append =>
    unfold moD at hm
    split at hm <;> first | contradiction | skip
    · split at hm
      · rename_i _ _ _ es dd heq hl
        cases hm
        cases ox with
        | fz z => exact absurd z.pure (by simp [D.pure])
        | lst ha h1 h2 h3 h4 =>
          cases ol with
          | cons oy r dj s1 s2 =>
            cases r
            refine ⟨_, _, _, rfl, rfl, ha, by rw [szl, h4.len]; exact hl, ?_⟩
            exact main rfl rfl ha h1 h2 h3 h4 (.cons oy .nil dj s1 s2) rfl rfl
      · cases hm
  | extend =>
    unfold moD at hm
    split at hm <;> first | contradiction | skip
    · split at hm
      · rename_i _ _ _ es m ys heq hl
        cases hm
        simp only [Bool.and_eq_true, decide_eq_true_eq] at hl
        cases ox with
        | fz z => exact absurd z.pure (by simp [D.pure])
        | lst ha h1 h2 h3 h4 =>
          cases ol with
          | cons oy r dj s1 s2 =>
            cases r
            obtain ⟨b, zs, rfl, hb, oz⟩ := oy.lstv w.same
            have fz := oz.fzd hl.1
            refine ⟨_, _, _, _, rfl, rfl, ha, hb, by rw [szl, h4.len, fz.len]; exact hl.2, ?_⟩
            exact main rfl rfl ha h1 h2 h3 h4 (OwnL.sub Sb.no_l fz.own) rfl rfl
      · cases hm
  | insert =>
    unfold moD at hm
    split at hm <;> first | contradiction | skip
    · split at hm
      · rename_i _ _ es i dd heq hl
        cases hm
        obtain ⟨hl, h0, h63, p1, p2⟩ := hl
        cases ox with
        | fz z => exact absurd z.pure (by simp [D.pure])
        | lst ha h1 h2 h3 h4 =>
          rename_i a ws C
          have f1 := h4.fzd p1
          cases ol with
          | cons oi r dj s1 s2 =>
            cases r with
            | @cons y _ _ _ _ _ _ oy r dj2 s3 s4 =>
              cases r
              have f2 := oy.fzd p2
              refine ⟨a, ws, i, _, rfl, by rw [oi.int], ha, by rw [szl, h4.len]; exact hl, h0, h63, ?_⟩
              have f3 := ((f1.take i.toNat).append (.cons f2 .nil)).append (f1.drop i.toNat)
              have e := Ext.put (o := .lst (ws.take i.toNat ++ [y] ++ ws.drop i.toNat)) w (p := a) (.inl (.inl h1))
              refine q _ A1 (e.sub fun c hc => ?_) (.lst (B := no) upd_same h1 (fun z => z) Sb.no_l f3.own) d1 (fun c u hc hu => ?_) rfl
              rotate_left
              · have nc : c ≠ a := fun z => d1 a h1 (z ▸ hc)
                rw [upd_ne nc]; exact hu
              rcases hc with hc | hc
              · exact .inl (.inl hc)
              · exact .inl (.inr hc)
      · cases hm
theorem idxI_ok {x : Int} : ∀ {ns : List Int} {j : Nat}, idxI x ns = some j → ns[j]? = some x ∧ ∀ m z, m < j → ns[m]? = some z → z ≠ x
  | [], j, h => by simp [idxI] at h
  | y :: r, j, h => by
    simp only [idxI] at h
    split at h
    · rename_i e
      cases h
      exact ⟨by simp [e], fun m z hm => by omega⟩
    · rename_i e
      rw [Option.map_eq_some_iff] at h
      obtain ⟨k, hk, rfl⟩ := h
      obtain ⟨h1, h2⟩ := idxI_ok hk
      refine ⟨by simpa using h1, fun m z hm hz => ?_⟩
      cases m with
      | zero => simp at hz; subst hz; exact e
      | succ m => exact h2 m z (by omega) (by simpa using hz)
theorem pe_idxE {i : Nat} {as : List E} {ast : Expr} (h : PE X ast (tBM X.K "list" (rIndex X.K) (tVar i) (tCs X.K mg call W as))) : PE X ast (tE X.K mg call (.idx i as) W) := by
  refine PE.weak h fun σ H Q h => ?_
  obtain ⟨F, A, ρ, w, s, p⟩ := h
  simp only [ev] at p
  cases h0 : ρ[i]? with
  | none => simp only [h0] at p; exact p.elim
  | some o0 =>
  cases o0 with
  | none => simp only [h0] at p; exact p.elim
  | some d0 =>
  simp only [h0] at p
  obtain ⟨v, A1, A2, hv, ox, _, _, _, _⟩ := s.get h0
  split at p
  · rename_i hc
    refine ⟨v, hv, ?_, ?_⟩
    · unfold isLst at hc
      split at hc <;> first | contradiction | skip
      · obtain ⟨a, ws, rfl, ha, _⟩ := ox.lstv w.same
        exact .inl ⟨rfl, ws, SqL.of ha⟩
    · refine seqC as w s ?_
      cases hr : evC call as ρ with
      | bad => simp only [hr] at p; exact p
      | err z ρ' => simp only [hr] at p; exact p
      | ok ds ρ2 =>
        simp only [hr, R.bind] at p
        intro vs F1 H1 A1 B1 e1 s1 ol dj _
        cases h1 : ρ2[i]? with
        | none => simp only [h1] at p; exact p.elim
        | some o1 =>
        cases o1 with
        | none => simp only [h1] at p; exact p.elim
        | some d1 =>
        simp only [h1] at p
        cases h2 : idxO d1 ds with
        | none => simp only [h2, R.of] at p; exact p.elim
        | some r =>
          simp only [h2, R.of] at p
          obtain ⟨v2, C1, C2, g1, g2, g3, g4, g5, g6⟩ := s1.get h1
          rw [hv] at g1
          cases g1
          unfold idxO at h2
          split at h2 <;> first | contradiction | skip
          rename_i m xs x
          simp only [Option.bind_eq_some_iff, Option.map_eq_some_iff] at h2
          obtain ⟨ns, hn, j, hj, rfl⟩ := h2
          obtain ⟨k1, k2⟩ := idxI_ok hj
          obtain ⟨a', ws, rfl, ha, oz⟩ := g2.lstv e1.wd.same
          rw [intsO_some hn] at oz
          have ew := oz.ints
          subst ew
          cases ol with
          | cons oy r dj2 t1 t2 =>
            cases r
            refine ⟨a', ns.map V.int, .int x, j, .int x, rfl, by rw [oy.int], SqL.of ha, rfl, by simp [List.all_map]; exact fun _ _ => rfl, by rw [List.getElem?_map, k1]; rfl, ?_, ?_, ?_⟩
            · simp [eqV]
            · intro m' z' hm hz
              rw [List.getElem?_map, Option.map_eq_some_iff] at hz
              obtain ⟨y, hy, rfl⟩ := hz
              have := k2 m' y hm hy
              simp [eqV, this]
            · exact p (.int (j : Nat)) F1 H1 A1 no (by rw [cup_no']; exact e1.sub Sb.l) s1 (.fz (.int _)) (fun z => by simp [shares] at z) (fun _ => Dj.no_r) (fun z => by simp [quiet] at z)
  · exact p.elim
theorem pe_mutE {o : Mo} {i : Nat} {as : List E} {ast : Expr} (h : PE X ast (tBM X.K "list" (rMo o) (tVar i) (tCs X.K mg call W as))) : PE X ast (tE X.K mg call (.mut o i [] as) W) := by
  refine PE.weak h fun σ H Q h => ?_
  obtain ⟨F, A, ρ, w, s, p⟩ := h
  simp only [ev, evR, R.bind, intsO] at p
  cases h0 : ρ[i]? with
  | none => simp only [h0] at p; exact p.elim
  | some o0 =>
  cases o0 with
  | none => simp only [h0] at p; exact p.elim
  | some d0 =>
  simp only [h0] at p
  obtain ⟨v, A1, A2, hv, ox, _, _, _, _⟩ := s.get h0
  split at p
  · rename_i hc
    simp only [Bool.and_eq_true] at hc
    refine ⟨v, hv, ?_, ?_⟩
    · have := hc.1
      unfold isPath at this
      split at this <;> first | contradiction | skip
      · obtain ⟨a, ws, rfl, ha, _⟩ := ox.lstv w.same
        exact .inl ⟨rfl, ws, SqL.of ha⟩
    · refine seqC as w s ?_
      cases hr : evC call as ρ with
      | bad => simp only [hr] at p; exact p
      | err z ρ' => simp only [hr] at p; exact p
      | ok ds ρ2 =>
        simp only [hr] at p
        intro vs F1 H1 A1 B1 e1 s1 ol dj _
        cases h1 : ρ2[i]? with
        | none => simp only [h1] at p; exact p.elim
        | some o1 =>
        cases o1 with
        | none => simp only [h1] at p; exact p.elim
        | some d1 =>
        simp only [h1, atPath] at p
        cases h2 : moD o d1 ds with
        | none => simp only [h2] at p; exact p.elim
        | some pr =>
          obtain ⟨d', r⟩ := pr
          simp only [h2] at p
          obtain ⟨v2, C1, C2, g1, g2, g3, g4, g5, g6⟩ := s1.get h1
          rw [hv] at g1
          cases g1
          have sub : Sb (cup (cup C1 C2) B1) (cup A1 B1) := fun z x => x.imp (fun x => x.elim (g5 z) (g6 z)) id
          refine mo_run (A := no) (e1.wd.sub sub) g2 g4 (fun z x => x.elim (fun x => dj z (g5 z x)) fun x => dj z (g6 z x)) ol h2 fun H' C1' e2 o2 d2 kk er => ?_
          subst er
          have s3 := Slots.move e2.fsame g3 fun a u h h' => kk a u h h'
          have s4 := put_back hv o2 s3 d2
          have : (ρ2.set i none).set i (some d') = ρ2.set i (some d') := by rw [List.set_set]
          rw [this] at s4
          refine p .non F1 H' _ no ?_ s4 (.fz .non) (fun z => by simp [shares] at z) (fun _ => Dj.no_r) fun z => by simp [quiet] at z
          rw [cup_no']
          exact (e1.sub sub).trans w e2
  · exact p.elim
/-! ### stores -/
theorem ixN_lt {n j : Nat} {k : Int} (h : ixN n k = some j) : j < n := by
  unfold ixN at h
  split at h <;> first | (cases h; omega) | skip
  all_goals (split at h <;> first | (cases h; omega) | cases h)
theorem set_in {F H : Hp} {A1 B : AS} {v u : V} {ys : List D} {d : D} {k : Int} {j : Nat} (o : Own X.K mg F H v (.lst true ys) A1) (hk : ixN ys.length k = some j) (od : Own X.K mg F H u d B) (dj : Dj A1 B) :
    ∃ a ws, v = .ref a ∧ H a = some (.lst ws) ∧ ixN ws.length k = some j ∧ A1 a ∧ Own X.K mg F (upd H a (.lst (ws.set j u))) v (.lst true (ys.set j d)) (cup A1 B) := by
  cases o with
  | fz z => exact absurd z.pure (by simp [D.pure])
  | lst ha h1 h2 h3 h4 =>
    rename_i a ws C
    obtain ⟨w, Bj, Br, e1, _, e3, e4, e5, e6⟩ := h4.focus (List.getElem?_eq_getElem (ixN_lt hk))
    have nB : ∀ c, B c → c ≠ a := fun c hc z => dj a h1 (z ▸ hc)
    have hl : ∀ c x, c ≠ a → H c = some x → upd H a (.lst (ws.set j u)) c = some x := fun c x hc hx => by rw [upd_ne hc]; exact hx
    refine ⟨a, ws, rfl, ha, by rw [h4.len]; exact hk, h1, .lst (B := cup B Br) upd_same (.inl h1) (fun z => z.elim (fun z => nB a z rfl) fun z => h2 (e5 a z)) (fun c hc => hc.elim .inr fun z => .inl (h3 c (e5 c z))) ?_⟩
    exact e6 F _ u d B (fun _ _ e => e) (fun c x hc hx => hl c x (fun z => h2 (z ▸ e5 c hc)) hx) (Own.move (fun _ _ e => e) (fun c x hc hx => hl c x (nB c hc) hx) od) fun c hc hr => dj c (h3 c (e5 c hr)) hc
theorem setO_some {k : Int} {d x y r : D} (h : setO k d x = some (y, r)) : ∃ ys j, x = .lst true ys ∧ ixN ys.length k = some j ∧ y = .lst true (ys.set j d) := by
  unfold setO at h
  split at h
  · simp only [setAt, Option.map_eq_some_iff] at h
    obtain ⟨zs, ⟨j, h1, rfl⟩, h2⟩ := h
    cases h2
    exact ⟨_, j, rfl, h1, rfl⟩
  · cases h
/-- behind the store -/
theorem store_end {F H F' H' : Hp} {A A' A1 A2 B : AS} {σ : SG} {ρ : Env'} {i : Nat} {a : Addr} {o : HO} {v : V} {x' : D} {W : WX} {Dn : Ends} (w : Wd F H A) (e : Ext F H A F' H' (cup A' B)) (hv : σ[i]? = some (some v)) (hs : Slots X.K mg F' H' σ (ρ.set i none) A2) (s1 : Sb A1 A') (s2 : Sb A2 A') (dj : Dj A1 A2) (djB : Dj A' B) (ha : A1 a)
    (ho : Own X.K mg F' (upd H' a o) v x' (cup A1 B)) (p : PostS X.K mg W pr F H A σ (.nx (ρ.set i (some x'))) Dn) (mu : Mtb o := by exact True.intro) : Dn.nx σ (upd H' a o) := by
  have e2 := Ext.put (o := o) e.wd (p := a) (.inl (s1 a ha)) mu
  have hs2 : Slots X.K mg F' (upd H' a o) σ (ρ.set i none) A2 := Slots.move (fun _ _ e => e) hs fun c x hc hx => by
    rw [upd_ne (fun z => dj a ha (by rw [← z]; exact hc))]; exact hx
  have s4 := put_back hv ho hs2 fun c hc h2 => hc.elim (fun hc => dj c hc h2) fun hb => djB c (s2 c h2) hb
  have : (ρ.set i none).set i (some x') = ρ.set i (some x') := by rw [List.set_set]
  rw [this] at s4
  refine p σ F' _ (cup (cup A1 B) A2) ((e.trans w e2).sub fun c hc => ?_) s4 SK.refl
  rcases hc with (hc | hc) | hc
  · exact .inl (s1 c hc)
  · exact .inr hc
  · exact .inl (s2 c hc)
theorem psE_store0 {i : Nat} {ix e : E} {st : Stmt} (h : PS X st (tAsg (tE X.K mg call e W) (gSub (tVar i) (tE X.K mg call ix W) rSetL))) : PS X st (tS X.K mg W pr (ex call (.store i [] ix e))) := by
  refine PS.weak h fun D σ H h => ?_
  simp only [tS, ex] at h
  refine preE h fun F A ρ d ρ1 v F1 H1 A1 B w hr e1 s1 o1 al dj p => ?_
  cases h0 : ρ1[i]? with
  | none => simp only [h0] at p; exact p.elim
  | some o0 =>
  cases o0 with
  | none => simp only [h0] at p; exact p.elim
  | some x =>
  simp only [h0] at p
  by_cases hc : (!shares e || d.pure) && quietL [] && quiet ix
  · rw [if_pos hc] at p
    simp only [Bool.and_eq_true] at hc
    obtain ⟨⟨hc, _⟩, hq⟩ := hc
    simp only [evR, R.sbind, intsO] at p
    by_cases hp : isPath [] x = true
    · rw [if_pos hp] at p
      obtain ⟨u, C1, C2, g1, g2, g3, g4, g5, g6⟩ := s1.get h0
      obtain ⟨B', o', dj', sb⟩ := taken hc e1.wd o1 dj
      refine ⟨u, g1, F1, A1, ρ1, e1.wd.sub Sb.l, s1, ?_⟩
      cases hk : ev call ix ρ1 with
      | bad => simp only [hk] at p; exact p
      | err z ρ' => simp only [hk] at p; exact (p σ SK.refl).trans w (e1.sub Sb.l)
      | ok k ρ3 =>
        simp only [hk] at p
        intro kv F2 H2 A2 B2 e2 s2 o2 _ _ q
        obtain ⟨q1, q2, q3⟩ := q hq
        subst q1 q3
        cases k <;> simp only at p <;> try exact p.elim
        rename_i k
        cases hset : atPath (setO k d) [] x with
        | none => simp only [hset] at p; exact p.elim
        | some xr =>
          obtain ⟨x', r⟩ := xr
          simp only [hset] at p
          simp only [atPath] at hset
          obtain ⟨ys, j, rfl, hj, rfl⟩ := setO_some hset
          have eB := Ext.frame (e1.wd.sub (cupSb sb)) dj' (e2.sub Sb.l)
          have g2' : Own X.K mg F2 H2 u (.lst true ys) C1 := Own.move e2.fsame (fun a o _ h => q2 a o h) g2
          have o'' : Own X.K mg F2 H2 v d B' := Own.move e2.fsame (fun a o _ h => q2 a o h) o'
          obtain ⟨a, ws, rfl, ha, hw, hA, ho⟩ := set_in g2' hj o'' fun c x y => dj' c (g5 c x) y
          refine ⟨a, ws, k, j, rfl, o2.int, ha, hw, ?_⟩
          exact store_end w ((e1.sub (cupSb sb)).trans w eB.1) g1 (Slots.move e2.fsame g3 fun a o _ h => q2 a o h) g5 g6 g4 dj' hA ho p
    · rw [if_neg hp] at p; exact p.elim
  · rw [if_neg hc] at p; exact p.elim
theorem tR_mono {e : E} {σ : SG} {H : Hp} {Q Q' : VK} (h : ∀ v H, Q v H → Q' v H) (t : tR X.K mg call W e σ H Q) : tR X.K mg call W e σ H Q' := by
  unfold tR at t ⊢
  cases hv : varOf e with
  | some i => rw [hv] at t; obtain ⟨v, hv, q⟩ := t; exact ⟨v, hv, h _ _ q⟩
  | none => rw [hv] at t; obtain ⟨F, A, ρ, w, s, p⟩ := t; exact ⟨F, A, ρ, w, s, p.imp h⟩
theorem atI_some {α : Type} {xs : List α} {k : Int} {x : α} (h : atI xs k = some x) : ∃ j, ixN xs.length k = some j ∧ xs[j]? = some x := by
  unfold atI at h
  cases q : ixN xs.length k with
  | none => rw [q] at h; cases h
  | some j => rw [q] at h; exact ⟨j, rfl, h⟩
theorem atI_of {α : Type} {xs : List α} {k : Int} {x : α} {j : Nat} (h : ixN xs.length k = some j) (h' : xs[j]? = some x) : atI xs k = some x := by
  unfold atI; rw [h]; exact h'
theorem isPath1 {j : Int} {x : VI.D} (h : isPath [j] x = true) : ∃ xs y, x = .lst true xs ∧ atD xs j = some y := by
  cases x with
  | lst m xs =>
    cases m with
    | true =>
      simp only [isPath] at h
      cases hy : atD xs j with
      | none => rw [hy] at h; cases h
      | some y => exact ⟨xs, y, rfl, hy⟩
    | false => simp [isPath] at h
  | _ => simp [isPath] at h
theorem psE_store1 {i : Nat} {p1 ix e : E} {st : Stmt} (h : PS X st (tAsg (tE X.K mg call e W) (gSub (tOp (rIxL X.K) (tVar i) (tR X.K mg call W p1)) (tE X.K mg call ix W) rSetL))) : PS X st (tS X.K mg W pr (ex call (.store i [p1] ix e))) := by
  refine PS.weak h fun D σ H h => ?_
  simp only [tS, ex] at h
  refine preE h fun F A ρ d ρ1 v F1 H1 A1 B w hr e1 s1 o1 al dj p => ?_
  cases h0 : ρ1[i]? with
  | none => simp only [h0] at p; exact p.elim
  | some o0 =>
  cases o0 with
  | none => simp only [h0] at p; exact p.elim
  | some x =>
  simp only [h0] at p
  by_cases hc : (!shares e || d.pure) && quietL [p1] && quiet ix
  · rw [if_pos hc] at p
    simp only [Bool.and_eq_true] at hc
    obtain ⟨⟨hc, hqp⟩, hq⟩ := hc
    obtain ⟨u, C1, C2, g1, g2, g3, g4, g5, g6⟩ := s1.get h0
    obtain ⟨B', o', dj', sb⟩ := taken hc e1.wd o1 dj
    refine ⟨u, g1, ?_⟩
    have hR : tRs X.K mg call W [p1] σ H1 fun ks H3 => ∃ k, ks = [k] ∧ rIxL X.K u k H3 fun o H2 => tE X.K mg call ix W σ H2 fun k H3 => rSetL o k v H3 fun H4 => D.nx σ H4 := by
      refine seqR [p1] (e1.wd.sub Sb.l) s1 ?_
      cases hi : evR call [p1] ρ1 with
      | bad => simp only [hi, R.sbind] at p; exact p
      | err z ρ' => simp only [hi, R.sbind] at p; exact (p σ SK.refl).trans w (e1.sub Sb.l)
      | ok is ρ2 =>
        simp only [hi, R.sbind] at p
        intro ks F2 H2 A2 e2 s2 rl q
        obtain ⟨q1, q2, q3⟩ := q hqp
        subst q1 q3
        cases hj : intsO is with
        | none => simp only [hj] at p; exact p.elim
        | some js =>
        simp only [hj] at p
        by_cases hp : isPath js x = true
        · rw [if_pos hp] at p
          have hll := rl.lens
          rw [intsO_some hj] at rl hll
          match js, hll with
          | [j0], _ =>
          obtain ⟨kv, Bk, rfl, ok⟩ := rl.d1
          obtain ⟨xs, y, rfl, hat⟩ := isPath1 hp
          obtain ⟨jj, hjj, hy⟩ := atI_some hat
          have mv : ∀ {A : AS} a o, A a → H1 a = some o → H2 a = some o := fun a o _ h => q2 a o h
          have g2' : Own X.K mg F2 H2 u (.lst true xs) C1 := Own.move e2.fsame mv g2
          cases g2' with
          | fz z => exact absurd z.pure (by simp [VI.D.pure])
          | lst ha h1 h2 h3 h4 =>
          rename_i a ws C
          obtain ⟨w1, Bj, Br, f1, f2, f3, f4, f5, f6⟩ := h4.focus hy
          refine ⟨kv, rfl, a, ws, j0, w1, rfl, ok.int, SqL.of ha, atI_of (by rw [h4.len]; exact hjj) f1, ?_⟩
          refine ⟨F2, A2, ρ2, e2.wd, s2, ?_⟩
          cases hk : ev call ix ρ2 with
          | bad => simp only [hk] at p; exact p
          | err z ρ' => simp only [hk] at p; exact (p σ SK.refl).trans w ((e1.sub Sb.l).trans w e2)
          | ok k ρ3 =>
            simp only [hk] at p
            intro kv2 F3 H3 A3 B3 e3 s3 o3 _ _ q'
            obtain ⟨t1, t2, t3⟩ := q' hq
            subst t1 t3
            cases k <;> simp only at p <;> try exact p.elim
            rename_i k
            cases hset : atPath (setO k d) [j0] (.lst true xs) with
            | none => simp only [hset] at p; exact p.elim
            | some xr =>
              obtain ⟨x', r⟩ := xr
              simp only [hset] at p
              simp only [atPath, hat, Option.bind_some, Option.bind_eq_some_iff, Option.map_eq_some_iff, setAt] at hset
              obtain ⟨⟨y', r'⟩, hset, zs, ⟨j2, hj2, rfl⟩, hx⟩ := hset
              cases hx
              rw [hjj] at hj2
              cases hj2
              obtain ⟨ys, j, rfl, hj', rfl⟩ := setO_some hset
              have mv2 : ∀ {A : AS} a o, A a → H2 a = some o → H3 a = some o := fun a o _ h => t2 a o h
              have eB := Ext.frame (e1.wd.sub (cupSb sb)) dj' (e2.trans (e1.wd.sub Sb.l) (e3.sub Sb.l))
              have f2' : Own X.K mg F3 H3 w1 (.lst true ys) Bj := Own.move e3.fsame mv2 f2
              have o'' : Own X.K mg F3 H3 v d B' := Own.move (e2.fsame.trans e3.fsame) (fun a o h h' => mv2 a o h (mv a o h h')) o'
              obtain ⟨a2, ws2, rfl, ha2, hw2, hA2, ho2⟩ := set_in f2' hj' o'' fun c x y => dj' c (g5 c (h3 c (f4 c x))) y
              refine ⟨a2, ws2, k, j, rfl, o3.int, ha2, hw2, ?_⟩
              have na : a2 ≠ a := fun z => h2 (z ▸ f4 a2 hA2)
              have whole : Own X.K mg F3 (upd H3 a2 (.lst (ws2.set j v))) (.ref a) (.lst true (xs.set jj (.lst true (ys.set j d)))) (cup C1 B') := by
                refine .lst (vs := ws) (B := cup (cup Bj B') Br) (by rw [upd_ne (Ne.symm na)]; exact mv2 (A := C1) a _ h1 ha) (.inl h1) (fun z => ?_) (fun c hc => ?_) ?_
                · rcases z with (z | z) | z
                  · exact h2 (f4 a z)
                  · exact dj' a (g5 a h1) z
                  · exact h2 (f5 a z)
                · rcases hc with (hc | hc) | hc
                  · exact .inl (h3 c (f4 c hc))
                  · exact .inr hc
                  · exact .inl (h3 c (f5 c hc))
                · have := f6 F3 (upd H3 a2 (.lst (ws2.set j v))) _ (.lst true (ys.set j d)) (cup Bj B') e3.fsame (fun c x hc hx => by rw [upd_ne (fun z => f3 a2 hA2 (by rw [← z]; exact hc))]; exact mv2 (A := Br) c x hc hx) ho2 (fun c hc hr => hc.elim (fun hc => f3 c hc hr) fun hb => dj' c (g5 c (h3 c (f5 c hr))) hb)
                  rw [set_same _ _ _ f1] at this
                  exact this
              exact store_end w ((e1.sub (cupSb sb)).trans w eB.1) g1 (Slots.move (e2.fsame.trans e3.fsame) g3 fun a o h h1 => t2 a o (q2 a o h1)) g5 g6 g4 dj' (h3 a2 (f4 a2 hA2)) whole p
        · rw [if_neg hp] at p; exact p.elim
    refine tR_mono (fun k H3 h => ?_) hR
    obtain ⟨k', e, h⟩ := h
    cases e
    exact h
  · rw [if_neg hc] at p; exact p.elim
end
end VI

namespace VI
variable [Tn]
open PySem PySem.Spec PyProof.Rows L2
section
variable {K : PySem.W.Frag} {mg : Str → Option Value}
theorem Slots.wipe {F H : Hp} {σ : SG} {ρ : Env'} {A : AS} (s : Slots K mg F H σ ρ A) : ∀ own : List Nat, Slots K mg F H (L2.wipe σ own) (wipeD ρ own) A
  | [] => s
  | v :: vs => (Slots.wipe s vs).free v none
theorem Slots.rest {F H : Hp} {σ : SG} {ρ : Env'} {A : AS} (s : Slots K mg F H σ ρ A) : ∀ {σ2 : SG}, σ2.length = σ.length → (∀ (i : Nat) v, σ[i]? = some (some v) → σ2[i]? = some (some v)) → Slots K mg F H σ2 ρ A := by
  induction s with
  | nil => intro σ2 hl _; cases σ2 with | nil => exact .nil | cons _ _ => simp at hl
  | skip s ih =>
    intro σ2 hl h
    cases σ2 with
    | nil => simp at hl
    | cons u σ2 => exact .skip (ih (by simpa using hl) fun i v hv => by simpa using h (i + 1) v (by simpa using hv))
  | cons o s d s1 s2 ih =>
    intro σ2 hl h
    cases σ2 with
    | nil => simp at hl
    | cons u σ2 =>
      have h0 := h 0 _ rfl
      simp at h0
      subst h0
      exact .cons o (ih (by simpa using hl) fun i v hv => by simpa using h (i + 1) v (by simpa using hv)) d s1 s2
theorem wipe_get : ∀ (vs : List Nat) (σ : SG) (i : Nat), i ∈ vs → i < σ.length → (L2.wipe σ vs)[i]? = some none
  | [], _, _, h, _ => by simp at h
  | v :: vs, σ, i, h, hl => by
    unfold L2.wipe
    by_cases e : v = i
    · subst e
      rw [List.getElem?_set_self (by rw [wipe_length]; exact hl)]
    · rw [List.getElem?_set_ne e]
      exact wipe_get vs σ i (by simpa [Ne.symm e] using h) hl
theorem wipe_eq {vs : List Nat} {σ σ2 : SG} (hl : σ2.length = σ.length) (h : ∀ i, i ∉ vs → σ2[i]? = (L2.wipe σ vs)[i]?) : L2.wipe σ2 vs = L2.wipe σ vs := by
  refine List.ext_getElem? fun i => ?_
  by_cases hi : i ∈ vs
  · by_cases hlt : i < σ.length
    · rw [wipe_get vs σ i hi hlt, wipe_get vs σ2 i hi (by rw [hl]; exact hlt)]
    · rw [List.getElem?_eq_none (by rw [wipe_length, hl]; omega), List.getElem?_eq_none (by rw [wipe_length]; omega)]
  · rw [wipe_out hi, h i hi]
end
section
variable {X : Cx} {mg : Str → Option Value} {call : CallT} {W : WX} {pr : Nat → Bool}
/-- no exception -/
abbrev W0 : WX := fun _ _ _ _ => False
def tTs (K : PySem.W.Frag) (mg : Str → Option Value) (call : CallT) : List E → TT
  | [] => tYes
  | [c] => tT K mg call c W0
  | _ => fun _ _ _ => False
def PostTs (K : PySem.W.Frag) (mg : Str → Option Value) (F H : Hp) (A : AS) (σ : SG) (r : R Bool) (Q : Bool → Hp → Prop) : Prop := match r with
  | .ok k ρ' => ∀ F' H' A', Ext F H A F' H' A' → Slots K mg F' H' σ ρ' A' → Q k H'
  | _ => False
/-- an error within a block: never -/
theorem no_px {K : PySem.W.Frag} {F H : Hp} {A : AS} {σ : SG} {r : R D} : True := trivial
theorem preTs {K : PySem.W.Frag} {cs : List E} {F H : Hp} {A : AS} {σ : SG} {ρ : Env'} {Q : Bool → Hp → Prop} (w : Wd F H A) (s : Slots K mg F H σ ρ A) (p : PostTs K mg F H A σ (lcTests call cs ρ) Q) : tTs K mg call cs σ H Q := by
  match cs with
  | [] => simp only [lcTests, PostTs] at p; exact p F H A (Ext.refl w) s
  | [c] =>
    simp only [lcTests] at p
    refine ⟨F, A, ρ, w, s, ?_⟩
    cases hr : ev call c ρ with
    | bad => simp only [hr, R.bind, PostTs] at p
    | err x ρ' => simp only [hr, R.bind, PostTs] at p
    | ok d ρ1 =>
      simp only [hr, R.bind] at p
      cases hk : truD d with
      | none => simp only [hk, R.of, PostTs] at p
      | some k => simp only [hk, R.of, PostTs] at p; exact ⟨k, hk, p⟩
  | _ :: _ :: _ => simp only [lcTests, PostTs] at p
def PostL (K : PySem.W.Frag) (mg : Str → Option Value) (F H : Hp) (A : AS) (σ : SG) (r : R (List D)) (Q : VK) : Prop := match r with
  | .ok acc ρ' => ∀ v F' H' A' B, Ext F H A F' H' (cup A' B) → Slots K mg F' H' σ ρ' A' → Own K mg F' H' v (.lst true acc) B → Dj A' B → Q v H'
  | _ => False
theorem PostL.pre {K : PySem.W.Frag} {F H F1 H1 : Hp} {A A1 : AS} {σ : SG} {r : R (List D)} {Q : VK} (w : Wd F H A) (e : Ext F H A F1 H1 A1) (p : PostL K mg F H A σ r Q) : PostL K mg F1 H1 A1 σ r Q := by
  cases r with
  | ok acc ρ' => exact fun v F' H' A' B x => p v F' H' A' B (e.trans w x)
  | err z ρ' => exact p
  | bad => exact p
def lcF (call : CallT) (el : E) (t : T) (cs : List E) : D → Env' → R (Option D) := fun x ρ => match t.put x ρ with
  | none => .bad
  | some ρ1 => (lcTests call cs ρ1).bind fun k ρ2 => if k then (ev call el ρ2).bind fun d ρ3 => if !shares el || d.pure then .ok (some d) ρ3 else .bad else .ok none ρ2
abbrev one (D : Addr) : AS := fun a => a = D
mutual
theorem T.put_len : ∀ (t : T) {d : VI.D} {ρ ρ' : Env'}, t.put d ρ = some ρ' → ρ'.length = ρ.length
  | .slot i, d, ρ, ρ', h => by
    simp only [T.put] at h
    split at h
    · cases h; simp
    · cases h
  | .tup ts, d, ρ, ρ', h => by
    cases d <;> simp only [T.put] at h <;> first | exact putL_len ts h | cases h
theorem putL_len : ∀ (ts : List T) {ds : List VI.D} {ρ ρ' : Env'}, putL ts ds ρ = some ρ' → ρ'.length = ρ.length
  | [], ds, ρ, ρ', h => by cases ds <;> simp [putL] at h; rw [h]
  | t :: ts, ds, ρ, ρ', h => by
    cases ds with
    | nil => simp [putL] at h
    | cons d ds =>
      simp only [putL, Option.bind_eq_some_iff] at h
      obtain ⟨ρ1, h1, h2⟩ := h
      rw [putL_len ts h2, T.put_len t h1]
end
theorem lc_pre {k : ItK} {el : E} {t : T} {es cs : List E} {own : List Nat} {σ : SG} {H : Hp} {Q : VK}
    (h : tE X.K mg call (.lc el t k es cs own) W σ H Q) : tLc (tI X.K mg call W k es) (gT X.K mg (fun i => !own.contains i) t) (tTs X.K mg call cs) (tE X.K mg call el W0) own σ H Q := by
  obtain ⟨F, A, ρ, w, s, p⟩ := h
  simp only [ev] at p
  refine ⟨F, A, ρ, w, s, ?_⟩
  cases hr : evC call es ρ with
  | bad => simp only [hr, R.bind] at p; exact p
  | err x ρ' => simp only [hr, R.bind] at p; exact p
  | ok ds ρ1 =>
  simp only [hr, R.bind] at p
  by_cases hc : canL ds = true
  · rw [if_pos hc] at p
    cases hx : itD k (frzL ds) with
    | none => simp only [hx] at p; exact p.elim
    | some xs =>
    simp only [hx] at p
    refine ⟨hc, xs, hx, fun J F1 H1 A1 e1 s1 iw D hD => ?_⟩
    have p1 : PostL X.K mg F1 H1 A1 σ (lcLoop (lcF call el t cs) own xs [] (wipeD ρ1 own)) Q := by
      change PostE X.K mg W F H A σ _ _ ρ ((lcLoop (lcF call el t cs) own xs [] (wipeD ρ1 own)).bind fun acc ρ2 => .ok (.lst true acc) ρ2) Q at p
      have noerr : ∀ {xs acc ρ x ρ'}, lcLoop (lcF call el t cs) own xs acc ρ ≠ .err x ρ' := by
        intro xs
        induction xs with
        | nil => intro acc ρ x ρ' h; simp [lcLoop] at h
        | cons y ys ih =>
          intro acc ρ x ρ' h
          unfold lcLoop at h
          split at h
          · split at h
            · exact ih h
            · cases h
          · exact ih h
          · cases h
      cases hl : lcLoop (lcF call el t cs) own xs [] (wipeD ρ1 own) with
      | bad => rw [hl] at p; exact p
      | err x ρ' => exact absurd hl noerr
      | ok acc ρ2 =>
        rw [hl] at p
        exact fun v F' H' A' B x sl o dj => p v F' H' A' B (e1.trans w x) sl o (fun z => by simp [shares] at z) (fun _ => dj) fun z => by simp [quiet] at z
    have nA : ∀ a, A1 a → a ≠ D := fun a ha => e1.wd.nq ha hD
    have e2 := Ext.laid (o := .lst []) e1.wd hD
    have lay : ∀ a o, H1 a = some o → upd H1 D (.lst []) a = some o := fun a o h => by rw [upd_ne (ne_of_none h hD)]; exact h
    refine ⟨fun i m H => i ≤ xs.length ∧ m = xs.length - i ∧ ∃ F A B vs acc ρ, Same F1 F ∧ Wd F H (cup A (cup (one D) B)) ∧ Dj A (cup (one D) B) ∧ ¬ B D ∧ H D = some (.lst vs) ∧ OwnL X.K mg F H vs acc B ∧ Slots X.K mg F H (L2.wipe σ own) ρ A ∧
      PostL X.K mg F H (cup A (cup (one D) B)) σ (lcLoop (lcF call el t cs) own (xs.drop i) acc ρ) Q, ⟨xs.length, Nat.zero_le _, by simp, F1, A1, no, [], [], wipeD ρ1 own, fun _ _ e => e, ?_, ?_, fun z => z, upd_same, .nil, ?_, ?_⟩, ?_⟩
    · exact e2.wd.sub fun a h => h.elim .inr fun h => h.elim .inl fun h => h.elim
    · exact fun a h h' => h'.elim (nA a h) fun h => h
    · exact Slots.move (fun _ _ e => e) (s1.wipe own) fun a o _ h => lay a o h
    · rw [List.drop_zero]
      exact p1.pre e1.wd (e2.sub fun a h => h.elim .inr fun h => h.elim .inl fun h => h.elim)
    rintro i m H2 ⟨hi, rfl, F2, A2, B2, vs, acc, ρ2, sm, w2, dj2, nB, hD2, ol, s2, p2⟩
    have iw2 := iw.up sm
    by_cases hlt : i < xs.length
    · refine .inr ⟨iw2.goes i H2 hlt w2.same, _, fun H' h' => ⟨xs.length - (i + 1), by omega, h'⟩, fun x H3 y => ?_⟩
      obtain ⟨d, F3, hd, e3, fz, sm3⟩ := iw2.item w2 hlt y
      have hdr : xs.drop i = d :: xs.drop (i + 1) := by
        rw [List.drop_eq_getElem_cons hlt]
        rw [List.getElem?_eq_getElem hlt] at hd
        cases hd; rfl
      rw [hdr] at p2
      simp only [lcLoop, lcF] at p2
      cases ht : t.put d ρ2 with
      | none => simp only [ht] at p2; exact p2.elim
      | some ρ3 =>
      simp only [ht] at p2
      refine ⟨F3, A2, no, ρ2, d, ρ3, by rw [cup_no']; exact e3.wd.sub Sb.l, Slots.move e3.fsame s2 fun a o _ h => sm3 a o h, .fz fz, Dj.no_r, ht, fun σ4 A4 sb4 sl4 sk4 => ?_⟩
      have sb4' : Sb A4 A2 := fun z x => (sb4 z x).elim id fun z => z.elim
      have hw4 : L2.wipe σ4 own = L2.wipe σ own := by
        refine wipe_eq ?_ fun j hj => sk4 j (by simpa using hj)
        have := sl4.length
        have h2 := s2.length
        have h3 : ∀ {t : T} {d ρ ρ'}, t.put d ρ = some ρ' → ρ'.length = ρ.length := fun {t} => T.put_len t
        rw [this, h3 ht, ← h2, wipe_length]
      refine ⟨hw4, ?_⟩
      -- the next turn
      have next : ∀ {F5 H5 : Hp} {A5 : AS} {ρ5 : Env'}, Ext F3 H3 A4 F5 H5 A5 → Slots X.K mg F5 H5 σ4 ρ5 A5 → PostL X.K mg F2 H2 (cup A2 (cup (one D) B2)) σ (lcLoop (lcF call el t cs) own (xs.drop (i + 1)) acc (wipeD ρ5 own)) Q →
          (i + 1 ≤ xs.length ∧ xs.length - (i + 1) = xs.length - (i + 1) ∧ ∃ F A B vs acc ρ, Same F1 F ∧ Wd F H5 (cup A (cup (one D) B)) ∧ Dj A (cup (one D) B) ∧ ¬ B D ∧ H5 D = some (.lst vs) ∧ OwnL X.K mg F H5 vs acc B ∧ Slots X.K mg F H5 (L2.wipe σ own) ρ A ∧
            PostL X.K mg F H5 (cup A (cup (one D) B)) σ (lcLoop (lcF call el t cs) own (xs.drop (i + 1)) acc ρ) Q) := fun {F5 H5 A5 ρ5} e5 s5 p5 => by
        obtain ⟨g1, g2⟩ := Ext.frame e3.wd dj2 (e5.more sb4')
        refine ⟨hlt, rfl, F5, A5, B2, vs, acc, wipeD ρ5 own, sm.trans (e3.fsame.trans e5.fsame), g1.wd, g2, nB, e5.keep D _ (sm3 D _ hD2) (fun z => dj2 D (sb4' D z) (.inl rfl)) (fun _ z => nomatch z), ?_, by rw [← hw4]; exact s5.wipe own, p5.pre w2 (e3.trans w2 g1)⟩
        exact (OwnL.move e3.fsame (fun a o _ h => sm3 a o h) ol).ext e5 fun a x y => dj2 a (sb4' a x) (.inr y)
      refine preTs (e3.wd.sub fun a h => .inl (sb4' a h)) sl4 ?_
      cases hT : lcTests call cs ρ3 with
      | bad => simp only [hT, R.bind] at p2; exact p2
      | err z ρ' => simp only [hT, R.bind] at p2; exact p2
      | ok k ρ4 =>
      simp only [hT, R.bind] at p2
      intro F5 H5 A5 e5 s5
      cases k with
      | false =>
        rw [if_neg Bool.false_ne_true]
        simp only [Bool.false_eq_true, if_false] at p2
        exact next e5 s5 p2
      | true =>
        rw [if_pos rfl]
        simp only [if_true] at p2
        refine ⟨F5, A5, ρ4, e5.wd, s5, ?_⟩
        cases hE : ev call el ρ4 with
        | bad => simp only [hE] at p2; exact p2
        | err z ρ' => simp only [hE] at p2; exact p2.elim
        | ok dy ρ5 =>
        simp only [hE] at p2
        intro u F6 H6 A6 B6 e6 s6 o6 al6 dj6 _
        by_cases hcc : (!shares el || dy.pure) = true
        · simp only [hcc, if_true] at p2
          by_cases hlen : acc.length < lim
          · rw [if_pos hlen] at p2
            obtain ⟨B6', o6', dj6', sb6⟩ := taken hcc e6.wd o6 dj6
            have e36 : Ext F3 H3 A4 F6 H6 (cup A6 B6') := (e5.trans (e3.wd.sub fun a h => .inl (sb4' a h)) e6).sub (cupSb sb6)
            obtain ⟨g1, g2⟩ := Ext.frame e3.wd dj2 (e36.more sb4')
            have hD6 : H6 D = some (.lst vs) := e36.keep D _ (sm3 D _ hD2) (fun z => dj2 D (sb4' D z) (.inl rfl)) (fun _ z => nomatch z)
            have ol6 : OwnL X.K mg F6 H6 vs acc B2 := (OwnL.move e3.fsame (fun a o _ h => sm3 a o h) ol).ext e36 fun a x y => dj2 a (sb4' a x) (.inr y)
            refine ⟨vs, hD6, by rw [szl, ol6.len]; exact hlen, ?_⟩
            have eP := Ext.put (o := .lst (vs ++ [u])) g1.wd (p := D) (.inr (.inl rfl))
            have keep : ∀ {C : AS} a o, ¬ C D → C a → H6 a = some o → upd H6 D (.lst (vs ++ [u])) a = some o := fun a o nC hC h => by rw [upd_ne (fun z => nC (by rw [← z]; exact hC))]; exact h
            have nD : ¬ (cup A6 B6') D := fun z => g2 D z (.inl rfl)
            have re : ∀ a, (cup A6 (cup (one D) (cup B2 B6'))) a → (cup (cup A6 B6') (cup (one D) B2)) a := fun a h => by
              rcases h with h | h | h | h
              · exact .inl (.inl h)
              · exact .inr (.inl h)
              · exact .inr (.inr h)
              · exact .inl (.inr h)
            refine ⟨hlt, rfl, F6, A6, cup B2 B6', vs ++ [u], acc ++ [dy], wipeD ρ5 own, sm.trans (e3.fsame.trans e36.fsame), eP.wd.sub re, fun a x y => ?_, fun z => z.elim nB fun z => nD (.inr z), upd_same, ?_, ?_, p2.pre w2 ((e3.trans w2 (g1.trans e3.wd eP)).sub re)⟩
            · rcases y with y | y | y
              · exact g2 a (.inl x) (.inl y)
              · exact g2 a (.inl x) (.inr y)
              · exact dj6' a x y
            · refine OwnL.append (OwnL.move (fun _ _ e => e) (fun a o hC h => keep (C := B2) a o nB hC h) ol6) (OwnL.move (fun _ _ e => e) (fun a o hC h => keep (C := B6') a o (fun z => nD (.inr z)) hC h) (.cons o6' .nil Dj.no_r Sb.rfl' Sb.no_l)) fun a x y => g2 a (.inr y) (.inr x)
            · rw [← hw4]
              exact Slots.move (fun _ _ e => e) (s6.wipe own) fun a o hC h => keep (C := A6) a o (fun z => nD (.inl z)) hC h
          · rw [if_neg hlen] at p2; exact p2.elim
        · simp only [hcc] at p2; exact p2.elim
    · have e : i = xs.length := by omega
      subst e
      refine .inl ⟨iw2.stops H2 w2.same, ?_⟩
      rw [List.drop_length] at p2
      simp only [lcLoop] at p2
      exact p2 (.ref D) F2 H2 A2 (cup (one D) B2) (Ext.refl w2) (s2.rest (by rw [wipe_length]) fun i v h => (wipe_some h).1) (.lst hD2 (.inl rfl) nB Sb.r ol) dj2
  · rw [if_neg hc] at p; exact p.elim
theorem pe_lcE {k : ItK} {el : E} {t : T} {es cs : List E} {own : List (Str × Nat)} {ow : List Nat} (how : ow = own.map (·.2)) {elt tg iter : Expr} {ifs : List Expr} {scope : Scope} {pos : Pos} (hc : X.calm = true) (hN : X.N.Nodup) (ok : BlkOk X.N X.env.scope scope own)
    (hi : PI X tg iter (tI X.K mg call W k es))
    (hg : ∀ (s : Shared) (H : Hp) (C : Addr) (cl : List (Str × Addr)) (fp : List Addr), PG (X.blk s H scope (compEnvC scope cl C X.env) fp) tg (gT X.K mg (fun i => !ow.contains i) t))
    (ht : ∀ (s : Shared) (H : Hp) (C : Addr) (cl : List (Str × Addr)) (fp : List Addr), PTs (X.blk s H scope (compEnvC scope cl C X.env) fp) ifs (tTs X.K mg call cs))
    (he : ∀ (s : Shared) (H : Hp) (C : Addr) (cl : List (Str × Addr)) (fp : List Addr), PE (X.blk s H scope (compEnvC scope cl C X.env) fp) elt (tE X.K mg call el W0)) (hs : ∀ x, foldedSetIterable iter X.env x = pure x) :
    PE X (.ListComp elt [⟨tg, iter, ifs, 0⟩] scope pos) (tE X.K mg call (.lc el t k es cs ow) W) := by
  subst how
  exact PE.weak (pe_lc hc hN hi ok hg ht he hs) fun σ H Q h => lc_pre h
theorem psE_setLc {i : Nat} {k : ItK} {el : E} {t : T} {es cs : List E} {own : List (Str × Nat)} {ow : List Nat} (how : ow = own.map (·.2)) {elt tg iter : Expr} {ifs : List Expr} {scope : Scope} {pos spos py : Pos} {y : Str} (hp : pr i = false) (hc : X.calm = true) (hN : X.N.Nodup) (ok : BlkOk X.N X.env.scope scope own)
    (hy : X.N[i]? = some y) (hyl : X.env.scope.names.lookup y = some .local) (hsw : swapsWith (.ListComp elt [⟨tg, iter, ifs, 0⟩] scope pos) (some (.Name y py)) spos.line X.env = pure true)
    (hi : PI X tg iter (tI X.K mg call W k es))
    (hg : ∀ (s : Shared) (H : Hp) (C : Addr) (cl : List (Str × Addr)) (fp : List Addr), PG (X.blk s H scope (compEnvC scope cl C X.env) fp) tg (gT X.K mg (fun i => !ow.contains i) t))
    (ht : ∀ (s : Shared) (H : Hp) (C : Addr) (cl : List (Str × Addr)) (fp : List Addr), PTs (X.blk s H scope (compEnvC scope cl C X.env) fp) ifs (tTs X.K mg call cs))
    (he : ∀ (s : Shared) (H : Hp) (C : Addr) (cl : List (Str × Addr)) (fp : List Addr), PE (X.blk s H scope (compEnvC scope cl C X.env) fp) elt (tE X.K mg call el W0)) (hs : ∀ x, foldedSetIterable iter X.env x = pure x) :
    PS X (.Assign [.Name y py] (.ListComp elt [⟨tg, iter, ifs, 0⟩] scope pos) spos) (tS X.K mg W pr (ex call (.asg (.slot i) (.lc el t k es cs ow)))) := by
  subst how
  have h0 := ps_setLc (spos := spos) hc hN hy hyl hsw hi ok hg ht he hs
  refine PS.weak h0 fun D σ H h => ?_
  simp only [tS, ex] at h
  refine lc_pre (Q := fun x H1 => gName i x σ H1 D.nx) (preE h fun F A ρ d ρ1 v F' H' A' B w hr ex s' o al dj p => ?_)
  split at p
  · rename_i hc
    obtain ⟨B', o', dj', sb⟩ := taken hc ex.wd o dj
    split at p
    · rename_i ρ2 hput
      simp only [T.put] at hput
      split at hput
      · rename_i hi
        cases hput
        refine p _ F' H' (cup B' A') (ex.sub ?_) (Slots.put o' s' dj'.symm ?_) (SK.set hp)
        · rw [cup_comm]; exact cupSb sb
        · rw [List.getElem?_eq_getElem (by rw [s'.length]; exact hi)]; rfl
      · cases hput
    · exact p.elim
  · exact p.elim
/-! ### two, three at once -/
theorem psE_multi {is : List Nat} {es : List E} {st : Stmt} (hp : ∀ i ∈ is, pr i = false) (h : PS X st (fun D σ H => tCs X.K mg call W es σ H fun vs H1 => vs.length = is.length ∧ D.nx ((is.zip vs).foldl (fun σ p => σ.set p.1 (some p.2)) σ) H1)) : PS X st (tS X.K mg W pr (ex call (.multi is es))) := by
  refine PS.weak h fun D σ H h => ?_
  obtain ⟨F, A, ρ, w, s, p⟩ := h
  simp only [ex] at p
  refine seqC es w s ?_
  cases hr : evC call es ρ with
  | bad => simp only [hr, R.sbind] at p; exact p
  | err x ρ' => simp only [hr, R.sbind] at p; exact p σ SK.refl
  | ok ds ρ1 =>
    simp only [hr, R.sbind] at p
    intro vs F1 H1 A1 B e1 s1 ol dj _
    have go : ∀ {is : List Nat} {vs : List V} {ds : List VI.D} {σ : SG} {ρ ρ2 : Env'} {A B : AS}, (∀ i ∈ is, pr i = false) → putAll is ds ρ = some ρ2 → OwnL X.K mg F1 H1 vs ds B → Slots X.K mg F1 H1 σ ρ A → Dj A B →
        vs.length = is.length ∧ ∃ C, Sb C (cup A B) ∧ Slots X.K mg F1 H1 ((is.zip vs).foldl (fun σ p => σ.set p.1 (some p.2)) σ) ρ2 C ∧ SK pr σ ((is.zip vs).foldl (fun σ p => σ.set p.1 (some p.2)) σ) := by
      intro is
      induction is with
      | nil =>
        intro vs ds σ ρ ρ2 A B _ h ol s dj
        cases ds with
        | nil => cases ol; simp only [putAll, Option.some.injEq] at h; subst h; exact ⟨rfl, A, Sb.l, s, SK.refl⟩
        | cons _ _ => simp [putAll] at h
      | cons i is ih =>
        intro vs ds σ ρ ρ2 A B hp h ol s dj
        cases ol with
        | nil => simp [putAll] at h
        | cons o1 o2 d12 t1 t2 =>
          rename_i v d vs ds B1 B2
          simp only [putAll] at h
          split at h
          · rename_i hi
            have s2 := Slots.put o1 s (Dj.symm fun a x y => dj a x (t1 a y)) (i := i) (by rw [List.getElem?_eq_getElem (by rw [s.length]; exact hi)]; rfl)
            obtain ⟨hl, C, c1, c2, c3⟩ := ih (fun j hj => hp j (by simp [hj])) h o2 s2 fun a x y => x.elim (fun x => d12 a x y) fun x => dj a x (t2 a y)
            refine ⟨by simp [hl], C, fun a x => ?_, c2, (SK.set (hp i (by simp))).trans c3⟩
            rcases c1 a x with (x | x) | x
            · exact .inr (t1 a x)
            · exact .inl x
            · exact .inr (t2 a x)
          · cases h
    cases hput : putAll is ds ρ1 with
    | none => simp only [hput] at p; exact p.elim
    | some ρ2 =>
      simp only [hput] at p
      obtain ⟨hl, C, c1, c2, c3⟩ := go hp hput ol s1 dj
      exact ⟨hl, p _ F1 H1 C (e1.sub c1) c2 c3⟩
end
end VI

namespace VI
variable [Tn]
open PySem PySem.Spec PyProof.Rows L2
section
variable {X : Cx} {mg : Str → Option Value} {call : CallT} {W : WX} {pr : Nat → Bool}
/-- d[k] -/
theorem pe_dgetE (hu : X.A.units + 1 < cLine) {e1 e2 : E} {a b : Expr} {pos : Pos} (hs : NoSl b) (ha : PE X a (tR X.K mg call W e1)) (hb : PE X b (tR X.K mg call W e2)) : PE X (.Subscript a b pos) (tE X.K mg call (.op .dget [e1, e2]) W) := by
  refine opFin (r := on2 fun x y H Q => ∃ a v, x = .ref a ∧ DGet H a y (some v) ∧ Q v H) (pe_dget hu ha hb hs) fun {F H A vs ds d Q} w rl hd _ rs => ?_
  obtain ⟨l1, _⟩ := rl.lens
  match ds, l1 with
  | [d1, d2], _ =>
    obtain ⟨v1, v2, B1, B2, rfl, o1, o2⟩ := rl.d2
    simp only [opD, Option.bind_eq_some_iff] at hd
    obtain ⟨r, h1, d', h2, h3⟩ := hd
    obtain ⟨rfl, hp⟩ := pureO_some h3
    obtain ⟨p, r', rfl, _, g, h4, _⟩ := dfind_ok w.same o1 o2 h1
    obtain ⟨y, B', rfl, oy⟩ := h4 _ h2
    exact ⟨p, y, rfl, g, rs.fz w (oy.fzd hp)⟩
/-- k in d -/
theorem pe_dinE (hu : X.A.units + 1 < cLine) {neg : Bool} {e1 e2 : E} {a b : Expr} {pos : Pos} (hm : behindInMarks (if neg then .NotIn else .In) b = false) (ha : PE X a (tR X.K mg call W e1)) (hb : PE X b (tR X.K mg call W e2)) :
    PE X (.Compare a [if neg then .NotIn else .In] [b] pos) (tE X.K mg call (.op (.din neg) [e1, e2]) W) := by
  have go : PE X (.Compare a [if neg then .NotIn else .In] [b] pos) (fun σ H Q => tR X.K mg call W e1 σ H fun y H1 => tR X.K mg call W e2 σ H1 fun x H2 => ∃ a o, x = .ref a ∧ DGet H2 a y o ∧ Q (.bl (o.isSome != neg)) H2) := by
    cases neg with
    | false => exact PE.weak (pe_cmp (pc_din hu ha hb) hm) fun σ H Q h => by simpa [tDIn] using h
    | true => exact PE.weak (pe_cmp (pc_dnotin hu ha hb) hm) fun σ H Q h => by simpa [tDNotIn] using h
  refine opFin (r := on2 fun y x H Q => ∃ a o, x = .ref a ∧ DGet H a y o ∧ Q (.bl (o.isSome != neg)) H) go fun {F H A vs ds d Q} w rl hd _ rs => ?_
  obtain ⟨l1, _⟩ := rl.lens
  match ds, l1 with
  | [d1, d2], _ =>
    obtain ⟨v1, v2, B1, B2, rfl, o1, o2⟩ := rl.d2
    simp only [opD, Option.map_eq_some_iff] at hd
    obtain ⟨r, h1, rfl⟩ := hd
    obtain ⟨p, r', rfl, _, g, h4, h5⟩ := dfind_ok w.same o2 o1 h1
    refine ⟨p, r', rfl, g, ?_⟩
    have e : r'.isSome = r.isSome := by
      cases r with
      | none => rw [h5 rfl]; rfl
      | some z => obtain ⟨y, _, rfl, _⟩ := h4 z rfl; rfl
    rw [e]; exact rs.bl w
theorem pt_dinE (hu : X.A.units + 1 < cLine) {neg : Bool} {e1 e2 : E} {a b : Expr} {pos : Pos} (hm : behindInMarks (if neg then .NotIn else .In) b = false) (ha : PE X a (tR X.K mg call W e1)) (hb : PE X b (tR X.K mg call W e2)) :
    PT X (.Compare a [if neg then .NotIn else .In] [b] pos) (tT X.K mg call (.op (.din neg) [e1, e2]) W) := by
  have go : PT X (.Compare a [if neg then .NotIn else .In] [b] pos) (fun σ H Q => tR X.K mg call W e1 σ H fun y H1 => tR X.K mg call W e2 σ H1 fun x H2 => ∃ a o, x = .ref a ∧ DGet H2 a y o ∧ Q (o.isSome != neg) H2) := by
    cases neg with
    | false =>
      refine PT.weak (pt_cmp (pc_din hu ha hb) hm) fun σ H Q h => ?_
      refine tR_mono (fun v H1 h => tR_mono (fun u H2 h => ?_) h) h
      obtain ⟨a, o, e, g, q⟩ := h
      exact ⟨a, o, e, g, _, rfl, by simpa using q⟩
    | true =>
      refine PT.weak (pt_cmp (pc_dnotin hu ha hb) hm) fun σ H Q h => ?_
      refine tR_mono (fun v H1 h => tR_mono (fun u H2 h => ?_) h) h
      obtain ⟨a, o, e, g, q⟩ := h
      exact ⟨a, o, e, g, _, rfl, by simpa using q⟩
  refine PT.weak go fun σ H Q h => ?_
  obtain ⟨F, A, ρ, w, s, p⟩ := h
  show tRs X.K mg call W [e1, e2] σ H fun vs H2 => (on2 fun y x H' Q' => ∃ a o, x = .ref a ∧ DGet H' a y o ∧ Q (o.isSome != neg) H') vs H2 fun _ _ => True
  refine seqR _ w s ?_
  simp only [ev] at p
  cases he : evR call [e1, e2] ρ with
  | bad => simp only [he, R.bind, PostT] at p
  | err x ρ' => simp only [he, R.bind, PostT] at p; exact p
  | ok ds ρ' =>
    simp only [he, R.bind] at p
    cases hd : opD (.din neg) ds with
    | none => simp only [hd, PostT] at p
    | some d =>
      simp only [hd] at p
      intro vs F' H' A' ex s' rl q
      obtain ⟨l1, _⟩ := rl.lens
      match ds, l1 with
      | [d1, d2], _ =>
        obtain ⟨v1, v2, B1, B2, rfl, o1, o2⟩ := rl.d2
        simp only [opD, Option.map_eq_some_iff] at hd
        obtain ⟨r, h1, rfl⟩ := hd
        obtain ⟨pp, r', rfl, _, g, h4, h5⟩ := dfind_ok ex.wd.same o2 o1 h1
        have hc : (Op.din neg != Op.ix || (D.bl (r.isSome != neg)).pure || sharesL [e1, e2]) = true := by simp [D.pure]
        rw [if_pos hc] at p
        obtain ⟨k', hk', p⟩ := p
        simp only [truD, Option.some.injEq] at hk'
        subst hk'
        refine ⟨pp, r', rfl, g, ?_⟩
        have e : r'.isSome = r.isSome := by
          cases r with
          | none => rw [h5 rfl]; rfl
          | some z => obtain ⟨y, _, rfl, _⟩ := h4 z rfl; rfl
        rw [e]; exact p F' H' A' ex s'
theorem OwnL.d2 {K : PySem.W.Frag} {F H : Hp} {B : AS} {vs : List V} {d e : D} (h : OwnL K mg F H vs [d, e] B) : ∃ v w B1 B2, vs = [v, w] ∧ Own K mg F H v d B1 ∧ Own K mg F H w e B2 := by
  cases h with | cons o r _ _ _ => cases r with | cons o2 r _ _ _ => cases r; exact ⟨_, _, _, _, rfl, o, o2⟩
theorem isD_of {K : PySem.W.Frag} {F H : Hp} {B : AS} {v : V} {d : D} (s : Same F H) (o : Own K mg F H v d B) (h : isDct d = true) : ∃ a, v = .ref a ∧ IsD H a := by
  cases d <;> simp only [isDct, Bool.false_eq_true] at h
  · obtain ⟨a, vs, rfl, hr, _⟩ := o.dicv s
    exact ⟨a, rfl, .inl ⟨vs, hr⟩⟩
  · obtain ⟨a, vs, rfl, hr, _⟩ := o.ditv s
    exact ⟨a, rfl, .inr ⟨vs, hr⟩⟩
/-- d.get(k, x) -/
theorem pe_dget2E {i : Nat} {as : List E} {ast : Expr} {e1 e2 : E} (has : as = [e1, e2]) (h : PE X ast (tDGet2 (tVar i) (tE X.K mg call e1 W) (tE X.K mg call e2 W))) : PE X ast (tE X.K mg call (.dget2 i as) W) := by
  subst has
  refine PE.weak h fun σ H Q h => ?_
  obtain ⟨F, A, ρ, w, s, p⟩ := h
  simp only [ev] at p
  cases h0 : ρ[i]? with
  | none => simp only [h0] at p; exact p.elim
  | some o0 =>
  cases o0 with
  | none => simp only [h0] at p; exact p.elim
  | some d0 =>
  simp only [h0] at p
  obtain ⟨v, A1, A2, hv, ox, _, _, _, _⟩ := s.get h0
  split at p
  · rename_i hc
    obtain ⟨a, rfl, hisd⟩ := isD_of w.same ox hc
    refine ⟨.ref a, hv, a, rfl, hisd, ?_⟩
    show tCs X.K mg call W [e1, e2] σ H fun vs H3 => (on2 fun y z H Q => ∃ o, DGet H a y o ∧ Q (o.getD z) H) vs H3 Q
    refine seqC _ w s ?_
    cases hr : evC call [e1, e2] ρ with
    | bad => simp only [hr] at p; exact p
    | err z ρ' => simp only [hr] at p; exact p
    | ok ds ρ2 =>
      simp only [hr, R.bind] at p
      intro vs F1 H1 A1 B1 ex1 s1 ol dj _
      cases h1 : ρ2[i]? with
      | none => simp only [h1] at p; exact p.elim
      | some o1 =>
      cases o1 with
      | none => simp only [h1] at p; exact p.elim
      | some d1 =>
      simp only [h1] at p
      cases h2 : dget2O d1 ds with
      | none => simp only [h2, R.of] at p; exact p.elim
      | some r =>
        simp only [h2, R.of] at p
        obtain ⟨v2, C1, C2, g1, g2, g3, g4, g5, g6⟩ := s1.get h1
        rw [hv] at g1
        cases g1
        unfold dget2O at h2
        split at h2 <;> first | contradiction | skip
        rename_i k x
        obtain ⟨y, z, B1', B2', rfl, oy, oz⟩ := ol.d2
        rw [Option.bind_eq_some_iff] at h2
        obtain ⟨ro, h3, h4⟩ := h2
        obtain ⟨a', r', e', _, g, k1, k2⟩ := dfind_ok ex1.wd.same g2 oy h3
        cases e'
        refine ⟨r', g, ?_⟩
        have fin : ∀ u, Fz X.K F1 u r → Q u H1 := fun u fz => p u F1 H1 _ no (by rw [cup_no']; exact ex1.sub Sb.l) s1 (.fz fz) (fun z => by simp [shares] at z) (fun _ => Dj.no_r) fun z => by simp [quiet] at z
        cases ro with
        | none =>
          rw [k2 rfl]
          obtain ⟨rfl, hp⟩ := pureO_some h4
          exact fin z (oz.fzd hp)
        | some q =>
          obtain ⟨u, B', rfl, ou⟩ := k1 q rfl
          obtain ⟨rfl, hp⟩ := pureO_some h4
          exact fin u (ou.fzd hp)
  · exact p.elim
/-- {} -/
theorem pe_dnewE {t : Bool} {pos : Pos} : PE X (.Dict [] [] pos) (tE X.K mg call (.dnew t) W) := by
  have lay : ∀ {σ : SG} {F H : Hp} {A : AS} {ρ : Env'} {Q : VK} {o : HO} {d : D}, Wd F H A → Slots X.K mg F H σ ρ A → (∀ p H', H' p = some o → Own X.K mg F H' (.ref p) d (one p)) → Mtb o → PostE X.K mg W F H A σ false false ρ (.ok d ρ) Q → ∀ p, H p = none → Q (.ref p) (upd H p o) := fun {σ F H A ρ Q o d} w s ho mu p q hq => by
    have e2 := Ext.laid (o := o) w hq mu
    refine p (.ref q) F _ A (one q) (e2.sub fun a h => h.elim .inr .inl) (Slots.move e2.fsame s fun a u _ h => by rw [upd_ne (ne_of_none h hq)]; exact h) (ho q _ upd_same) (fun z => by cases z) (fun _ a x y => ?_) fun z => by cases z
    exact w.nq x hq y
  cases t with
  | false =>
    refine PE.weak pe_dnewK fun σ H Q h => ?_
    obtain ⟨F, A, ρ, w, s, p⟩ := h
    simp only [ev] at p
    exact lay w s (fun q H' e => .dic (B := no) e rfl (fun z => z) Sb.no_l .nil) True.intro p
  | true =>
    refine PE.weak pe_dnewT fun σ H Q h => ?_
    obtain ⟨F, A, ρ, w, s, p⟩ := h
    simp only [ev] at p
    exact lay w s (fun q H' e => .dit (B := no) e rfl (fun z => z) Sb.no_l .nil) True.intro p
end
end VI

namespace VI
variable [Tn]
open PySem PySem.Spec PyProof.Rows L2
/-- d.update(e) -/
def rUpdK : V → List V → Hp → VK → Prop := fun x vs H Q => ∃ (a b : Addr) (kvs more : List (Key × V)), x = .ref a ∧ vs = [.ref b] ∧ a ≠ b ∧ H a = some (.dK kvs) ∧ Rd H b (.dK more) ∧ kvs.length + more.length ≤ sizeLine ∧ Q .non (upd H a (.dK (mergeK kvs more)))
theorem mt_updK {X : Cx} : MtR X "dict.update" rUpdK := by
  intro pins s σ H x xs v us Q I rx rv h
  obtain ⟨a, b, kvs, more, rfl, rfl, hne, ha, hb, hz, q⟩ := h
  obtain rfl : v = Value.ref a := rx
  cases rv with
  | cons r rr =>
  cases rr
  cases r
  obtain ⟨z1, hd1, vs1, rel1, dd1⟩ := dk_of I.hok ha
  obtain ⟨z2, hd2, vs2, rel2, dd2⟩ := dk_rd I.hok hb
  refine call_meetsIn PySem.F.slot_dict_update dd1.typeIs PySem.F.entry_dict_update (PySem.F.args_dict_update_2 _ _) (meets_dict_update (mixKind X.prog X.w) a b hne hd2)
    ⟨vs1, vs2, dd1, dd2, by rw [← rel1.length, ← rel2.length]; exact hz, fun h' dd' _ hs => ⟨.non, _, ?_, rfl, q⟩⟩
  have hz' : (mergeK kvs more).length ≤ sizeLine := Nat.le_trans (length_mergeK more kvs) hz
  have he : ∃ q, h'.get? a = some q := let ⟨q, _, _, hq, _⟩ := dd'; ⟨q, hq⟩
  exact d_write I (by rw [ha]; exact True.intro) hs he (dk_new hz' hd1 (rel2.merge rel1) dd')
section
variable {X : Cx} {mg : Str → Option Value} {call : CallT} {W : WX} {pr : Nat → Bool}
/-- an owned dict, by its object -/
theorem Own.dicO {K : PySem.W.Frag} {F H : Hp} {A : AS} {v : V} {ds : List (Key × D)} (o : Own K mg F H v (.dic true ds) A) : ∃ a vs B, v = .ref a ∧ H a = some (.dK vs) ∧ A a ∧ ¬ B a ∧ Sb B A ∧ OwnK K mg F H vs ds B := by
  cases o with
  | fz h => exact absurd h.pure (by simp [D.pure])
  | dic h a b c r => exact ⟨_, _, _, rfl, h, a, b, c, r⟩
theorem Own.ditO {K : PySem.W.Frag} {F H : Hp} {A : AS} {v : V} {ds : List (List Key × D)} (o : Own K mg F H v (.dit true ds) A) : ∃ a vs B, v = .ref a ∧ H a = some (.dT vs) ∧ A a ∧ ¬ B a ∧ Sb B A ∧ OwnT K mg F H vs ds B := by
  cases o with
  | fz h => exact absurd h.pure (by simp [D.pure])
  | dit h a b c r => exact ⟨_, _, _, rfl, h, a, b, c, r⟩
theorem pe_dupdE {i : Nat} {e : E} {ast : Expr} (h : PE X ast (tBM X.K "dict" rUpdK (tVar i) (tCs X.K mg call W [e]))) : PE X ast (tE X.K mg call (.dupd i e) W) := by
  refine PE.weak h fun σ H Q h => ?_
  obtain ⟨F, A, ρ, w, s, p⟩ := h
  simp only [ev] at p
  cases h0 : ρ[i]? with
  | none => simp only [h0] at p; exact p.elim
  | some o0 =>
  cases o0 with
  | none => simp only [h0] at p; exact p.elim
  | some d0 =>
  simp only [h0] at p
  obtain ⟨v, A1, A2, hv, ox, _, _, _, _⟩ := s.get h0
  split at p
  · rename_i hc
    refine ⟨v, hv, ?_, ?_⟩
    · unfold isDic at hc
      split at hc <;> first | contradiction | skip
      obtain ⟨a, vs, B, rfl, ha, _⟩ := ox.dicO
      exact .inr (.inr (.inl ⟨rfl, .inl ⟨vs, ha⟩⟩))
    · refine ⟨F, A, ρ, w, s, ?_⟩
      cases hr : ev call e ρ with
      | bad => simp only [hr] at p; exact p
      | err z ρ' => simp only [hr] at p; exact p
      | ok d ρ1 =>
        simp only [hr, R.bind] at p
        intro u F1 H1 A1' B1 e1 s1 o1 al dj _
        split at p
        case isFalse => exact p.elim
        rename_i hsh
        obtain ⟨B1', o1', dj', sbt⟩ := taken hsh e1.wd o1 dj
        cases h1 : ρ1[i]? with
        | none => simp only [h1] at p; exact p.elim
        | some o1 =>
        cases o1 with
        | none => simp only [h1] at p; exact p.elim
        | some d1 =>
        simp only [h1] at p
        cases h2 : dupO d1 d with
        | none => simp only [h2] at p; exact p.elim
        | some x' =>
          simp only [h2] at p
          obtain ⟨v2, C1, C2, g1, g2, g3, g4, g5, g6⟩ := s1.get h1
          rw [hv] at g1
          cases g1
          unfold dupO at h2
          split at h2 <;> first | contradiction | skip
          rename_i kvs m more
          split at h2
          · rename_i hl
            simp only [Bool.and_eq_true, decide_eq_true_eq] at hl
            cases h2
            obtain ⟨a, vs, C, rfl, ha, c1, c2, c3, ok⟩ := g2.dicO
            obtain ⟨b, ms, rfl, hb, ok2⟩ := o1.dicv e1.wd.same
            have fzm := ok2.fzd hl.1
            have hne : a ≠ b := fun z => by
              subst z
              rcases Bool.eq_false_or_eq_true m with hm | hm
              · subst hm
                obtain ⟨a', ms', C', e', ha', c1', _⟩ := o1'.dicO
                cases e'
                exact dj' a (g5 a c1) c1'
              · subst hm
                cases o1 with
                | fz hf =>
                  cases hf with
                  | dic hf _ =>
                    have := (e1.wd.own a (.inl (g5 a c1))).1
                    rw [hf] at this; cases this
            refine ⟨a, b, vs, ms, rfl, rfl, hne, ha, hb, by rw [szl, ok.len, fzm.len]; exact hl.2, ?_⟩
            have ee := Ext.put (o := .dK (mergeK vs ms)) (e1.wd.sub (Sb.l (A := A1') (B := B1))) (g5 a c1)
            have keep : ∀ c u, c ≠ a → H1 c = some u → upd H1 a (.dK (mergeK vs ms)) c = some u := fun c u hc hu => by rw [upd_ne hc]; exact hu
            have ow : Own X.K mg F1 (upd H1 a (.dK (mergeK vs ms))) (.ref a) (.dic true (vMrg kvs more)) C1 :=
              .dic (B := C) upd_same c1 c2 c3 (OwnK.merge fzm (OwnK.move (fun _ _ z => z) (fun c u hc hu => keep c u (fun z => c2 (z ▸ hc)) hu) ok))
            have s3 := Slots.move (fun _ _ z => z) g3 (H' := upd H1 a (.dK (mergeK vs ms))) fun c u hc hu => keep c u (fun z => g4 a c1 (z ▸ hc)) hu
            have s4 := put_back hv ow s3 g4
            have : (ρ1.set i none).set i (some (D.dic true (vMrg kvs more))) = ρ1.set i (some (D.dic true (vMrg kvs more))) := by rw [List.set_set]
            rw [this] at s4
            refine p .non F1 _ _ no ?_ s4 (.fz .non) (fun z => by simp [shares] at z) (fun _ => Dj.no_r) fun z => by simp [quiet] at z
            rw [cup_no']
            exact ((e1.sub Sb.l).trans w ee).sub fun c hc => hc.elim (g5 c) (g6 c)
          · cases h2
  · exact p.elim
/-- d[k] = v -/
theorem dput_ok {F H : Hp} {A1 B : AS} {v : V} {x kd d x' : VI.D} {kv u : V} (sm : Same F H) (o : Own X.K mg F H v x A1) (ok : Own X.K mg F H kv kd B) (fd : Fz X.K F u d) (h : dput x kd d = some x') :
    ∃ a ob, v = .ref a ∧ A1 a ∧ Mtb ob ∧ DPut H a kv u (upd H a ob) ∧ Own X.K mg F (upd H a ob) v x' A1 := by
  unfold dput at h
  split at h
  · rename_i kvs
    rw [Option.bind_eq_some_iff] at h
    obtain ⟨key, hk, h⟩ := h
    split at h
    · rename_i hl
      cases h
      obtain ⟨a, vs, C, rfl, ha, c1, c2, c3, ow⟩ := o.dicO
      obtain ⟨rfl, okk⟩ := keyD_fz ok hk
      refine ⟨a, .dK (putK vs key u), rfl, c1, True.intro, .inl ⟨vs, key, ha, rfl, by rw [szl, ow.len]; exact hl, rfl⟩, .dic (B := C) upd_same c1 c2 c3 (OwnK.put okk fd (OwnK.move (fun _ _ z => z) (fun c y hc hy => ?_) ow))⟩
      have nc : c ≠ a := fun z => c2 (z ▸ hc)
      rw [upd_ne nc]; exact hy
    · cases h
  · rename_i kvs
    split at h
    · rename_i ks
      rw [Option.bind_eq_some_iff] at h
      obtain ⟨key, hk, h⟩ := h
      split at h
      · rename_i hl
        cases h
        obtain ⟨a, vs, C, rfl, ha, c1, c2, c3, ow⟩ := o.ditO
        obtain ⟨b, ws, rfl, hb, f⟩ := ok.tupx
        obtain ⟨rfl, okk⟩ := keysD_fz f hk
        refine ⟨a, .dT (putK vs key u), rfl, c1, True.intro, .inr ⟨vs, key, b, ha, rfl, sm _ _ hb, by rw [szl, ow.len]; exact hl, rfl⟩, .dit (B := C) upd_same c1 c2 c3 (OwnT.put okk fd (OwnT.move (fun _ _ z => z) (fun c y hc hy => ?_) ow))⟩
        have nc : c ≠ a := fun z => c2 (z ▸ hc)
        rw [upd_ne nc]; exact hy
      · cases h
    · cases h
  · cases h
theorem psE_dstore {i : Nat} {k e : E} {st : Stmt} (h : PS X st (sDPut (tVar i) (tE X.K mg call k W) (tE X.K mg call e W))) : PS X st (tS X.K mg W pr (ex call (.dstore i k e))) := by
  refine PS.weak h fun D σ H h => ?_
  simp only [tS, ex] at h
  refine preE h fun F A ρ d ρ1 v F1 H1 A1 B w hr e1 s1 o1 al dj p => ?_
  cases h0 : ρ1[i]? with
  | none => simp only [h0] at p; exact p.elim
  | some o0 =>
  cases o0 with
  | none => simp only [h0] at p; exact p.elim
  | some x0 =>
  simp only [h0] at p
  split at p
  case isFalse => exact p.elim
  rename_i hp
  have fd := o1.fzd hp
  obtain ⟨u, _, _, g1, _, _, _, _, _⟩ := s1.get h0
  refine ⟨u, g1, F1, A1, ρ1, e1.wd.sub Sb.l, s1, ?_⟩
  cases hk : ev call k ρ1 with
  | bad => simp only [hk, R.sbind] at p; exact p
  | err z ρ' => simp only [hk, R.sbind] at p; exact (p σ SK.refl).trans w (e1.sub Sb.l)
  | ok kd ρ2 =>
    simp only [hk, R.sbind] at p
    intro kv F2 H2 A2 B2 e2 s2 o2 _ _ _
    cases h2 : ρ2[i]? with
    | none => simp only [h2] at p; exact p.elim
    | some o2' =>
    cases o2' with
    | none => simp only [h2] at p; exact p.elim
    | some x =>
    simp only [h2] at p
    cases hd : dput x kd d with
    | none => simp only [hd] at p; exact p.elim
    | some x' =>
      simp only [hd] at p
      obtain ⟨u2, C1, C2, f1, f2, f3, f4, f5, f6⟩ := s2.get h2
      rw [g1] at f1
      cases f1
      obtain ⟨a, ob, rfl, ha, mu, hput, ow⟩ := dput_ok e2.wd.same f2 o2 (Fz.up e2.fsame fd) hd
      refine ⟨a, _, rfl, hput, ?_⟩
      have ee := Ext.put (o := ob) (e2.wd.sub (Sb.l (A := A2) (B := B2))) (f5 a ha) mu
      have s3 := Slots.move (fun _ _ z => z) f3 (H' := upd H2 a ob) fun c y hc hy => by
        have nc : c ≠ a := fun z => f4 a ha (z ▸ hc)
        rw [upd_ne nc]; exact hy
      have s4 := put_back g1 ow s3 f4
      have : (ρ2.set i none).set i (some x') = ρ2.set i (some x') := by rw [List.set_set]
      rw [this] at s4
      have e12 : Ext F H A F2 H2 A2 := (e1.sub Sb.l).trans w (e2.sub Sb.l)
      exact p σ F2 _ _ ((e12.trans w ee).sub fun c hc => hc.elim (f5 c) (f6 c)) s4 SK.refl
/-! ### displays -/
theorem pairs_cs : ∀ {ks : List (List Nat)} {es : List E} {σ : SG} {H : Hp} {Q : List (V × V) → Hp → Prop}, ks.length = es.length → tCs X.K mg call W es σ H (fun vs H1 => Q ((ks.map fun k => V.str (ST k)).zip vs) H1) → tPairs ((ks.map fun k => tC (.str (ST k))).zip (es.map fun e => tE X.K mg call e W)) σ H Q
  | [], [], σ, H, Q, _, h => h
  | k :: ks, e :: es, σ, H, Q, hl, h => by
    have hl : ks.length = es.length := by simpa using hl
    obtain ⟨F, A, ρ, w, s, p⟩ := h
    exact ⟨F, A, ρ, w, s, p.imp fun v H1 q => pairs_cs hl q⟩
  | [], _ :: _, _, _, _, h, _ => by simp at h
  | _ :: _, [], _, _, _, h, _ => by simp at h
theorem mergeK_nd : ∀ {more kvs : List (Key × V)}, (∀ p ∈ more, valV kvs p.1 = none) → (more.map (·.1)).Nodup → mergeK kvs more = kvs ++ more
  | [], kvs, _, _ => (List.append_nil _).symm
  | p :: more, kvs, h, nd => by
    rw [List.map_cons, List.nodup_cons] at nd
    show mergeK (putK kvs p.1 p.2) more = _
    have e := putK_new p.2 (h p List.mem_cons_self)
    rw [e, mergeK_nd (fun q hq => ?_) nd.2, List.append_assoc]; rfl
    rw [valV_snoc p.1 q.1 p.2 kvs (h p List.mem_cons_self), if_neg]
    · exact h q (List.mem_cons_of_mem _ hq)
    · exact fun z => nd.1 (z ▸ List.mem_map_of_mem hq)
theorem zip_own {K : PySem.W.Frag} {F H : Hp} : ∀ {ks : List (List Nat)} {vs : List V} {ds : List D} {B : AS}, ks.all okCs = true → OwnL K mg F H vs ds B → OwnK K mg F H ((ks.map fun k => (Sum.inr (ST k) : Key)).zip vs) ((ks.map fun k => (Sum.inr (ST k) : Key)).zip ds) B
  | [], _, _, _, _, _ => .nil
  | k :: ks, _, _, _, h, .nil => .nil
  | k :: ks, _, _, _, h, .cons o r d s1 s2 => by
    rw [List.all_cons, Bool.and_eq_true] at h
    exact .cons (by show okCs (_ : List Nat) = true; simpa using h.1) o (zip_own h.2 r) d s1 s2
theorem zip_kV : ∀ (ks : List (List Nat)) (vs : List V), (ks.map fun k => V.str (ST k)).zip vs = (((ks.map fun k => (Sum.inr (ST k) : Key)).zip vs).map fun kv => (kV kv.1, kv.2))
  | [], _ => rfl
  | _ :: _, [] => rfl
  | k :: ks, v :: vs => by
    rw [List.map_cons, List.map_cons, List.zip_cons_cons, List.zip_cons_cons, List.map_cons, zip_kV ks vs]; rfl
theorem zip_keys : ∀ {ks : List (List Nat)} {vs : List V}, ks.length = vs.length → ((ks.map fun k => (Sum.inr (ST k) : Key)).zip vs).map (·.1) = ks.map fun k => Sum.inr (ST k)
  | [], [], _ => rfl
  | k :: ks, v :: vs, h => by
    rw [List.map_cons, List.zip_cons_cons, List.map_cons, zip_keys (by simpa using h)]
  | [], _ :: _, h => by simp at h
  | _ :: _, [], h => by simp at h
theorem pe_dispE {ks : List (List Nat)} {es : List E} {keys : List (Option Expr)} {values : List Expr} {pos : Pos} (hl : ks.length = es.length) (h : PPs X pos keys values ((ks.map fun k => tC (.str (ST k))).zip (es.map fun e => tE X.K mg call e W)))
    (hall : keys.all (·.isSome) = true) (hkv : keys.length = values.length) (h0 : keys ≠ []) (h15 : keys.length ≤ 15) : PE X (.Dict keys values pos) (tE X.K mg call (.disp ks es) W) := by
  refine PE.weak (pe_disp h hall hkv h0 h15) fun σ H Q h => ?_
  obtain ⟨F, A, ρ, w, s, p⟩ := h
  intro q hq
  refine pairs_cs hl ?_
  have e0 := Ext.laid (o := .dK []) w hq
  have keep0 : ∀ a u, H a = some u → upd H q (.dK []) a = some u := fun a u h => by rw [upd_ne (ne_of_none h hq)]; exact h
  have dq : Dj A (one q) := fun a x y => w.nq x hq y
  have e0' : Ext F H A F (upd H q (.dK [])) (cup A (one q)) := e0.sub fun a x => x.elim .inr .inl
  have w0 : Wd F (upd H q (.dK [])) (cup A (one q)) := e0'.wd
  have s0 : Slots X.K mg F (upd H q (.dK [])) σ ρ A := Slots.move (fun _ _ z => z) s fun a u _ h => keep0 a u h
  refine seqC es (w0.sub Sb.l) s0 ?_
  simp only [ev] at p
  cases hr : evC call es ρ with
  | bad => simp only [hr, R.bind, PostE] at p
  | err z ρ' => simp only [hr, R.bind, PostE] at p; exact PX.trans w (e0'.sub Sb.l) p
  | ok ds ρ' =>
    simp only [hr, R.bind] at p
    split at p
    case isFalse => exact p.elim
    rename_i hc
    obtain ⟨c1, c2, c3, c4, c5⟩ := hc
    intro vs F1 H1 A1 B1 e1 s1 o1 d1 _
    obtain ⟨g1, g2⟩ := Ext.frame w0 dq e1
    have hq1 : H1 q = some (.dK []) := e1.keep q _ upd_same (fun z => dq q z rfl) (fun _ z => nomatch z)
    have lv : ks.length = vs.length := by rw [c1, o1.len]
    refine ⟨hq1, (ks.map fun k => (Sum.inr (ST k) : Key)).zip vs, zip_kV ks vs, by simp; omega, ?_⟩
    have nd : (((ks.map fun k => (Sum.inr (ST k) : Key)).zip vs).map (·.1)).Nodup := by
      rw [zip_keys lv]
      exact List.pairwise_map.mpr (c3.imp fun hne z => hne (st_inj (Sum.inr.inj z)))
    rw [mergeK_nd (fun _ _ => rfl) nd, List.nil_append]
    have eP := Ext.put (o := .dK ((ks.map fun k => (Sum.inr (ST k) : Key)).zip vs)) g1.wd (p := q) (.inr rfl)
    have keep : ∀ a u, a ≠ q → H1 a = some u → upd H1 q (.dK ((ks.map fun k => (Sum.inr (ST k) : Key)).zip vs)) a = some u := fun a u h h' => by rw [upd_ne h]; exact h'
    have nq : ∀ a, A1 a ∨ B1 a → a ≠ q := fun a h z => g2 a h z
    refine p (.ref q) F1 _ A1 (cup (one q) B1) ((e0'.trans w (g1.trans w0 eP)).sub fun a x => ?_) (Slots.move (fun _ _ z => z) s1 fun a u hx h => keep a u (nq a (.inl hx)) h)
      (.dic (B := B1) upd_same (.inl rfl) (fun z => nq q (.inr z) rfl) Sb.r (OwnK.move (fun _ _ z => z) (fun a u hx h => keep a u (nq a (.inr hx)) h) (zip_own c4 o1))) (fun z => by simp [shares] at z) (fun _ a x y => ?_) fun z => by simp [quiet] at z
    · rcases x with x | x | x
      · exact .inl (.inl x)
      · exact .inr x
      · exact .inl (.inr x)
    · rcases y with y | y
      · exact nq a (.inl x) y
      · exact d1 a x y
/-! ### a comprehension over a dict's keys, the dict still one's own -/
section
variable {K : PySem.W.Frag} {F F2 H H2 : Hp} {a : Addr}
mutual
theorem Fz.dropD (h : ∀ x, x ≠ a → F2 x = F x) (hd : ∃ od vs, F a = some (.frz od (.dK vs))) : ∀ {v : V} {d : D}, Fz K F v d → noD d = true → Fz K F2 v d
  | _, _, .non, _ => .non
  | _, _, .bl b, _ => .bl b
  | _, _, .int i, _ => .int i
  | _, _, .str l k, _ => .str l k
  | _, _, .tup e r, n => by
    simp only [noD] at n
    refine .tup ((h _ fun z => ?_).trans e) (FzL.dropD h hd r n)
    obtain ⟨od, vs, q⟩ := hd
    rw [z, q] at e; cases e
  | _, _, .lst e r, n => by
    simp only [noD] at n
    refine .lst ((h _ fun z => ?_).trans e) (FzL.dropD h hd r n)
    obtain ⟨od, vs, q⟩ := hd
    rw [z, q] at e; cases e
  | _, _, .dic _ _, n => by simp [noD] at n
  | _, _, .dit _ _, n => by simp [noD] at n
  | _, _, .scr e, _ => by
    obtain ⟨od, vs, q⟩ := hd
    refine .scr ?_
    rcases e with (e | ⟨o, e⟩) | e
    · exact .inl (.inl ((h _ fun z => by rw [z, q] at e; cases e).trans e))
    · exact .inl (.inr ⟨o, (h _ fun z => by rw [z, q] at e; cases e).trans e⟩)
    · exact .inr e
theorem FzL.dropD (h : ∀ x, x ≠ a → F2 x = F x) (hd : ∃ od vs, F a = some (.frz od (.dK vs))) : ∀ {v : List V} {d : List D}, FzL K F v d → noDL d = true → FzL K F2 v d
  | _, _, .nil, _ => .nil
  | _, _, .cons x r, n => by
    simp only [noDL, Bool.and_eq_true] at n
    exact .cons (Fz.dropD h hd x n.1) (FzL.dropD h hd r n.2)
end
mutual
theorem Own.dropD (h : ∀ x, x ≠ a → F2 x = F x) (hh : ∀ x, x ≠ a → H2 x = H x) (hd : ∃ od vs, F a = some (.frz od (.dK vs))) : ∀ {v : V} {d : D} {A : AS}, ¬ A a → Own K mg F H v d A → noD d = true → Own K mg F2 H2 v d A
  | _, _, _, _, .fz x, n => .fz (Fz.dropD h hd x n)
  | _, _, _, na, .lst e b c s r, n => by
    simp only [noD] at n
    exact .lst ((hh _ fun z => na (z ▸ b)).trans e) b c s (OwnL.dropD h hh hd (fun z => na (s _ z)) r n)
  | _, _, _, _, .dic .., n => by simp [noD] at n
  | _, _, _, _, .dit .., n => by simp [noD] at n
  | _, _, _, _, .ins .., n => by simp [noD] at n
theorem OwnL.dropD (h : ∀ x, x ≠ a → F2 x = F x) (hh : ∀ x, x ≠ a → H2 x = H x) (hd : ∃ od vs, F a = some (.frz od (.dK vs))) : ∀ {v : List V} {d : List D} {A : AS}, ¬ A a → OwnL K mg F H v d A → noDL d = true → OwnL K mg F2 H2 v d A
  | _, _, _, _, .nil, _ => .nil
  | _, _, _, na, .cons x r dj s1 s2, n => by
    simp only [noDL, Bool.and_eq_true] at n
    exact .cons (Own.dropD h hh hd (fun z => na (s1 _ z)) x n.1) (OwnL.dropD h hh hd (fun z => na (s2 _ z)) r n.2) dj s1 s2
end
theorem Slots.dropD (h : ∀ x, x ≠ a → F2 x = F x) (hh : ∀ x, x ≠ a → H2 x = H x) (hd : ∃ od vs, F a = some (.frz od (.dK vs))) {σ : SG} {ρ : Env'} {A : AS} (s : Slots K mg F H σ ρ A) : ¬ A a → noDs ρ = true → Slots K mg F2 H2 σ ρ A := by
  induction s with
  | nil => intro _ _; exact .nil
  | skip _ ih => intro na n; exact .skip (ih na (by simpa [noDs] using n))
  | cons x r dj s1 s2 ih =>
    intro na n
    simp only [noDs, List.all_cons, Bool.and_eq_true] at n
    exact .cons (Own.dropD h hh hd (fun z => na (s1 _ z)) x n.1) (ih (fun z => na (s2 _ z)) n.2) dj s1 s2
end
theorem lcK_pre {i : Nat} {el : E} {t : T} {cs : List E} {own : List Nat} {σ : SG} {H : Hp} {Q : VK} (h : tE X.K mg call (.lcK i el t cs own) W σ H Q) :
    tLockE (tE X.K mg call (.lc el t .dk [.var i] cs own) W) σ H Q := by
  obtain ⟨F, A, ρ, w, s, p⟩ := h
  simp only [ev] at p
  cases h0 : ρ[i]? with
  | none => simp only [h0] at p; exact p.elim
  | some o0 =>
  cases o0 with
  | none => simp only [h0] at p; exact p.elim
  | some d0 =>
  simp only [h0] at p
  split at p
  case h_2 => exact p.elim
  rename_i kvs heq
  cases heq
  split at p
  case isFalse => exact p.elim
  rename_i hc
  simp only [Bool.and_eq_true, Bool.not_eq_true'] at hc
  obtain ⟨v, A1, A2, hv, ox, s2, dj, b1, b2⟩ := s.get h0
  obtain ⟨a, vs, C, rfl, ha, c1, c2, c3, ok⟩ := ox.dicO
  have fz := ok.fzd hc.1
  have fa : F a = none := (w.own a (b1 a c1)).1
  refine ⟨a, .dK vs, ha, True.intro, fun od => ?_⟩
  have sf : Same F (upd F a (.frz od (.dK vs))) := fun x o e => by rw [upd_ne (ne_of_none e fa)]; exact e
  have n2 : ∀ x, A2 x → x ≠ a := fun x hx z => dj a c1 (z ▸ hx)
  have w1 : Wd (upd F a (.frz od (.dK vs))) (upd H a (.frz od (.dK vs))) A2 := ⟨fun x o e => by
    by_cases z : x = a
    · subst z; rw [upd_same] at e ⊢; exact e
    · rw [upd_ne z] at e ⊢; exact w.same x o e, fun x hx => by
    rw [upd_ne (n2 x hx), upd_ne (n2 x hx)]
    exact w.own x (b2 x hx), fun P q t => tabS_by (w.tab P q t) fun x u e n => (upd_ne fun z => n (by rw [z, ha] at e; cases e; exact True.intro)).trans e, fun x ps e => by
    by_cases z : x = a
    · subst z; rw [upd_same] at e; cases e
    · rw [upd_ne z] at e; exact w.nof x ps e⟩
  have s1 := put_back hv (Own.fz (Fz.dic upd_same (FzK.up sf fz))) (Slots.move sf s2 (H' := upd H a (.frz od (.dK vs))) fun x o hx e => by rw [upd_ne (n2 x hx)]; exact e) Dj.no_l
  rw [cup_no] at s1
  have e1 : (ρ.set i none).set i (some (D.dic false kvs)) = ρ.set i (some (D.dic false kvs)) := by rw [List.set_set]
  rw [e1] at s1
  refine ⟨_, A2, _, w1, s1, ?_⟩
  have hi : i < ρ.length := (List.getElem?_eq_some_iff.mp h0).1
  have pk : (D.dic false kvs).pure = true := by simp only [D.pure, Bool.not_false, Bool.true_and]; exact hc.1
  have hev : ev call (.lc el t .dk [.var i] cs own) (ρ.set i (some (D.dic false kvs))) = (lcLoop (lcF call el t cs) own (kvs.map fun kv => dKey kv.1) [] (wipeD (ρ.set i (some (.dic false kvs))) own)).bind fun acc ρ2 => .ok (.lst true acc) ρ2 := by
    simp only [ev, evC, List.getElem?_set_self hi, R.bind, pk, Bool.or_true, if_true]
    have ck : canL [D.dic false kvs] = true := by simp only [canL, D.pure_can pk, Bool.and_self]
    rw [if_pos ck]
    have fk : frzL [D.dic false kvs] = [D.dic false kvs] := by simp only [frzL, D.frz_of_pure pk]
    rw [fk]
    rfl
  rw [hev]
  have p' : PostE X.K mg W F H A σ (quiet (.lcK i el t cs own)) (shares (.lcK i el t cs own)) ρ ((lcLoop (lcF call el t cs) own (kvs.map fun kv => dKey kv.1) [] (wipeD (ρ.set i (some (.dic false kvs))) own)).bind fun acc ρ2 =>
        if noDL acc && noDs (ρ2.set i none) then .ok (.lst true acc) (ρ2.set i (some (.dic true kvs))) else .bad) Q := p
  have noerr : ∀ {xs acc ρ x ρ'}, lcLoop (lcF call el t cs) own xs acc ρ ≠ .err x ρ' := by
    intro xs
    induction xs with
    | nil => intro acc ρ x ρ' h; simp [lcLoop] at h
    | cons y ys ih =>
      intro acc ρ x ρ' h
      unfold lcLoop at h
      split at h
      · split at h
        · exact ih h
        · cases h
      · exact ih h
      · cases h
  cases hl : lcLoop (lcF call el t cs) own (kvs.map fun kv => dKey kv.1) [] (wipeD (ρ.set i (some (.dic false kvs))) own) with
  | bad => rw [hl] at p'; exact p'
  | err x ρ' => exact absurd hl noerr
  | ok acc ρ2 =>
    rw [hl] at p'
    simp only [R.bind] at p' ⊢
    intro u F' H' A' B ex sl ow _ djB _
    split at p'
    case isFalse => exact p'.elim
    rename_i hn
    simp only [Bool.and_eq_true] at hn
    have fa' : F' a = some (.frz od (.dK vs)) := ex.fsame a _ upd_same
    have hH' : H' a = some (.frz od (.dK vs)) := ex.wd.same a _ fa'
    have nX : ∀ x, A' x ∨ B x → x ≠ a := fun x hx z => by
      have := (ex.wd.own x hx).1
      rw [z, fa'] at this; cases this
    refine ⟨hH', ?_⟩
    let G : Hp := fun x => if x = a then none else F' x
    have Gne : ∀ x, x ≠ a → G x = F' x := fun x z => by show (if x = a then none else F' x) = _; rw [if_neg z]
    have Ga : G a = none := by show (if a = a then none else F' a) = _; rw [if_pos rfl]
    have Hne : ∀ x, x ≠ a → upd H' a (.dK vs) x = H' x := fun x z => upd_ne z
    have sFG : Same F G := fun x o e => by
      have z : x ≠ a := ne_of_none e fa
      rw [Gne x z]
      exact ex.fsame x o (by rw [upd_ne z]; exact e)
    have s3 := Slots.dropD Gne Hne ⟨od, vs, fa'⟩ (sl.gone i) (fun z => nX a (.inl z) rfl) hn.2
    have s4 := put_back hv (Own.dic (A := one a) (B := no) (mg := mg) (F := G) (H := upd H' a (.dK vs)) (K := X.K) upd_same rfl (fun z => z) Sb.no_l (FzK.own (FzK.up sFG fz))) s3 fun x hx hy => nX x (.inl hy) hx
    have e2 : (ρ2.set i none).set i (some (D.dic true kvs)) = ρ2.set i (some (D.dic true kvs)) := by rw [List.set_set]
    rw [e2] at s4
    have owl : Own X.K mg G (upd H' a (.dK vs)) u (.lst true acc) B := Own.dropD Gne Hne ⟨od, vs, fa'⟩ (fun z => nX a (.inr z) rfl) ow (by simp only [noD]; exact hn.1)
    refine p' u G _ (cup (one a) A') B ⟨sFG, ⟨fun x o e => ?_, fun x hx => ?_, fun P q t => tabS_by2 (ex.wd.tab P q t) (fun x ps e => ?_) (fun x ps e => ?_), fun x ps e => by
      by_cases z : x = a
      · rw [z, Ga] at e; cases e
      · rw [Gne x z] at e; exact ex.wd.nof x ps e⟩, fun x o e n t => ?_, fun x ps e => ?_, fun x hx => ?_, fun x hx => ?_⟩ s4 owl (fun z => by simp [shares] at z) (fun _ x hx hy => ?_) fun z => by simp [quiet] at z
    · have z : x ≠ a := ne_of_none e Ga
      rw [Gne x z] at e; rw [Hne x z]; exact ex.wd.same x o e
    · by_cases z : x = a
      · subst z; exact ⟨Ga, _, upd_same, True.intro⟩
      · rw [Gne x z, Hne x z]
        refine ex.wd.own x ?_
        rcases hx with (hx | hx) | hx
        · exact absurd hx z
        · exact .inl hx
        · exact .inr hx
    · have z : x ≠ a := fun z => by rw [z, hH'] at e; cases e
      rw [Hne x z]; exact e
    · have z : x ≠ a := fun z => by rw [z, hH'] at e; cases e
      rw [Hne x z]; exact e
    · have z : x ≠ a := fun z => n (z ▸ b1 a c1)
      rw [Hne x z]
      exact ex.keep x o (by rw [upd_ne z]; exact e) (fun y => n (b2 x y)) t
    · have z : x ≠ a := fun z => by
        obtain ⟨_, u, q, m⟩ := w.own a (b1 a c1)
        rw [z, q] at e; cases e; exact m
      obtain ⟨ps', q⟩ := ex.tkeep x ps (by rw [upd_ne z]; exact e)
      exact ⟨ps', by rw [Hne x z]; exact q⟩
    · have z : x ≠ a := fun z => hx (by rw [z]; exact Ga)
      rw [Gne x z] at hx
      rcases ex.fnew x hx with y | y | y | ⟨ws, y⟩
      · rw [upd_ne z] at y; exact .inl y
      · rw [upd_ne z] at y; exact .inr (.inl y)
      · exact .inr (.inr (.inl (b2 x y)))
      · rw [upd_ne z] at y; exact .inr (.inr (.inr ⟨ws, y⟩))
    · by_cases z : x = a
      · exact .inl (z ▸ b1 a c1)
      · have : A' x ∨ B x := by
          rcases hx with (hx | hx) | hx
          · exact absurd hx z
          · exact .inl hx
          · exact .inr hx
        rcases ex.anew x this with y | y
        · exact .inl (b2 x y)
        · rw [upd_ne z] at y; exact .inr y
    · rcases hx with hx | hx
      · exact nX x (.inr hy) hx
      · exact djB (by simp [shares]) x hx hy
end
end VI

namespace VI
variable [Tn]
open PySem PySem.Spec PyProof.Rows L2
section
variable {X : Cx} {mg : Str → Option Value} {call : CallT} {W : WX} {pr : Nat → Bool}
/-- the list in a slot -/
def iOwn (K : PySem.W.Frag) (i : Nat) : TI := fun σ H Rr => ∃ a vs, σ[i]? = some (some (.ref a)) ∧ H a = some (.lst vs) ∧ Rr (Itl K a) H
theorem pi_own {i : Nat} {tg a : Expr} (he : PE X a (tVar i)) : PI X tg a (iOwn X.K i) := by
  refine ⟨fun pins s σ H Rr I h => ?_⟩
  obtain ⟨p, vs, h1, h2, h3⟩ := h
  refine thn (he.run pins s σ H (fun v H1 => v = .ref p ∧ H1 = H) I ⟨_, h1, rfl, rfl⟩) fun v s1 ⟨x, H1, I1, r1, ex, eh⟩ => ?_
  subst eh
  subst ex
  cases r1
  exact iter_list I1 (SqL.of h2) h3
theorem OwnL.head {K : PySem.W.Frag} {F H : Hp} {v : V} {vs : List V} {d : D} {ds : List D} {B : AS} (h : OwnL K mg F H (v :: vs) (d :: ds) B) : ∃ B1 B2, Own K mg F H v d B1 ∧ OwnL K mg F H vs ds B2 ∧ Dj B1 B2 ∧ Sb B1 B ∧ Sb B2 B := by
  cases h with
  | cons o r dj s1 s2 => exact ⟨_, _, o, r, dj, s1, s2⟩
theorem psE_forO {x o : Nat} {b : List S} {st : Stmt} (hpx : pr x = false) (h : PS X st (tFor (iOwn X.K o) (gName x) (tS X.K mg W (fun i => pr i || i == x || i == o) (exs call b)))) : PS X st (tS X.K mg W pr (ex call (.forO x o b))) := by
  refine PS.weak h fun D σ H h => ?_
  obtain ⟨F, A, ρ, w, s, p⟩ := h
  simp only [ex] at p
  cases h0 : ρ[o]? with
  | none => simp only [h0] at p; exact p.elim
  | some o0 =>
  cases o0 with
  | none => simp only [h0] at p; exact p.elim
  | some d0 =>
  simp only [h0] at p
  split at p
  case h_2 => exact p.elim
  rename_i xs heq
  cases heq
  split at p
  · exact p.elim
  rename_i hxo
  obtain ⟨v, A1, A2, hv, ox, s2, dj, b1, b2⟩ := s.get h0
  cases ox with
  | fz z => exact absurd z.pure (by simp [VI.D.pure])
  | lst ha c1 c2 c3 ol =>
  rename_i a vs C
  refine ⟨a, vs, hv, ha, ?_⟩
  have hlen := ol.len
  refine ⟨fun i m σ' H' => i ≤ xs.length ∧ m = xs.length - i ∧ ∃ F' A' B1 B2 ρ' acc, Same F F' ∧ Wd F' H' (cup A' (cup (one a) (cup B1 B2))) ∧ Dj A' (cup (one a) (cup B1 B2)) ∧ ¬ (cup B1 B2) a ∧ Dj B1 B2 ∧ H' a = some (.lst vs) ∧ σ'[o]? = some (some (.ref a)) ∧ OwnL X.K mg F' H' (vs.take i) acc B1 ∧ OwnL X.K mg F' H' (vs.drop i) (xs.drop i) B2 ∧ Slots X.K mg F' H' σ' ρ' A' ∧
      PostS X.K mg W pr F' H' (cup A' (cup (one a) (cup B1 B2))) σ' (ownLoop (exs call b) x o (xs.drop i) acc ρ') D, ⟨xs.length, Nat.zero_le _, by simp, F, A2, no, C, ρ.set o none, [], fun _ _ e => e, ?_, ?_, ?_, Dj.no_l, ha, hv, .nil, by simpa using ol, s2, ?_⟩, ?_⟩
  · refine w.sub fun z y => ?_
    rcases y with y | y | y | y
    · exact b2 z y
    · exact b1 z (y ▸ c1)
    · exact y.elim
    · exact b1 z (c3 z y)
  · intro z y1 y2
    rcases y2 with y2 | y2 | y2
    · exact dj a c1 (y2 ▸ y1)
    · exact y2.elim
    · exact dj z (c3 z y2) y1
  · exact fun z => z.elim (fun z => z) c2
  · rw [List.drop_zero]
    refine p.pre w (Ext.sub (Ext.refl w) fun z y => ?_) SK.refl
    rcases y with y | y | y | y
    · exact b2 z y
    · exact b1 z (y ▸ c1)
    · exact y.elim
    · exact b1 z (c3 z y)
  rintro i m σ2 H2 ⟨hi, rfl, F2, A', B1, B2, ρ2, acc, sm, w2, dj2, nB, dj12, ha2, hv2, ol1, ol2, sl2, p2⟩
  by_cases hlt : i < xs.length
  · have hlv : i < vs.length := by omega
    refine .inr ⟨⟨vs, vs[i], SqL.of ha2, List.getElem?_eq_getElem hlv⟩, _, fun σ' H' h' => ⟨xs.length - (i + 1), by omega, h'⟩, fun u H3 y => ?_⟩
    obtain ⟨rfl, y⟩ := y
    have yv := y vs (SqL.of ha2)
    rw [List.getElem?_eq_getElem hlv] at yv
    cases yv
    have hdr : xs.drop i = xs[i] :: xs.drop (i + 1) := List.drop_eq_getElem_cons hlt
    have hdv : vs.drop i = vs[i] :: vs.drop (i + 1) := List.drop_eq_getElem_cons hlv
    rw [hdr, hdv] at ol2
    rw [hdr] at p2
    simp only [ownLoop] at p2
    obtain ⟨Bd, Br, od, orr, djd, sbd, sbr⟩ := ol2.head
    split at p2
    case isFalse => exact p2.elim
    rename_i hx
    have hxs : (σ2[x]?).isSome = true := by rw [List.getElem?_eq_getElem (by rw [sl2.length]; exact hx)]; rfl
    have s3 := Slots.put od (sl2.gone o) (fun z y1 y2 => dj2 z y2 (.inr (.inr (sbd z y1)))) (i := x) hxs
    show tS X.K mg W (fun i => pr i || i == x || i == o) (exs call b) _ (σ2.set x (some vs[i])) H3
    have hrest : Sb (cup (cup Bd A') (cup (one a) (cup B1 Br))) (cup A' (cup (one a) (cup B1 B2))) := fun z y => by
      rcases y with (y | y) | y | y | y
      · exact .inr (.inr (.inr (sbd z y)))
      · exact .inl y
      · exact .inr (.inl y)
      · exact .inr (.inr (.inl y))
      · exact .inr (.inr (.inr (sbr z y)))
    have w3 := w2.sub hrest
    have dj3 : Dj (cup Bd A') (cup (one a) (cup B1 Br)) := fun z y1 y2 => by
      rcases y1 with y1 | y1
      · rcases y2 with y2 | y2 | y2
        · exact nB (.inr (y2 ▸ sbd z y1))
        · exact dj12 z y2 (sbd z y1)
        · exact djd z y1 y2
      · rcases y2 with y2 | y2 | y2
        · exact dj2 z y1 (.inl y2)
        · exact dj2 z y1 (.inr (.inl y2))
        · exact dj2 z y1 (.inr (.inr (sbr z y2)))
    refine ⟨F2, cup Bd A', _, w3.sub Sb.l, s3, ?_⟩
    cases hb : exs call b ((ρ2.set o none).set x (some xs[i])) with
    | nx ρ5 =>
      simp only [hb] at p2
      intro σ' F' H' A5 e5 sl5 sk5
      cases h5 : ρ5[x]? with
      | none => simp only [h5] at p2; exact p2.elim
      | some o5 =>
      cases o5 with
      | none => simp only [h5] at p2; exact p2.elim
      | some d5 =>
      simp only [h5] at p2
      obtain ⟨v5, D1, D2, f1, f2, f3, f4, f5, f6⟩ := sl5.get h5
      have hxx : σ'[x]? = (σ2.set x (some vs[i]))[x]? := sk5 x (by simp)
      have hoo : σ'[o]? = (σ2.set x (some vs[i]))[o]? := sk5 o (by simp)
      rw [List.getElem?_set_self (by rw [sl2.length]; exact hx)] at hxx
      rw [List.getElem?_set_ne hxo, hv2] at hoo
      rw [hxx] at f1
      cases f1
      obtain ⟨g1, g2⟩ := Ext.frame w3 dj3 e5
      have keep : ∀ c u, (cup (one a) (cup B1 Br)) c → H3 c = some u → H' c = some u := fun c u hc hu => e5.keep c u hu (fun z => dj3 c z hc) (by obtain ⟨_, u', q, m⟩ := w3.own c (.inr hc); rw [hu] at q; cases q; exact m.ntbl)
      refine ⟨hlt, rfl, F', D2, cup B1 D1, Br, _, acc ++ [d5], sm.trans e5.fsame, g1.wd.sub fun z y => ?_, fun z y1 y2 => ?_, fun z => ?_, fun z y1 y2 => ?_, keep a _ (.inl rfl) ha2, hoo, ?_, OwnL.move e5.fsame (fun c u hc hu => keep c u (.inr (.inr hc)) hu) orr, f3, ?_⟩
      · rcases y with y | y | (y | y) | y
        · exact .inl (f6 z y)
        · exact .inr (.inl y)
        · exact .inr (.inr (.inl y))
        · exact .inl (f5 z y)
        · exact .inr (.inr (.inr y))
      · rcases y2 with y2 | (y2 | y2) | y2
        · exact g2 z (f6 z y1) (.inl y2)
        · exact g2 z (f6 z y1) (.inr (.inl y2))
        · exact f4 z y2 y1
        · exact g2 z (f6 z y1) (.inr (.inr y2))
      · rcases z with (z | z) | z
        · exact nB (.inl z)
        · exact g2 a (f5 a z) (.inl rfl)
        · exact nB (.inr (sbr a z))
      · rcases y1 with y1 | y1
        · exact dj12 z y1 (sbr z y2)
        · exact g2 z (f5 z y1) (.inr (.inr y2))
      · have e : vs.take (i + 1) = vs.take i ++ [vs[i]] := List.take_succ_eq_append_getElem hlv
        rw [e]
        exact OwnL.append (OwnL.move e5.fsame (fun c u hc hu => keep c u (.inr (.inl hc)) hu) ol1) (.cons f2 .nil Dj.no_r Sb.rfl' Sb.no_l) fun z y1 y2 => g2 z (f5 z y2) (.inr (.inl y1))
      · refine p2.pre w2 ?_ ?_
        · have e6 := g1.more hrest
          refine e6.sub fun z y => ?_
          rcases y with y | y | (y | y) | y
          · exact .inl (f6 z y)
          · exact .inr (.inl y)
          · exact .inr (.inr (.inl y))
          · exact .inl (f5 z y)
          · exact .inr (.inr (.inr y))
        · refine (SK.set hpx).trans fun j hj => sk5 j (by simp [hj])
    | cont ρ5 => simp only [hb] at p2; exact p2.elim
    | brk ρ5 => simp only [hb] at p2; exact p2.elim
    | ret d ρ5 => simp only [hb] at p2; exact p2.elim
    | err z ρ5 => simp only [hb] at p2; exact p2.elim
    | bad => simp only [hb] at p2; exact p2.elim
  · have e : i = xs.length := by omega
    subst e
    refine .inl ⟨⟨vs, SqL.of ha2, by omega⟩, ?_⟩
    rw [List.drop_length] at p2
    rw [List.take_of_length_le (by omega)] at ol1
    simp only [ownLoop] at p2
    have s4 := put_back hv2 (Own.lst (B := B1) (A := cup (one a) B1) ha2 (.inl rfl) (fun z => nB (.inl z)) Sb.r ol1) (sl2.gone o) fun z y1 y2 => by
      rcases y1 with y1 | y1
      · exact dj2 z y2 (.inl y1)
      · exact dj2 z y2 (.inr (.inl y1))
    have e2 : (ρ2.set o none).set o (some (VI.D.lst true acc)) = ρ2.set o (some (VI.D.lst true acc)) := by rw [List.set_set]
    rw [e2] at s4
    refine p2 σ2 F2 H2 _ (Ext.sub (Ext.refl w2) fun z y => ?_) s4 SK.refl
    rcases y with (y | y) | y
    · exact .inr (.inl y)
    · exact .inr (.inr (.inl y))
    · exact .inl y
theorem PostL.hide {K : PySem.W.Frag} {F H : Hp} {A A2 : AS} {σ : SG} {r : R (List D)} {Q : VK} {a : Addr} {vs : List V} {xs : List D} {i : Nat} {ρ0 : Env'} (hv : σ[i]? = some (some (.ref a))) (w : Wd F H A) (sbA : Sb (cup A2 (one a)) A) (dj : Dj A2 (one a)) (ha : H a = some (.lst vs)) (fz : FzL K F vs xs)
    (p : PostE K mg W F H A σ false false ρ0 (r.bind fun acc ρ2 => .ok (.lst true acc) (ρ2.set i (some (.lst true xs)))) Q) (noerr : ∀ x ρ', r ≠ .err x ρ') : PostL K mg F H A2 σ r Q := by
  cases r with
  | bad => exact p
  | err x ρ' => exact absurd rfl (noerr x ρ')
  | ok acc ρ2 =>
    intro v F' H' A' B e sl o djB
    obtain ⟨g1, g2⟩ := Ext.frame (w.sub sbA) dj e
    have ha' : H' a = some (.lst vs) := e.keep a _ ha (fun z => dj a z rfl) (fun _ z => nomatch z)
    have s4 := put_back hv (Own.lst (mg := mg) (F := F') (K := K) (A := one a) (B := no) (ds := xs) ha' rfl (fun z => z) Sb.no_l (FzL.up e.fsame fz).own) (sl.gone i) fun z y1 y2 => g2 z (.inl y2) y1
    have e2 : (ρ2.set i none).set i (some (VI.D.lst true xs)) = ρ2.set i (some (VI.D.lst true xs)) := by rw [List.set_set]
    rw [e2] at s4
    refine p v F' H' (cup (one a) A') B ((g1.more sbA).sub fun z y => ?_) s4 o (fun z => by cases z) (fun _ z y1 y2 => ?_) fun z => by cases z
    · rcases y with (y | y) | y
      · exact .inr y
      · exact .inl (.inl y)
      · exact .inl (.inr y)
    · rcases y1 with y1 | y1
      · exact g2 z (.inr y2) y1
      · exact djB z y1 y2
theorem lcO_pre {i0 : Nat} {el : E} {t : T} {cs : List E} {own : List Nat} {σ : SG} {H : Hp} {Q : VK}
    (h : tE X.K mg call (.lcO i0 el t cs own) W σ H Q) : tLc (iOwn X.K i0) (gT X.K mg (fun i => !own.contains i) t) (tTs X.K mg call cs) (tE X.K mg call el W0) own σ H Q := by
  obtain ⟨F, A, ρ, w, s, p⟩ := h
  simp only [ev] at p
  cases h0 : ρ[i0]? with
  | none => simp only [h0] at p; exact p.elim
  | some o0 =>
  cases o0 with
  | none => simp only [h0] at p; exact p.elim
  | some d0 =>
  simp only [h0] at p
  split at p
  case h_2 => exact p.elim
  rename_i xs heq
  cases heq
  split at p
  case isFalse => exact p.elim
  rename_i hc
  simp only [Bool.and_eq_true] at hc
  obtain ⟨v, A0, A1, hv, ox, s1, dj, b1, b2⟩ := s.get h0
  cases ox with
  | fz z => exact absurd z.pure (by simp [VI.D.pure])
  | lst ha c1 c2 c3 oL =>
  rename_i aL vL C
  have hlen := oL.len
  have fzx : FzL X.K F vL xs := oL.fzd hc.1
  refine ⟨aL, vL, hv, ha, fun D hD => ?_⟩
  have sbA : Sb (cup A1 (one aL)) A := fun z y => y.elim (b2 z) fun y => b1 z (y ▸ c1)
  have dja : Dj A1 (one aL) := fun z y1 y2 => dj aL c1 (y2 ▸ y1)
  have noerr : ∀ {xs acc ρ x ρ'}, lcLoop (lcF call el t cs) own xs acc ρ ≠ .err x ρ' := by
    intro xs
    induction xs with
    | nil => intro acc ρ x ρ' h; simp [lcLoop] at h
    | cons y ys ih =>
      intro acc ρ x ρ' h
      unfold lcLoop at h
      split at h
      · split at h
        · exact ih h
        · cases h
      · exact ih h
      · cases h
  have p1 : PostL X.K mg F H A1 σ (lcLoop (lcF call el t cs) own xs [] (wipeD (ρ.set i0 none) own)) Q := by
    exact PostL.hide (ρ0 := ρ) (mg := mg) (W := W) (i := i0) hv w sbA dja ha fzx p fun x ρ' => noerr
  have w1 : Wd F H A1 := w.sub b2
  have e1 : Ext F H A1 F H A1 := Ext.refl w1
  have naH : ¬ A1 aL := fun z => dja aL z rfl
  generalize hF1 : F = F1 at *
  generalize hH1 : H = H1 at *
  generalize hρ1 : ρ.set i0 none = ρ1 at *
  have nA : ∀ a, A1 a → a ≠ D := fun a ha => e1.wd.nq ha hD
  have e2 := Ext.laid (o := .lst []) e1.wd hD
  have lay : ∀ a o, H1 a = some o → upd H1 D (.lst []) a = some o := fun a o h => by rw [upd_ne (ne_of_none h hD)]; exact h
  refine ⟨fun i m H => i ≤ xs.length ∧ m = xs.length - i ∧ ∃ F A B vs acc ρ, Same F1 F ∧ (H aL = some (.lst vL) ∧ ¬ (cup A (cup (one D) B)) aL) ∧ Wd F H (cup A (cup (one D) B)) ∧ Dj A (cup (one D) B) ∧ ¬ B D ∧ H D = some (.lst vs) ∧ OwnL X.K mg F H vs acc B ∧ Slots X.K mg F H (L2.wipe σ own) ρ A ∧
    PostL X.K mg F H (cup A (cup (one D) B)) σ (lcLoop (lcF call el t cs) own (xs.drop i) acc ρ) Q, ⟨xs.length, Nat.zero_le _, by simp, F1, A1, no, [], [], wipeD ρ1 own, fun _ _ e => e, ⟨lay aL _ ha, fun z => z.elim naH fun z => z.elim (fun z => by have z : aL = D := z; rw [← z] at hD; rw [ha] at hD; cases hD) fun z => z⟩, ?_, ?_, fun z => z, upd_same, .nil, ?_, ?_⟩, ?_⟩
  · exact e2.wd.sub fun a h => h.elim .inr fun h => h.elim .inl fun h => h.elim
  · exact fun a h h' => h'.elim (nA a h) fun h => h
  · exact Slots.move (fun _ _ e => e) (s1.wipe own) fun a o _ h => lay a o h
  · rw [List.drop_zero]
    exact p1.pre e1.wd (e2.sub fun a h => h.elim .inr fun h => h.elim .inl fun h => h.elim)
  rintro i m H2 ⟨hi, rfl, F2, A2, B2, vs, acc, ρ2, sm, ⟨hk1, hk2⟩, w2, dj2, nB, hD2, ol, s2, p2⟩
  by_cases hlt : i < xs.length
  · have hlv : i < vL.length := by omega
    refine .inr ⟨⟨vL, vL[i], SqL.of hk1, List.getElem?_eq_getElem hlv⟩, _, fun H' h' => ⟨xs.length - (i + 1), by omega, h'⟩, fun x H3 y => ?_⟩
    obtain ⟨eH, y⟩ := y
    have yv := y vL (SqL.of hk1)
    obtain ⟨d, F3, hd, e3, fz, sm3⟩ : ∃ d F3, xs[i]? = some d ∧ Ext F2 H2 (cup A2 (cup (one D) B2)) F3 H3 (cup A2 (cup (one D) B2)) ∧ Fz X.K F3 x d ∧ Same H2 H3 := by
      refine ⟨xs[i], F2, List.getElem?_eq_getElem hlt, by rw [eH]; exact Ext.refl w2, ?_, by rw [eH]; exact fun _ _ e => e⟩
      obtain ⟨v0, q1, q2⟩ := (FzL.up sm fzx).at (i := i) (List.getElem?_eq_getElem hlt)
      rw [yv] at q1; cases q1
      exact q2
    have hdr : xs.drop i = d :: xs.drop (i + 1) := by
      rw [List.drop_eq_getElem_cons hlt]
      rw [List.getElem?_eq_getElem hlt] at hd
      cases hd; rfl
    rw [hdr] at p2
    simp only [lcLoop, lcF] at p2
    cases ht : t.put d ρ2 with
    | none => simp only [ht] at p2; exact p2.elim
    | some ρ3 =>
    simp only [ht] at p2
    refine ⟨F3, A2, no, ρ2, d, ρ3, by rw [cup_no']; exact e3.wd.sub Sb.l, Slots.move e3.fsame s2 fun a o _ h => sm3 a o h, .fz fz, Dj.no_r, ht, fun σ4 A4 sb4 sl4 sk4 => ?_⟩
    have sb4' : Sb A4 A2 := fun z x => (sb4 z x).elim id fun z => z.elim
    have hw4 : L2.wipe σ4 own = L2.wipe σ own := by
      refine wipe_eq ?_ fun j hj => sk4 j (by simpa using hj)
      have := sl4.length
      have h2 := s2.length
      have h3 : ∀ {t : T} {d ρ ρ'}, t.put d ρ = some ρ' → ρ'.length = ρ.length := fun {t} => T.put_len t
      rw [this, h3 ht, ← h2, wipe_length]
    refine ⟨hw4, ?_⟩
    -- the next turn
    have next : ∀ {F5 H5 : Hp} {A5 : AS} {ρ5 : Env'}, Ext F3 H3 A4 F5 H5 A5 → Slots X.K mg F5 H5 σ4 ρ5 A5 → PostL X.K mg F2 H2 (cup A2 (cup (one D) B2)) σ (lcLoop (lcF call el t cs) own (xs.drop (i + 1)) acc (wipeD ρ5 own)) Q →
        (i + 1 ≤ xs.length ∧ xs.length - (i + 1) = xs.length - (i + 1) ∧ ∃ F A B vs acc ρ, Same F1 F ∧ (H5 aL = some (.lst vL) ∧ ¬ (cup A (cup (one D) B)) aL) ∧ Wd F H5 (cup A (cup (one D) B)) ∧ Dj A (cup (one D) B) ∧ ¬ B D ∧ H5 D = some (.lst vs) ∧ OwnL X.K mg F H5 vs acc B ∧ Slots X.K mg F H5 (L2.wipe σ own) ρ A ∧
          PostL X.K mg F H5 (cup A (cup (one D) B)) σ (lcLoop (lcF call el t cs) own (xs.drop (i + 1)) acc ρ) Q) := fun {F5 H5 A5 ρ5} e5 s5 p5 => by
      obtain ⟨g1, g2⟩ := Ext.frame e3.wd dj2 (e5.more sb4')
      refine ⟨hlt, rfl, F5, A5, B2, vs, acc, wipeD ρ5 own, sm.trans (e3.fsame.trans e5.fsame), ⟨e5.keep aL _ (sm3 aL _ hk1) (fun z => hk2 (.inl (sb4' aL z))) (fun _ z => nomatch z), fun z => z.elim (fun z => (e5.anew aL z).elim (fun z => hk2 (.inl (sb4' aL z))) fun z => by rw [sm3 aL _ hk1] at z; cases z) fun z => hk2 (.inr z)⟩, g1.wd, g2, nB, e5.keep D _ (sm3 D _ hD2) (fun z => dj2 D (sb4' D z) (.inl rfl)) (fun _ z => nomatch z), ?_, by rw [← hw4]; exact s5.wipe own, p5.pre w2 (e3.trans w2 g1)⟩
      exact (OwnL.move e3.fsame (fun a o _ h => sm3 a o h) ol).ext e5 fun a x y => dj2 a (sb4' a x) (.inr y)
    refine preTs (e3.wd.sub fun a h => .inl (sb4' a h)) sl4 ?_
    cases hT : lcTests call cs ρ3 with
    | bad => simp only [hT, R.bind] at p2; exact p2
    | err z ρ' => simp only [hT, R.bind] at p2; exact p2
    | ok k ρ4 =>
    simp only [hT, R.bind] at p2
    intro F5 H5 A5 e5 s5
    cases k with
    | false =>
      rw [if_neg Bool.false_ne_true]
      simp only [Bool.false_eq_true, if_false] at p2
      exact next e5 s5 p2
    | true =>
      rw [if_pos rfl]
      simp only [if_true] at p2
      refine ⟨F5, A5, ρ4, e5.wd, s5, ?_⟩
      cases hE : ev call el ρ4 with
      | bad => simp only [hE] at p2; exact p2
      | err z ρ' => simp only [hE] at p2; exact p2.elim
      | ok dy ρ5 =>
      simp only [hE] at p2
      intro u F6 H6 A6 B6 e6 s6 o6 al6 dj6 _
      by_cases hcc : (!shares el || dy.pure) = true
      · simp only [hcc, if_true] at p2
        by_cases hlen : acc.length < lim
        · rw [if_pos hlen] at p2
          obtain ⟨B6', o6', dj6', sb6⟩ := taken hcc e6.wd o6 dj6
          have e36 : Ext F3 H3 A4 F6 H6 (cup A6 B6') := (e5.trans (e3.wd.sub fun a h => .inl (sb4' a h)) e6).sub (cupSb sb6)
          obtain ⟨g1, g2⟩ := Ext.frame e3.wd dj2 (e36.more sb4')
          have hD6 : H6 D = some (.lst vs) := e36.keep D _ (sm3 D _ hD2) (fun z => dj2 D (sb4' D z) (.inl rfl)) (fun _ z => nomatch z)
          have ol6 : OwnL X.K mg F6 H6 vs acc B2 := (OwnL.move e3.fsame (fun a o _ h => sm3 a o h) ol).ext e36 fun a x y => dj2 a (sb4' a x) (.inr y)
          refine ⟨vs, hD6, by rw [szl, ol6.len]; exact hlen, ?_⟩
          have eP := Ext.put (o := .lst (vs ++ [u])) g1.wd (p := D) (.inr (.inl rfl))
          have keep : ∀ {C : AS} a o, ¬ C D → C a → H6 a = some o → upd H6 D (.lst (vs ++ [u])) a = some o := fun a o nC hC h => by rw [upd_ne (fun z => nC (by rw [← z]; exact hC))]; exact h
          have nD : ¬ (cup A6 B6') D := fun z => g2 D z (.inl rfl)
          have re : ∀ a, (cup A6 (cup (one D) (cup B2 B6'))) a → (cup (cup A6 B6') (cup (one D) B2)) a := fun a h => by
            rcases h with h | h | h | h
            · exact .inl (.inl h)
            · exact .inr (.inl h)
            · exact .inr (.inr h)
            · exact .inl (.inr h)
          refine ⟨hlt, rfl, F6, A6, cup B2 B6', vs ++ [u], acc ++ [dy], wipeD ρ5 own, sm.trans (e3.fsame.trans e36.fsame), ⟨?_, ?_⟩, eP.wd.sub re, fun a x y => ?_, fun z => z.elim nB fun z => nD (.inr z), upd_same, ?_, ?_, p2.pre w2 ((e3.trans w2 (g1.trans e3.wd eP)).sub re)⟩
          · have hne : aL ≠ D := fun z => hk2 (.inr (.inl z))
            rw [upd_ne hne]
            exact e36.keep aL _ (sm3 aL _ hk1) (fun z => hk2 (.inl (sb4' aL z))) (fun _ z => nomatch z)
          · have out : ¬ (cup A6 B6') aL := fun z => (e36.anew aL z).elim (fun z => hk2 (.inl (sb4' aL z))) fun z => by rw [sm3 aL _ hk1] at z; cases z
            intro z
            rcases z with z | z | z | z
            · exact out (.inl z)
            · exact hk2 (.inr (.inl z))
            · exact hk2 (.inr (.inr z))
            · exact out (.inr z)
          · rcases y with y | y | y
            · exact g2 a (.inl x) (.inl y)
            · exact g2 a (.inl x) (.inr y)
            · exact dj6' a x y
          · refine OwnL.append (OwnL.move (fun _ _ e => e) (fun a o hC h => keep (C := B2) a o nB hC h) ol6) (OwnL.move (fun _ _ e => e) (fun a o hC h => keep (C := B6') a o (fun z => nD (.inr z)) hC h) (.cons o6' .nil Dj.no_r Sb.rfl' Sb.no_l)) fun a x y => g2 a (.inr y) (.inr x)
          · rw [← hw4]
            exact Slots.move (fun _ _ e => e) (s6.wipe own) fun a o hC h => keep (C := A6) a o (fun z => nD (.inl z)) hC h
        · rw [if_neg hlen] at p2; exact p2.elim
      · simp only [hcc] at p2; exact p2.elim
  · have e : i = xs.length := by omega
    subst e
    refine .inl ⟨⟨vL, SqL.of hk1, by omega⟩, ?_⟩
    rw [List.drop_length] at p2
    simp only [lcLoop] at p2
    exact p2 (.ref D) F2 H2 A2 (cup (one D) B2) (Ext.refl w2) (s2.rest (by rw [wipe_length]) fun i v h => (wipe_some h).1) (.lst hD2 (.inl rfl) nB Sb.r ol) dj2
theorem pe_lcOE {i : Nat} {el : E} {t : T} {cs : List E} {own : List (Str × Nat)} {ow : List Nat} (how : ow = own.map (·.2)) {elt tg iter : Expr} {ifs : List Expr} {scope : Scope} {pos : Pos} (hc : X.calm = true) (hN : X.N.Nodup) (ok : BlkOk X.N X.env.scope scope own)
    (hi : PI X tg iter (iOwn X.K i))
    (hg : ∀ (s : Shared) (H : Hp) (C : Addr) (cl : List (Str × Addr)) (fp : List Addr), PG (X.blk s H scope (compEnvC scope cl C X.env) fp) tg (gT X.K mg (fun i => !ow.contains i) t))
    (ht : ∀ (s : Shared) (H : Hp) (C : Addr) (cl : List (Str × Addr)) (fp : List Addr), PTs (X.blk s H scope (compEnvC scope cl C X.env) fp) ifs (tTs X.K mg call cs))
    (he : ∀ (s : Shared) (H : Hp) (C : Addr) (cl : List (Str × Addr)) (fp : List Addr), PE (X.blk s H scope (compEnvC scope cl C X.env) fp) elt (tE X.K mg call el W0)) (hs : ∀ x, foldedSetIterable iter X.env x = pure x) :
    PE X (.ListComp elt [⟨tg, iter, ifs, 0⟩] scope pos) (tE X.K mg call (.lcO i el t cs ow) W) := by
  subst how
  exact PE.weak (pe_lc hc hN hi ok hg ht he hs) fun σ H Q h => lcO_pre h

end
end VI

namespace VI
variable [Tn]
open PySem PySem.Spec PyProof.Rows L2
section
variable {X : Cx} {mg : Str → Option Value} {call : CallT} {W : WX} {pr : Nat → Bool}
/-- the list in a slot, told with its places -/
def iOwnE (K : PySem.W.Frag) (i : Nat) : TI := fun σ H Rr => ∃ a vs, σ[i]? = some (some (.ref a)) ∧ H a = some (.lst vs) ∧ Rr (Ite K a) H
theorem pi_ownE {i : Nat} {p pos tpos : Pos} {a : Expr} {elts : List Expr} {kk : Nat} (hg : Gl X "enumerate") (hm : X.mg "enumerate" = none) (he : PE X a (tVar i)) (na : starEach [a] X.env = (false, eval a X.env) :: starEach [] X.env) :
    PI X (.Tuple elts kk tpos) (.Call (.Name "enumerate" p) [a] [] pos) (iOwnE X.K i) := by
  refine ⟨fun pins s σ H Rr I h => ?_⟩
  obtain ⟨p0, vs, h1, h2, h3⟩ := h
  refine Call_ (ld_blt I hg hm boot_enumerate (PyProof.Rows.callWith_type1 (thn ((pa_cons he pa_nil na).run pos pins s σ H (fun ws H1 => ws = [.ref p0] ∧ H1 = H) I ⟨_, h1, rfl, rfl⟩) fun us s1 ⟨ws, H1, I1, r1, ex, eh⟩ => ?_) na rfl))
  subst eh
  subst ex
  obtain ⟨its, rv, p', hz⟩ := I1.list (SqL.of h2)
  cases r1 with
  | cons r rr =>
    cases rr
    cases r
    refine call_enumerate_list p'.isList fun h' he hit hsz hk => ?_
    refine wpAny_pyIter_enum he ?_
    have I2 : Inv X pins σ H1 { s1 with heap := h' } := I1.kept (t' := s1.toks) hk
    refine ⟨s1.heap.objs.size + 1, [s1.heap.objs.size + 1, s1.heap.objs.size], _, _, H1, rfl, I2, turn_enum p0 _ _, ⟨⟨.none, he⟩, hit, Nat.succ_ne_self _⟩, fun b hb => ?_, h3⟩
    have e' : b = s1.heap.objs.size + 1 ∨ b = s1.heap.objs.size := by simpa using hb
    have hle : s1.heap.objs.size ≤ b := by
      rcases e' with z | z
      · rw [z]; exact Nat.le_add_right _ _
      · rw [z]; exact Nat.le_refl _
    exact I1.fpOk hle (I1.hok.fresh hle)
theorem lcE_pre {i0 : Nat} {el : E} {t : T} {cs : List E} {own : List Nat} {σ : SG} {H : Hp} {Q : VK}
    (h : tE X.K mg call (.lcE i0 el t cs own) W σ H Q) : tLc (iOwnE X.K i0) (gT X.K mg (fun i => !own.contains i) t) (tTs X.K mg call cs) (tE X.K mg call el W0) own σ H Q := by
  obtain ⟨F, A, ρ, w, s, p⟩ := h
  simp only [ev] at p
  cases h0 : ρ[i0]? with
  | none => simp only [h0] at p; exact p.elim
  | some o0 =>
  cases o0 with
  | none => simp only [h0] at p; exact p.elim
  | some d0 =>
  simp only [h0] at p
  split at p
  case h_2 => exact p.elim
  rename_i xs heq
  cases heq
  split at p
  case isFalse => exact p.elim
  rename_i hc
  simp only [Bool.and_eq_true] at hc
  have hyl : (enumD 0 xs).length = xs.length := enumD_len 0 xs
  have hya := fun i => enumD_at 0 xs i
  generalize enumD 0 xs = ys at p hyl hya
  obtain ⟨v, A0, A1, hv, ox, s1, dj, b1, b2⟩ := s.get h0
  cases ox with
  | fz z => exact absurd z.pure (by simp [VI.D.pure])
  | lst ha c1 c2 c3 oL =>
  rename_i aL vL C
  have hlen := oL.len
  have fzx : FzL X.K F vL xs := oL.fzd hc.1
  refine ⟨aL, vL, hv, ha, fun D hD => ?_⟩
  have sbA : Sb (cup A1 (one aL)) A := fun z y => y.elim (b2 z) fun y => b1 z (y ▸ c1)
  have dja : Dj A1 (one aL) := fun z y1 y2 => dj aL c1 (y2 ▸ y1)
  have noerr : ∀ {xs acc ρ x ρ'}, lcLoop (lcF call el t cs) own xs acc ρ ≠ .err x ρ' := by
    intro xs
    induction xs with
    | nil => intro acc ρ x ρ' h; simp [lcLoop] at h
    | cons y ys ih =>
      intro acc ρ x ρ' h
      unfold lcLoop at h
      split at h
      · split at h
        · exact ih h
        · cases h
      · exact ih h
      · cases h
  have p1 : PostL X.K mg F H A1 σ (lcLoop (lcF call el t cs) own ys [] (wipeD (ρ.set i0 none) own)) Q := by
    exact PostL.hide (ρ0 := ρ) (mg := mg) (W := W) (i := i0) hv w sbA dja ha fzx p fun x ρ' => noerr
  have w1 : Wd F H A1 := w.sub b2
  have e1 : Ext F H A1 F H A1 := Ext.refl w1
  have naH : ¬ A1 aL := fun z => dja aL z rfl
  generalize hF1 : F = F1 at *
  generalize hH1 : H = H1 at *
  generalize hρ1 : ρ.set i0 none = ρ1 at *
  have nA : ∀ a, A1 a → a ≠ D := fun a ha => e1.wd.nq ha hD
  have e2 := Ext.laid (o := .lst []) e1.wd hD
  have lay : ∀ a o, H1 a = some o → upd H1 D (.lst []) a = some o := fun a o h => by rw [upd_ne (ne_of_none h hD)]; exact h
  refine ⟨fun i m H => i ≤ ys.length ∧ m = ys.length - i ∧ ∃ F A B vs acc ρ, Same F1 F ∧ (H aL = some (.lst vL) ∧ ¬ (cup A (cup (one D) B)) aL) ∧ Wd F H (cup A (cup (one D) B)) ∧ Dj A (cup (one D) B) ∧ ¬ B D ∧ H D = some (.lst vs) ∧ OwnL X.K mg F H vs acc B ∧ Slots X.K mg F H (L2.wipe σ own) ρ A ∧
    PostL X.K mg F H (cup A (cup (one D) B)) σ (lcLoop (lcF call el t cs) own (ys.drop i) acc ρ) Q, ⟨ys.length, Nat.zero_le _, by simp, F1, A1, no, [], [], wipeD ρ1 own, fun _ _ e => e, ⟨lay aL _ ha, fun z => z.elim naH fun z => z.elim (fun z => by have z : aL = D := z; rw [← z] at hD; rw [ha] at hD; cases hD) fun z => z⟩, ?_, ?_, fun z => z, upd_same, .nil, ?_, ?_⟩, ?_⟩
  · exact e2.wd.sub fun a h => h.elim .inr fun h => h.elim .inl fun h => h.elim
  · exact fun a h h' => h'.elim (nA a h) fun h => h
  · exact Slots.move (fun _ _ e => e) (s1.wipe own) fun a o _ h => lay a o h
  · rw [List.drop_zero]
    exact p1.pre e1.wd (e2.sub fun a h => h.elim .inr fun h => h.elim .inl fun h => h.elim)
  rintro i m H2 ⟨hi, rfl, F2, A2, B2, vs, acc, ρ2, sm, ⟨hk1, hk2⟩, w2, dj2, nB, hD2, ol, s2, p2⟩
  by_cases hlt : i < ys.length
  · have hlv : i < vL.length := by omega
    refine .inr ⟨⟨vL, vL[i], SqL.of hk1, List.getElem?_eq_getElem hlv⟩, _, fun H' h' => ⟨ys.length - (i + 1), by omega, h'⟩, fun x H3 y => ?_⟩
    obtain ⟨tA, x0, hxT, hT0, eH, y⟩ := y
    have yv := y vL (SqL.of hk1)
    obtain ⟨d, F3, hd, e3, fz, sm3⟩ : ∃ d F3, ys[i]? = some d ∧ Ext F2 H2 (cup A2 (cup (one D) B2)) F3 H3 (cup A2 (cup (one D) B2)) ∧ Fz X.K F3 x d ∧ Same H2 H3 := by
      have e := Ext.laidF (o := .tup [.int (i : Nat), x0]) w2 hT0
      have hlx : i < xs.length := by omega
      refine ⟨.tup [.int ((0 + i : Nat) : Int), xs[i]], _, hya i _ (List.getElem?_eq_getElem hlx), by rw [eH]; exact e, ?_, by rw [eH]; exact fun _ _ z => (upd_ne (ne_of_none z hT0)).trans z⟩
      rw [hxT, Nat.zero_add]
      refine .tup upd_same (.cons (.int _) (.cons ?_ .nil))
      obtain ⟨v0, q1, q2⟩ := (FzL.up (sm.trans e.fsame) fzx).at (i := i) (List.getElem?_eq_getElem hlx)
      rw [yv] at q1; cases q1
      exact q2
    have hdr : ys.drop i = d :: ys.drop (i + 1) := by
      rw [List.drop_eq_getElem_cons hlt]
      rw [List.getElem?_eq_getElem hlt] at hd
      cases hd; rfl
    rw [hdr] at p2
    simp only [lcLoop, lcF] at p2
    cases ht : t.put d ρ2 with
    | none => simp only [ht] at p2; exact p2.elim
    | some ρ3 =>
    simp only [ht] at p2
    refine ⟨F3, A2, no, ρ2, d, ρ3, by rw [cup_no']; exact e3.wd.sub Sb.l, Slots.move e3.fsame s2 fun a o _ h => sm3 a o h, .fz fz, Dj.no_r, ht, fun σ4 A4 sb4 sl4 sk4 => ?_⟩
    have sb4' : Sb A4 A2 := fun z x => (sb4 z x).elim id fun z => z.elim
    have hw4 : L2.wipe σ4 own = L2.wipe σ own := by
      refine wipe_eq ?_ fun j hj => sk4 j (by simpa using hj)
      have := sl4.length
      have h2 := s2.length
      have h3 : ∀ {t : T} {d ρ ρ'}, t.put d ρ = some ρ' → ρ'.length = ρ.length := fun {t} => T.put_len t
      rw [this, h3 ht, ← h2, wipe_length]
    refine ⟨hw4, ?_⟩
    -- the next turn
    have next : ∀ {F5 H5 : Hp} {A5 : AS} {ρ5 : Env'}, Ext F3 H3 A4 F5 H5 A5 → Slots X.K mg F5 H5 σ4 ρ5 A5 → PostL X.K mg F2 H2 (cup A2 (cup (one D) B2)) σ (lcLoop (lcF call el t cs) own (ys.drop (i + 1)) acc (wipeD ρ5 own)) Q →
        (i + 1 ≤ ys.length ∧ ys.length - (i + 1) = ys.length - (i + 1) ∧ ∃ F A B vs acc ρ, Same F1 F ∧ (H5 aL = some (.lst vL) ∧ ¬ (cup A (cup (one D) B)) aL) ∧ Wd F H5 (cup A (cup (one D) B)) ∧ Dj A (cup (one D) B) ∧ ¬ B D ∧ H5 D = some (.lst vs) ∧ OwnL X.K mg F H5 vs acc B ∧ Slots X.K mg F H5 (L2.wipe σ own) ρ A ∧
          PostL X.K mg F H5 (cup A (cup (one D) B)) σ (lcLoop (lcF call el t cs) own (ys.drop (i + 1)) acc ρ) Q) := fun {F5 H5 A5 ρ5} e5 s5 p5 => by
      obtain ⟨g1, g2⟩ := Ext.frame e3.wd dj2 (e5.more sb4')
      refine ⟨hlt, rfl, F5, A5, B2, vs, acc, wipeD ρ5 own, sm.trans (e3.fsame.trans e5.fsame), ⟨e5.keep aL _ (sm3 aL _ hk1) (fun z => hk2 (.inl (sb4' aL z))) (fun _ z => nomatch z), fun z => z.elim (fun z => (e5.anew aL z).elim (fun z => hk2 (.inl (sb4' aL z))) fun z => by rw [sm3 aL _ hk1] at z; cases z) fun z => hk2 (.inr z)⟩, g1.wd, g2, nB, e5.keep D _ (sm3 D _ hD2) (fun z => dj2 D (sb4' D z) (.inl rfl)) (fun _ z => nomatch z), ?_, by rw [← hw4]; exact s5.wipe own, p5.pre w2 (e3.trans w2 g1)⟩
      exact (OwnL.move e3.fsame (fun a o _ h => sm3 a o h) ol).ext e5 fun a x y => dj2 a (sb4' a x) (.inr y)
    refine preTs (e3.wd.sub fun a h => .inl (sb4' a h)) sl4 ?_
    cases hT : lcTests call cs ρ3 with
    | bad => simp only [hT, R.bind] at p2; exact p2
    | err z ρ' => simp only [hT, R.bind] at p2; exact p2
    | ok k ρ4 =>
    simp only [hT, R.bind] at p2
    intro F5 H5 A5 e5 s5
    cases k with
    | false =>
      rw [if_neg Bool.false_ne_true]
      simp only [Bool.false_eq_true, if_false] at p2
      exact next e5 s5 p2
    | true =>
      rw [if_pos rfl]
      simp only [if_true] at p2
      refine ⟨F5, A5, ρ4, e5.wd, s5, ?_⟩
      cases hE : ev call el ρ4 with
      | bad => simp only [hE] at p2; exact p2
      | err z ρ' => simp only [hE] at p2; exact p2.elim
      | ok dy ρ5 =>
      simp only [hE] at p2
      intro u F6 H6 A6 B6 e6 s6 o6 al6 dj6 _
      by_cases hcc : (!shares el || dy.pure) = true
      · simp only [hcc, if_true] at p2
        by_cases hlen : acc.length < lim
        · rw [if_pos hlen] at p2
          obtain ⟨B6', o6', dj6', sb6⟩ := taken hcc e6.wd o6 dj6
          have e36 : Ext F3 H3 A4 F6 H6 (cup A6 B6') := (e5.trans (e3.wd.sub fun a h => .inl (sb4' a h)) e6).sub (cupSb sb6)
          obtain ⟨g1, g2⟩ := Ext.frame e3.wd dj2 (e36.more sb4')
          have hD6 : H6 D = some (.lst vs) := e36.keep D _ (sm3 D _ hD2) (fun z => dj2 D (sb4' D z) (.inl rfl)) (fun _ z => nomatch z)
          have ol6 : OwnL X.K mg F6 H6 vs acc B2 := (OwnL.move e3.fsame (fun a o _ h => sm3 a o h) ol).ext e36 fun a x y => dj2 a (sb4' a x) (.inr y)
          refine ⟨vs, hD6, by rw [szl, ol6.len]; exact hlen, ?_⟩
          have eP := Ext.put (o := .lst (vs ++ [u])) g1.wd (p := D) (.inr (.inl rfl))
          have keep : ∀ {C : AS} a o, ¬ C D → C a → H6 a = some o → upd H6 D (.lst (vs ++ [u])) a = some o := fun a o nC hC h => by rw [upd_ne (fun z => nC (by rw [← z]; exact hC))]; exact h
          have nD : ¬ (cup A6 B6') D := fun z => g2 D z (.inl rfl)
          have re : ∀ a, (cup A6 (cup (one D) (cup B2 B6'))) a → (cup (cup A6 B6') (cup (one D) B2)) a := fun a h => by
            rcases h with h | h | h | h
            · exact .inl (.inl h)
            · exact .inr (.inl h)
            · exact .inr (.inr h)
            · exact .inl (.inr h)
          refine ⟨hlt, rfl, F6, A6, cup B2 B6', vs ++ [u], acc ++ [dy], wipeD ρ5 own, sm.trans (e3.fsame.trans e36.fsame), ⟨?_, ?_⟩, eP.wd.sub re, fun a x y => ?_, fun z => z.elim nB fun z => nD (.inr z), upd_same, ?_, ?_, p2.pre w2 ((e3.trans w2 (g1.trans e3.wd eP)).sub re)⟩
          · have hne : aL ≠ D := fun z => hk2 (.inr (.inl z))
            rw [upd_ne hne]
            exact e36.keep aL _ (sm3 aL _ hk1) (fun z => hk2 (.inl (sb4' aL z))) (fun _ z => nomatch z)
          · have out : ¬ (cup A6 B6') aL := fun z => (e36.anew aL z).elim (fun z => hk2 (.inl (sb4' aL z))) fun z => by rw [sm3 aL _ hk1] at z; cases z
            intro z
            rcases z with z | z | z | z
            · exact out (.inl z)
            · exact hk2 (.inr (.inl z))
            · exact hk2 (.inr (.inr z))
            · exact out (.inr z)
          · rcases y with y | y | y
            · exact g2 a (.inl x) (.inl y)
            · exact g2 a (.inl x) (.inr y)
            · exact dj6' a x y
          · refine OwnL.append (OwnL.move (fun _ _ e => e) (fun a o hC h => keep (C := B2) a o nB hC h) ol6) (OwnL.move (fun _ _ e => e) (fun a o hC h => keep (C := B6') a o (fun z => nD (.inr z)) hC h) (.cons o6' .nil Dj.no_r Sb.rfl' Sb.no_l)) fun a x y => g2 a (.inr y) (.inr x)
          · rw [← hw4]
            exact Slots.move (fun _ _ e => e) (s6.wipe own) fun a o hC h => keep (C := A6) a o (fun z => nD (.inl z)) hC h
        · rw [if_neg hlen] at p2; exact p2.elim
      · simp only [hcc] at p2; exact p2.elim
  · have e : i = ys.length := by omega
    subst e
    refine .inl ⟨⟨vL, SqL.of hk1, by omega⟩, ?_⟩
    rw [List.drop_length] at p2
    simp only [lcLoop] at p2
    exact p2 (.ref D) F2 H2 A2 (cup (one D) B2) (Ext.refl w2) (s2.rest (by rw [wipe_length]) fun i v h => (wipe_some h).1) (.lst hD2 (.inl rfl) nB Sb.r ol) dj2
theorem pe_lcEE {i : Nat} {el : E} {t : T} {cs : List E} {own : List (Str × Nat)} {ow : List Nat} (how : ow = own.map (·.2)) {elt tg iter : Expr} {ifs : List Expr} {scope : Scope} {pos : Pos} (hc : X.calm = true) (hN : X.N.Nodup) (ok : BlkOk X.N X.env.scope scope own)
    (hi : PI X tg iter (iOwnE X.K i))
    (hg : ∀ (s : Shared) (H : Hp) (C : Addr) (cl : List (Str × Addr)) (fp : List Addr), PG (X.blk s H scope (compEnvC scope cl C X.env) fp) tg (gT X.K mg (fun i => !ow.contains i) t))
    (ht : ∀ (s : Shared) (H : Hp) (C : Addr) (cl : List (Str × Addr)) (fp : List Addr), PTs (X.blk s H scope (compEnvC scope cl C X.env) fp) ifs (tTs X.K mg call cs))
    (he : ∀ (s : Shared) (H : Hp) (C : Addr) (cl : List (Str × Addr)) (fp : List Addr), PE (X.blk s H scope (compEnvC scope cl C X.env) fp) elt (tE X.K mg call el W0)) (hs : ∀ x, foldedSetIterable iter X.env x = pure x) :
    PE X (.ListComp elt [⟨tg, iter, ifs, 0⟩] scope pos) (tE X.K mg call (.lcE i el t cs ow) W) := by
  subst how
  exact PE.weak (pe_lc hc hN hi ok hg ht he hs) fun σ H Q h => lcE_pre h
theorem psE_setLcE {i i0 : Nat} {el : E} {t : T} {cs : List E} {own : List (Str × Nat)} {ow : List Nat} (how : ow = own.map (·.2)) {elt tg iter : Expr} {ifs : List Expr} {scope : Scope} {pos spos py : Pos} {y : Str} (hp : pr i = false) (hc : X.calm = true) (hN : X.N.Nodup) (ok : BlkOk X.N X.env.scope scope own)
    (hy : X.N[i]? = some y) (hyl : X.env.scope.names.lookup y = some .local) (hsw : swapsWith (.ListComp elt [⟨tg, iter, ifs, 0⟩] scope pos) (some (.Name y py)) spos.line X.env = pure true)
    (hi : PI X tg iter (iOwnE X.K i0))
    (hg : ∀ (s : Shared) (H : Hp) (C : Addr) (cl : List (Str × Addr)) (fp : List Addr), PG (X.blk s H scope (compEnvC scope cl C X.env) fp) tg (gT X.K mg (fun i => !ow.contains i) t))
    (ht : ∀ (s : Shared) (H : Hp) (C : Addr) (cl : List (Str × Addr)) (fp : List Addr), PTs (X.blk s H scope (compEnvC scope cl C X.env) fp) ifs (tTs X.K mg call cs))
    (he : ∀ (s : Shared) (H : Hp) (C : Addr) (cl : List (Str × Addr)) (fp : List Addr), PE (X.blk s H scope (compEnvC scope cl C X.env) fp) elt (tE X.K mg call el W0)) (hs : ∀ x, foldedSetIterable iter X.env x = pure x) :
    PS X (.Assign [.Name y py] (.ListComp elt [⟨tg, iter, ifs, 0⟩] scope pos) spos) (tS X.K mg W pr (ex call (.asg (.slot i) (.lcE i0 el t cs ow)))) := by
  subst how
  have h0 := ps_setLc (spos := spos) hc hN hy hyl hsw hi ok hg ht he hs
  refine PS.weak h0 fun D σ H h => ?_
  simp only [tS, ex] at h
  refine lcE_pre (Q := fun x H1 => gName i x σ H1 D.nx) (preE h fun F A ρ d ρ1 v F' H' A' B w hr ex s' o al dj p => ?_)
  split at p
  · rename_i hc
    obtain ⟨B', o', dj', sb⟩ := taken hc ex.wd o dj
    split at p
    · rename_i ρ2 hput
      simp only [T.put] at hput
      split at hput
      · rename_i hi
        cases hput
        refine p _ F' H' (cup B' A') (ex.sub ?_) (Slots.put o' s' dj'.symm ?_) (SK.set hp)
        · rw [cup_comm]; exact cupSb sb
        · rw [List.getElem?_eq_getElem (by rw [s'.length]; exact hi)]; rfl
      · cases hput
    · exact p.elim
  · exact p.elim
end
end VI

namespace VI
variable [Tn]
open PySem PySem.Spec PyProof.Rows L2 LamX
section
variable {X : Cx} {pins : List (Addr × Obj)} {σ : L2.St} {F H : Hp} {A : AS} {s : Shared} {scope : Scope}
theorem Wd.grown {P c : Addr} {q : Str} {ps more : Array Value} (w : Wd F H A) (hP : H P = some (.tbl ps)) (hc : H c = none) (t : ∀ p r, Tn.tn p r → TabS (upd (upd H P (.tbl (ps ++ more))) c (CodeO c q)) p r) :
    Ext F H A F (upd (upd H P (.tbl (ps ++ more))) c (CodeO c q)) A := by
  have nt : ∀ a u, H a = some u → (∀ z, u ≠ .tbl z) → upd (upd H P (.tbl (ps ++ more))) c (CodeO c q) a = some u := fun a u e n => by
    rw [upd_ne (ne_of_none e hc), upd_ne fun z => n ps (by rw [z, hP] at e; exact (Option.some.inj e).symm)]
    exact e
  have np : ¬ A P := fun z => by
    obtain ⟨_, u, e, m⟩ := w.own P z
    rw [hP] at e; cases e; exact m
  refine ⟨fun _ _ e => e, ⟨fun a u e => ?_, fun a x => ?_, t, w.nof⟩, fun a u e _ n => nt a u e n, fun a z e => ?_, fun a x => .inl x, fun a x => .inl x⟩
  · by_cases hz : ∃ z, u = .tbl z
    · obtain ⟨z, rfl⟩ := hz
      have := w.same a _ e
      exact (w.nof a z e).elim
    · exact nt a u (w.same a u e) fun z h => hz ⟨z, h⟩
  · obtain ⟨h1, u, h2, h3⟩ := w.own a x
    exact ⟨h1, u, nt a u h2 h3.ntbl, h3⟩
  · by_cases ha : a = P
    · subst ha
      exact ⟨_, by rw [upd_ne (ne_of_none hP hc), upd_same]⟩
    · exact ⟨z, by rw [upd_ne (ne_of_none e hc), upd_ne ha]; exact e⟩
theorem Wd.known {P : Addr} {q : Str} {ps : Array Value} (w : Wd F H A) (hn : Tn.tn P q) (hP : H P = some (.tbl ps)) : ∀ (pos : Pos) (cv : Value), codeAmong pos ps.toList = some cv → ∃ c, cv = .ref c ∧ H c = some (CodeO c q) := by
  obtain ⟨ps', e, _, k⟩ := w.tab P q hn
  rw [hP] at e; cases e
  exact k
/-- what a maker of lambdas must bring: its code object's table is known -/
def LamC (X : Cx) : Prop := ∃ c P, X.env.code = .ref c ∧ Tn.tn P (X.env.qual ++ "<lambda>") ∧ TabB X.base X.mg c P
/-- a lambda is made -/
theorem lam_mk {params : Arguments} {body : Expr} {pos : Pos} {E Q : Value → Shared → Prop} (I : Inv X pins σ H s) (w : Wd F H A) (lc : LamC X) (hdef : defaultsOf params X.env = ([], [])) (hf : ∀ y ∈ scope.names, y.2 = .free → ∃ c, X.env.cells.lookup y.1 = some c)
    (h : ∀ (f c' : Addr) (pm ctv : Value) (H1 : Hp) (s' : Shared), Inv X pins σ H1 s' → Ext F H A F H1 A → ExtN H H1 → s'.heap.get? f = some (PySem.W.kla_obj "<lambda>" (X.env.qual ++ "<lambda>") params body scope (cloFrom X.env.cells scope.names []) pm c' ctv) →
      H1 f = none → f ∉ frs X.stack → H1 c' = some (CodeO c' (X.env.qual ++ "<lambda>")) → (∀ b o, o.cls ≠ .none → s.heap.get? b = some o → s'.heap.get? b = some o) → Q (.ref f) s') :
    wpAny (model X.prog X.w) X.A (eval (.Lambda params body scope pos) X.env) Q E s := by
  obtain ⟨c, P, hcode, hn, TB⟩ := lc
  obtain ⟨ps, hP, tri, look⟩ := w.tab P _ hn
  refine PySem.W.kla_eval hdef ?_
  have oP : s.heap.get? P = some { cls := .none, data := .fields ps } := I.hok P _ hP
  have far : ∀ f, s.heap.objs.size ≤ f → f ∉ frs X.stack := fun f z y => by
    rcases List.mem_cons.mp (I.stkSub _ y) with e | e
    · exact absurd I.lt (by rw [← e]; exact Nat.not_lt.mpr z)
    · exact I.nofs z e
  have TC := TB.code.keeps I.bk
  have bB := TB.bm.keeps I.bk
  have gl := I.mod.glob.keeps I.bk
  cases hk : codeAmong pos ps.toList with
  | some cv =>
    obtain ⟨c', rfl, hc'⟩ := look pos cv hk
    refine PySem.W.kla_makeFunctionHit (mg := X.mg) (c := c) (P := P) (ps := ps) (closure_ok hf) I.ok.glob gl hcode TC oP tri hk bB fun ctv g tk kp sz => ?_
    exact h g.objs.size c' _ ctv H _ (I.kept (t' := tk) fun b o e => Heap.get?_push_of_some _ (kp b o e)) (Ext.refl w) (ExtN.refl H) (Heap.get?_push_size _ rfl) (I.hok.fresh sz) (far _ sz) hc' fun b o _ e => Heap.get?_push_of_some _ (kp b o e)
  | none =>
    refine PySem.W.kla_makeFunction (mg := X.mg) (c := c) (P := P) (ps := ps) (closure_ok hf) I.ok.glob gl hcode TC oP tri hk TB.gP bB fun c' ctv g tk kp ge lt rc ht => ?_
    obtain ⟨c2, oc, vs, t, z, k1, k2, k3⟩ := rc
    cases z
    have cn : H c' = none := I.hok.fresh ge
    have sz : s.heap.objs.size ≤ g.objs.size := Nat.le_trans ge (Nat.le_of_lt lt)
    have up := fun (o : Obj) (b : Addr) (x : Obj) (e : g.get? b = some x) => Heap.get?_push_of_some (h := g) o e
    have J := inv_table (q := X.env.qual ++ "<lambda>") (t' := tk) (more := #[rawInt pos.line, rawInt pos.col, .ref c']) (h' := g.push (PySem.W.kla_obj "<lambda>" (X.env.qual ++ "<lambda>") params body scope (cloFrom X.env.cells scope.names []) ((X.mg "__name__").getD .none) c' ctv)) I hP
      (fun b o n e => up _ b o (kp b o n e)) (up _ _ _ ht) ge ⟨oc, vs, t, up _ _ _ k1, k2, k3⟩
    refine h g.objs.size c' _ ctv _ _ J (w.grown hP cn fun p r m => ?_) (fun b u e n => by rw [upd_ne (ne_of_none e cn), upd_ne (fun z => n ps (Option.some.inj (e.symm.trans (by rw [z]; exact hP))))]; exact e) (Heap.get?_push_size _ rfl) ?_ (far _ sz) upd_same fun b o n e => up _ b o (kp b o (fun z => n (by rw [z, oP] at e; cases e; rfl)) e)
    · have stay : ∀ b u, H b = some u → b ≠ P → upd (upd H P (.tbl (ps ++ #[rawInt pos.line, rawInt pos.col, .ref c']))) c' (CodeO c' (X.env.qual ++ "<lambda>")) b = some u := fun b u e n => by
        rw [upd_ne (ne_of_none e cn), upd_ne n]; exact e
      have code : ∀ b r, H b = some (CodeO b r) → b ≠ P := fun b r e z => by
        rw [z, hP] at e
        exact codeO_ne _ (Option.some.inj e).symm
      by_cases hp : p = P
      · subst hp
        have er : r = X.env.qual ++ "<lambda>" := Tn.uniq _ m _ hn rfl
        subst er
        refine ⟨_, by rw [upd_ne (ne_of_none hP cn), upd_same], ?_, fun pos' cv z => ?_⟩
        · rw [Array.toList_append]; exact PySem.TriplesOk_snoc _ _ _ _ tri
        · rw [Array.toList_append] at z
          rcases among_app _ tri z with z | z
          · obtain ⟨c0, e1, e2⟩ := look pos' cv z
            exact ⟨c0, e1, stay _ _ e2 (code _ _ e2)⟩
          · exact ⟨c', z, upd_same⟩
      · obtain ⟨ps', e1, e2, e3⟩ := w.tab p r m
        refine ⟨ps', stay _ _ e1 hp, e2, fun pos' cv z => ?_⟩
        obtain ⟨c0, e4, e5⟩ := e3 pos' cv z
        exact ⟨c0, e4, stay _ _ e5 (code _ _ e5)⟩
    · have n1 : g.objs.size ≠ c' := Nat.ne_of_gt lt
      have n2 : g.objs.size ≠ P := Nat.ne_of_gt (Nat.lt_of_lt_of_le (Heap.lt_size oP) sz)
      rw [upd_ne n1, upd_ne n2]
      exact I.hok.fresh sz
end
end VI

namespace VI
variable [Tn]
open PySem PySem.Spec PyProof.Rows L2 LamX
section
variable {X : Cx} {pins : List (Addr × Obj)} {σ : L2.St} {H H' : Hp} {s : Shared} {h' : Heap} {ch : List Addr}
theorem far_of (I : Inv X pins σ H s) {f : Addr} (z : s.heap.objs.size ≤ f) : f ∉ frs X.stack := fun y => by
  rcases List.mem_cons.mp (I.stkSub _ y) with e | e
  · exact absurd I.lt (by rw [← e]; exact Nat.not_lt.mpr z)
  · exact I.nofs z e
/-- an address that a frame knows nothing of -/
structure Free (X : Cx) (pins : List (Addr × Obj)) (b : Addr) : Prop where
  new : X.s_0.heap.objs.size ≤ b
  nl : b ≠ X.env.locals
  nc : ∀ x c, X.env.cells.lookup x = some c → c ≠ b
  np : ∀ p ∈ X.pn ++ pins, p.1 ≠ b
  nf : b ∉ frs X.stack
theorem free_of (I : Inv X pins σ H s) {b : Addr} (z : s.heap.objs.size ≤ b) : Free X pins b where
  new := Nat.le_trans I.sz z
  nl := Ne.symm (Nat.ne_of_lt (Nat.lt_of_lt_of_le I.lt z))
  nc := fun x c e => by
    obtain ⟨v, o, h, _⟩ := I.cell x c e
    exact Nat.ne_of_lt (Nat.lt_of_lt_of_le (Heap.lt_size h) z)
  np := fun p hp => Nat.ne_of_lt (Nat.lt_of_lt_of_le (Heap.lt_size (I.pin p hp).1) z)
  nf := far_of I z
/-- objects that are not known change, or become known -/
theorem inv_ch {t' : Nat} (I : Inv X pins σ H s) (fr : ∀ b ∈ ch, Free X pins b) (kp : ∀ b o, b ∉ ch → s.heap.get? b = some o → h'.get? b = some o) (hn : ∀ b ∈ ch, H b = none) (same : ∀ b, b ∉ ch → H' b = H b)
    (new : ∀ b ∈ ch, ∀ u, H' b = some u → ObjOk X.prog X.w H' h' b u) : Inv X pins σ H' { s with heap := h', toks := t' } := by
  have out : ∀ b u, H b = some u → b ∉ ch := fun b u e z => by rw [hn b z] at e; cases e
  refine I.step (g' := s.gens) (d' := s.drawn) (ch := ch) (fun b hb => ⟨.inr (fr b hb).new, (fr b hb).nl, (fr b hb).nc, (fr b hb).np⟩) (fun b o _ _ z e _ => kp b o z e) (fun b o _ _ z e _ => ⟨o.slots, kp b o z e⟩) (fun b o z _ e => by rw [same b z]; exact e)
    (fun b o z e => ⟨o, kp b o z e⟩) (fun b xs e => by rw [same b (out b _ e)]; exact e) (fun b o u e => by rw [same b (out b _ e)]; exact e) (fun b ps e => ⟨#[], by rw [same b (out b _ e), e]; simp⟩) (fun m hm => ?_) (fun b u e => ?_) I.bare
  · obtain ⟨o, es, ep, q, r⟩ := hm
    exact ⟨o, es, ep, kp _ o (fun z => (fr _ z).nl rfl) q, r⟩
  · by_cases hb : b ∈ ch
    · exact new b hb u e
    · rw [same b hb] at e
      refine (I.hok b u e).stay (fun c v hc q => kp c v ?_ q) (fun c q => by rw [same c (out c _ q)]; exact q) fun c xs q => by rw [same c (out c _ q)]; exact q
      rcases hc with rfl | hc
      · exact hb
      · exact out c _ hc
end
/-- a row of ints -/
abbrev rowPy (k : List Int) : PyData := .tuple (k.map .int)
theorem keyOf_some {r : R (List D)} {k : List Int} (h : keyOf r = some k) : ∃ x xs ρ, r = .ok (x :: xs) ρ ∧ x :: xs = k.map .int := by
  unfold keyOf at h
  split at h
  · rename_i x xs ρ
    exact ⟨x, xs, ρ, rfl, intsO_some h⟩
  · cases h
theorem keyAll_at {f : D → R (List D)} : ∀ {xs : List D} {kz : List (List Int)}, keyAll f xs = some kz → kz.length = xs.length ∧ ∀ (i : Nat) x, xs[i]? = some x → ∃ k, kz[i]? = some k ∧ keyOf (f x) = some k
  | [], kz, h => by simp only [keyAll, Option.some.injEq] at h; subst h; exact ⟨rfl, fun i x e => by simp at e⟩
  | y :: xs, kz, h => by
    simp only [keyAll, Option.bind_eq_some_iff, Option.map_eq_some_iff] at h
    obtain ⟨k, h1, kz', h2, rfl⟩ := h
    obtain ⟨l, g⟩ := keyAll_at h2
    refine ⟨by simp [l], fun i x e => ?_⟩
    cases i with
    | zero => simp at e; subst e; exact ⟨k, rfl, h1⟩
    | succ i => exact g i x (by simpa using e)
section
variable {X : Cx} {mg : Str → Option Value} {call : CallT} {W : WX} {pins : List (Addr × Obj)}
theorem vals_snoc {v : V} {u : Value} (r : RelV v u) : ∀ {vs : List V} {us : List Value}, Vals vs us → Vals (vs ++ [v]) (us ++ [u])
  | _, _, .nil => .cons r .nil
  | _, _, .cons h t => .cons h (vals_snoc r t)
theorem sort_core {F H : Hp} {A : AS} {σ : SG} {ρ : Env'} {s : Shared} {j : Nat} {ks : List E} {x : Str} {params : Arguments} {as : List Expr} {kk : Nat} {tp : Pos} {scope : Scope} {q c' : Addr} {pm ctv : Value} {acc : Array Value} {n : Int} {kz : List (List Int)} {Q : VK}
    (hN : X.N.Nodup) (hr : Room 4 X.A) (L : LamQ X.env.scope scope) (hj : X.N[j]? = some x) (hx : scope.names.lookup x = some .local) (hone : ∀ y, scope.names.lookup y = some .local → y = x)
    (hbind : ∀ (cl : List (Str × Addr)) (pm cv ctv u : Value), bindArgs (PySem.W.kla_fn "<lambda>" (X.env.qual ++ "<lambda>") params (.Tuple as kk tp) scope cl pm cv ctv) ⟨[u], []⟩ = pure [(x, u)])
    (hk : ∀ (A : Around) (outer : List Env) (s : Shared) (H : Hp) (f c' : Addr), Room 0 (A.deeper (lamEnv X scope s.heap.objs.size f c')) → PE (lamCx X A outer s H (fun _ _ _ => False) scope f c') (.Tuple as kk tp) (tE X.K mg call (.tup ks) W0))
    (I : Inv X pins σ H s) (w : Wd F H A) (sl : Slots X.K mg F H σ ρ A) (hq : s.heap.get? q = some (PySem.W.kla_obj "<lambda>" (X.env.qual ++ "<lambda>") params (.Tuple as kk tp) scope (cloFrom X.env.cells scope.names []) pm c' ctv)) (hqn : H q = none) (hqf : q ∉ frs X.stack)
    (hc : H c' = some (CodeO c' (X.env.qual ++ "<lambda>"))) (hsz : acc.size = n.toNat) (hit : ∀ (i : Nat) v, acc[i]? = some v → ∃ t, v = .int (i : Nat) t) (hn : n ≤ 16777216) (hqt : quietL ks = true) (h64 : ks.length ≤ 64)
    (hkz : keyAll (fun x => evC call ks (ρ.set j (some x))) ((rngI n).map .int) = some kz)
    (fin : ∀ p F' H' A', Ext F H A F' H' A' → Slots X.K mg F' H' σ ρ A' → H' p = none → Q (.ref p) (upd H' p (.lst ((srtK (rngI n) kz).map .int)))) :
    wpAny (model X.prog X.w) X.A.in1 (do
      let l ← newList acc.toList
      let _ ← holding [l] (PySem.call (.builtin "list.sort") [l] [(Str.ofString "key", .ref q)])
      ret l) (fun fin s' => ∃ v, fin = .done (.ret v) ∧ EP X pins σ Q v s') X.xe s := by
  have szl' := sizeLine_eq
  have lacc : acc.toList.length = n.toNat := by rw [Array.length_toList, hsz]
  obtain ⟨lk, gk⟩ := keyAll_at hkz
  have lr : (rngI n).length = n.toNat := by unfold rngI; rw [List.length_map, List.length_range]
  have lkz : kz.length = n.toNat := by rw [lk, List.length_map, lr]
  have hjl : j < ρ.length := by
    have h1 : j < X.N.length := (List.getElem?_eq_some_iff.mp hj).1
    rw [← sl.length, I.len]; exact h1
  have rat : ∀ i, i < n.toNat → (rngI n)[i]? = some ((i : Nat) : Int) := fun i hi => by
    unfold rngI; rw [List.getElem?_map, List.getElem?_range hi]; rfl
  have fA := free_of I (b := s.heap.objs.size) (Nat.le_refl _)
  have fK := free_of I (b := s.heap.objs.size + 2) (Nat.le_add_right _ _)
  have fresh : ∀ b, s.heap.objs.size ≤ b → H b = none := fun b z => I.hok.fresh z
  have nqs : q < s.heap.objs.size := Heap.lt_size hq
  -- what holds between the turns
  refine srt_list (kz := kz.map rowPy) (fun kv s' => ∃ F' H' A' Bz, Inv X pins σ H' s' ∧ Ext F H A F' H' A' ∧ Slots X.K mg F' H' σ ρ A' ∧ kv.length ≤ n.toNat ∧ Vals Bz kv ∧ FzL X.K F' Bz ((kz.take kv.length).map fun k => D.tup (k.map .int)) ∧
      H' s.heap.objs.size = none ∧ H' (s.heap.objs.size + 2) = none ∧ H' q = none ∧ s'.heap.get? q = some (PySem.W.kla_obj "<lambda>" (X.env.qual ++ "<lambda>") params (.Tuple as kk tp) scope (cloFrom X.env.cells scope.names []) pm c' ctv) ∧ H' c' = some (CodeO c' (X.env.qual ++ "<lambda>")))
    (by rw [List.length_map, lkz, lacc]) (by omega) ?al ?so (fun d hd => ?_) (fun h1 kp => ⟨F, H, A, [], I.kept (t' := s.toks) kp, Ext.refl w, sl, Nat.zero_le _, .nil, .nil, fresh _ (Nat.le_refl _), fresh _ (Nat.le_add_right _ _), hqn, kp _ _ hq, hc⟩) ?turn ?read ?last
  case al => exact rows_alike (fun k : List Int => k) kz
  case so =>
    refine rows_sortable (fun k : List Int => k) kz fun k hk' => ?_
    obtain ⟨i, hi⟩ := List.getElem?_of_mem hk'
    have il : i < n.toNat := by have := (List.getElem?_eq_some_iff.mp hi).1; omega
    obtain ⟨k', e1, e2⟩ := gk i (.int (i : Nat)) (by rw [List.getElem?_map, rat i il]; rfl)
    rw [hi] at e1; cases e1
    obtain ⟨y, ys, _, _, e3⟩ := keyOf_some e2
    rintro rfl
    simp at e3
  · obtain ⟨k, _, rfl⟩ := List.mem_map.mp hd
    rw [depth_row]
    have := hr.un
    show X.A.units + 1 + 1 + 1 < _
    omega
  case turn =>
    rintro i u kv s' hu hl ⟨F', H', A', Bz, I', ex, sl', _, vz, fz, nA, nK, nq, gq, gc⟩ ⟨oK, hoK⟩ ⟨oA, hoA⟩
    have il : i < n.toNat := by have := (List.getElem?_eq_some_iff.mp hu).1; omega
    have hu' : acc[i]? = some u := by rw [← hu]; simp
    obtain ⟨t, rfl⟩ := hit i u hu'
    obtain ⟨k, hki, hko⟩ := gk i (.int (i : Nat)) (by rw [List.getElem?_map, rat i il]; rfl)
    obtain ⟨y, ys, ρ2, hev, hys⟩ := keyOf_some hko
    have hr1 : Room 1 X.A.in1.in1 := ⟨hr.hd, by have := hr.dp; show X.A.depth + _ + _ < _; omega, by have := hr.un; show X.A.units + 1 + 1 + _ + _ < _; omega⟩
    have e0 : Env0 X.prog X.w X.K X.mg X.base X.A.in1.in1 X.stack s' H' := I'.env0.in1.in1
    have hsj : (σ[j]?).isSome = true := by
      rw [List.getElem?_eq_getElem (by rw [I.len]; exact (List.getElem?_eq_some_iff.mp hj).1)]; rfl
    have slj : Slots X.K mg F' H' (σ.set j (some (.int (i : Nat)))) (ρ.set j (some (.int (i : Nat)))) A' := by
      have := Slots.put (mg := mg) (K := X.K) (F := F') (H := H') (A1 := no) (v := .int ((i : Nat) : Int)) (.fz (.int _)) sl' Dj.no_l hsj
      have e : cup no A' = A' := funext fun a => propext ⟨fun h => h.elim (fun z => z.elim) id, .inr⟩
      rwa [e] at this
    have pure1 : pureL (y :: ys) = true := by rw [hys]; exact ints_pureD k
    have len1 : (y :: ys).length ≤ 64 := by
      have : ∀ {es : List E} {ρ ρ' ds}, evC call es ρ = .ok ds ρ' → ds.length = es.length := by
        intro es
        induction es with
        | nil => intro ρ ρ' ds h; simp only [evC] at h; cases h; rfl
        | cons e es ih =>
          intro ρ ρ' ds h
          simp only [evC] at h
          cases h1 : ev call e ρ with
          | bad => simp only [h1, R.bind] at h; cases h
          | err _ _ => simp only [h1, R.bind] at h; cases h
          | ok d ρ1 =>
            simp only [h1, R.bind] at h
            cases h2 : evC call es ρ1 with
            | bad => simp only [h2] at h; cases h
            | err _ _ => simp only [h2] at h; cases h
            | ok ds' ρ2 =>
              simp only [h2] at h
              split at h
              · cases h; simp [ih h2]
              · cases h
      rw [this hev]; exact h64
    have rc := lam_called (σ' := σ.set j (some (.int (i : Nat)))) (E := fun _ _ _ => False) (Q := fun v H2 => ∃ F2, Ext F' H' A' F2 H2 A' ∧ Same H' H2 ∧ Fz X.K F2 v (.tup (k.map .int)))
      (us := [.int (i : Nat) t]) (bs := [(x, .int (i : Nat) t)]) I' L e0 hr1 Un.refl gq gc (hbind _ _ _ _ _) (fun y hy => by simp at hy; subst hy; exact hx) (by simp) (fun m y v e1 e2 => ?hs) (fun A0 o0 s0 H0 rm => hk A0 o0 s0 H0 q c' rm) ?ht
    case hs =>
      refine ⟨fun hloc => ?_, fun hfree => ?_⟩
      · have := hone y hloc
        subst this
        have hm : m = j := by
          have h1 := (List.getElem?_eq_some_iff.mp e1)
          have h2 := (List.getElem?_eq_some_iff.mp hj)
          exact (List.getElem_inj hN).mp (h1.2.trans h2.2.symm)
        subst hm
        rw [List.getElem?_set_self (by rw [I.len]; exact (List.getElem?_eq_some_iff.mp hj).1)] at e2
        cases e2
        exact ⟨_, ⟨t, rfl⟩, by simp⟩
      · have hm : j ≠ m := fun z => by
          subst z
          rw [hj] at e1; cases e1
          rw [hx] at hfree; cases hfree
        rw [List.getElem?_set_ne hm] at e2
        exact e2
    case ht =>
      refine ⟨F', A', _, ex.wd, slj, ?_⟩
      have e1 : ev call (.tup ks) (ρ.set j (some (.int (i : Nat)))) = .ok (.tup (k.map .int)) ρ2 := by
        simp only [ev, hev, R.bind]
        rw [if_pos (by rw [pure1, Bool.true_and, decide_eq_true_eq]; exact Nat.le_trans len1 (by decide)), hys]
      rw [e1]
      intro v F2 H2 A2 B e2 s2 o2 _ _ qq
      obtain ⟨z1, z2, z3⟩ := qq (by simp only [quiet]; exact hqt)
      subst z3
      refine ⟨F2, e2.sub Sb.l, z2, o2.fzd ?_⟩
      simp only [D.pure]; exact ints_pureD k
    refine wpAny_call (codeAny_mono rc fun r s2 hqr => ?_)
    cases r with
    | error e =>
      have hqr : L2.CX X.prog X.w X.stack H' s' (fun _ _ _ => False) e s2 := hqr
      obtain ⟨_, _, _, _, _, _, _, _, _, _, _, _, z⟩ := hqr
      exact z
    | ok fl =>
      cases fl with
      | ret v0 =>
        have hce : CE X.stack X.prog X.w H' s' _ v0 s2 := hqr
        obtain ⟨v, H2, os, bare, un, hok2, rv, F2, e2, sm2, fz2⟩ := hce
        obtain ⟨v', H2', I2, _, rfl, rfl⟩ := I'.after (Q := fun v' G => v' = v ∧ G = H2) ⟨v, H2, os, bare, un, hok2, rv, rfl, rfl⟩
        have kpt : ∀ b o, (b = s.heap.objs.size + 2 ∨ b = s.heap.objs.size ∨ b = q) → s'.heap.get? b = some o → s2.heap.get? b = some o := fun b o hb e => by
          rcases hb with rfl | rfl | rfl
          · exact un.keep _ o e nK fK.nf (by simp)
          · exact un.keep _ o e nA fA.nf (by simp)
          · exact un.keep _ o e nq hqf (by simp)
        have nK2 := un.free _ oK hoK nK (by simp)
        have nq2 := un.free _ _ gq nq (by simp)
        refine ⟨fun b o hb e => kpt b o (hb.imp id .inl) e, fun h3 sb => ?_⟩
        have tk : kz.take (i + 1) = kz.take i ++ [k] := by rw [List.take_add_one, hki]; rfl
        refine ⟨F2, H2', A', Bz ++ [v'], inv_ch (ch := [s.heap.objs.size + 2]) (t' := s2.toks) I2 (fun b hb => by simp at hb; subst hb; exact fK) (fun b o hb e => (sb.2 b (by simpa using hb)).trans e) (fun b hb => by simp at hb; subst hb; exact nK2) (fun _ _ => rfl)
          (fun b hb u hu => by simp at hb; subst hb; rw [nK2] at hu; cases hu), ex.trans w e2, Slots.move e2.fsame sl' fun a o _ h => sm2 a o h, by rw [List.length_append, hl]; exact il, vals_snoc rv vz, ?_, un.free _ oA hoA nA (by simp), nK2, nq2, (sb.2 q (Nat.ne_of_lt (Nat.lt_of_lt_of_le nqs (Nat.le_add_right _ _)))).trans (kpt q _ (.inr (.inr rfl)) gq), sm2 _ _ gc⟩
        rw [List.length_append, hl]
        show FzL X.K F2 _ ((kz.take (i + 1)).map _)
        rw [tk, List.map_append]
        rw [hl] at fz
        exact (FzL.up e2.fsame fz).append (.cons fz2 .nil)
      | next => exact False.elim hqr
      | brk => exact False.elim hqr
      | cont => exact False.elim hqr
  case read =>
    rintro kv s' ⟨F', H', A', Bz, I', ex, sl', _, vz, fz, _⟩ hl
    have hk2 : kz.take kv.length = kz := List.take_of_length_le (by omega)
    rw [hk2] at fz
    obtain ⟨l1, g1⟩ := vals_at vz
    refine eachIs_mk (by rw [List.length_map]; omega) fun i u d hu hd => ?_
    rw [List.getElem?_map] at hd
    cases hki : kz[i]? with
    | none => rw [hki] at hd; cases hd
    | some k =>
      rw [hki] at hd; cases hd
      obtain ⟨v, e1, f1⟩ := fz.at (i := i) (d := .tup (k.map .int)) (by rw [List.getElem?_map, hki]; rfl)
      have dp := dp_of (mg := mg) (B := no) (n := deep) ex.wd.same (.fz f1) (rowD_ok k)
      rw [rowD_py] at dp
      exact Dp.reads I' _ _ _ dp (g1 i v u e1 hu)
  case last =>
    rintro kv s' h3 tk out cc ⟨F', H', A', Bz, I', ex, sl', _, vz, fz, nA, nK, _⟩ kp hD ko
    have zl : ((rngI n).zip kz).map (fun b => rowPy b.2) = kz.map rowPy := by
      have : ((rngI n).zip kz).map (·.2) = kz := List.map_snd_zip (by omega)
      calc ((rngI n).zip kz).map (fun b => rowPy b.2) = (((rngI n).zip kz).map (·.2)).map rowPy := by rw [List.map_map]; rfl
        _ = kz.map rowPy := by rw [this]
    rw [← zl] at ko
    have eo := PySem.W.keyedOut_each (R := fun u (b : Int × List Int) => ∃ t, u = Value.int b.1 t) (fun b : Int × List Int => rowPy b.2) ko (eachIs_mk (by rw [List.length_zip]; omega) fun i u b hu hb => by
      rw [List.getElem?_zip_eq_some] at hb
      have il : i < n.toNat := by have := (List.getElem?_eq_some_iff.mp hb.2).1; omega
      obtain ⟨t, rfl⟩ := hit i u (by rw [← hu]; simp)
      rw [rat i il] at hb
      have := Option.some.inj hb.1
      exact ⟨t, by rw [← this]⟩)
    rw [dataLe_leL (fun b : Int × List Int => b.2)] at eo
    obtain ⟨e2, g2⟩ := eachIs_at eo
    have lout : out.length = n.toNat := by rw [e2, List.length_mergeSort, List.length_zip]; omega
    refine ⟨.ref s.heap.objs.size, upd H' s.heap.objs.size (.lst ((srtK (rngI n) kz).map V.int)), inv_ch (ch := [s.heap.objs.size, s.heap.objs.size + 2]) (t' := tk) I' (fun b hb => ?_) (fun b o hb e => kp b o (fun z => hb (by simp [z])) (fun z => hb (by simp [z])) e) (fun b hb => ?_) (fun b hb => upd_ne fun z => hb (by simp [z])) (fun b hb u hu => ?_), rfl, fin _ _ _ _ ex sl' nA⟩
    · simp at hb
      rcases hb with rfl | rfl
      · exact fA
      · exact fK
    · simp at hb
      rcases hb with rfl | rfl
      · exact nA
      · exact nK
    · simp at hb
      rcases hb with rfl | rfl
      · rw [upd_same] at hu; cases hu
        refine ⟨?_, out, cc, vals_mk ?_ fun i x y h1 h2 => ?_, hD⟩
        · unfold srtK; rw [List.length_map, List.length_map, List.length_mergeSort, List.length_zip]; omega
        · unfold srtK; rw [List.length_map, List.length_map]; exact e2.symm
        · unfold srtK at h1
          rw [List.getElem?_map, List.getElem?_map] at h1
          cases hb : (((rngI n).zip kz).mergeSort fun a b => leL a.2 b.2)[i]? with
          | none => rw [hb] at h1; cases h1
          | some b =>
            rw [hb] at h1
            cases h1
            exact g2 i y b h2 hb
      · rw [upd_ne (Nat.ne_of_gt (Nat.lt_add_of_pos_right (by decide))), nK] at hu; cases hu
/-- sorted(range(n), key=lambda x: (..)) -/
theorem pe_sortK {n : E} {j : Nat} {ks : List E} {x : Str} {params : Arguments} {as : List Expr} {kk : Nat} {tp p p1 p2 pos lpos kpos : Pos} {nE : Expr} {scope : Scope}
    (hcalm : X.calm = true) (hN : X.N.Nodup) (hr : Room 4 X.A) (lc : LamC X) (hg : Gl X "sorted") (hm : X.mg "sorted" = none) (hg2 : Gl X "range") (hm2 : X.mg "range" = none)
    (L : LamQ X.env.scope scope) (hj : X.N[j]? = some x) (hx : scope.names.lookup x = some .local) (hone : ∀ y, scope.names.lookup y = some .local → y = x) (hdef : defaultsOf params X.env = ([], []))
    (hbind : ∀ (cl : List (Str × Addr)) (pm cv ctv u : Value), bindArgs (PySem.W.kla_fn "<lambda>" (X.env.qual ++ "<lambda>") params (.Tuple as kk tp) scope cl pm cv ctv) ⟨[u], []⟩ = pure [(x, u)])
    (na : starEach [nE] X.env = (false, eval nE X.env) :: starEach [] X.env)
    (hn : PE X nE (tE X.K mg call n W))
    (hk : ∀ (A : Around) (outer : List Env) (s : Shared) (H : Hp) (f c' : Addr), Room 0 (A.deeper (lamEnv X scope s.heap.objs.size f c')) → PE (lamCx X A outer s H (fun _ _ _ => False) scope f c') (.Tuple as kk tp) (tE X.K mg call (.tup ks) W0)) :
    PE X (.Call (.Name "sorted" p) [.Call (.Name "range" p1) [nE] [] p2] [⟨some "key", .Lambda params (.Tuple as kk tp) scope lpos, kpos⟩] pos) (tE X.K mg call (.sortK n j ks) W) := by
  refine ⟨fun pins s σ H Q I h => ?_⟩
  obtain ⟨F, A, ρ, w, sl, p0⟩ := h
  simp only [ev] at p0
  refine wpAny_Call_Name_kw (ld_blt I hg hm boot_sorted (PyProof.Rows.callWith_kw ?_))
  have rg := prg_1 hg2 hm2 hn na (p := p1) (pos := p2)
  refine Calls.spliced_cons (thn (rg pins s σ H (fun a b H1 => a = 0 ∧ ∃ F1 A1 ρ1 kz, Ext F H A F1 H1 A1 ∧ Slots X.K mg F1 H1 σ ρ1 A1 ∧ in62 b = true ∧ b ≤ 16777216 ∧ quietL ks = true ∧ ks.length ≤ 64 ∧ keyAll (fun x => evC call ks (ρ1.set j (some x))) ((rngI b).map .int) = some kz ∧
      (∀ v F' H' A' B, Ext F H A F' H' (cup A' B) → Slots X.K mg F' H' σ ρ1 A' → Own X.K mg F' H' v (.lst true ((srtK (rngI b) kz).map .int)) B → Dj A' B → Q v H')) I ?_) fun u s1 q => ?_)
  · show tE X.K mg call n W σ H _
    refine ⟨F, A, ρ, w, sl, ?_⟩
    cases hr : ev call n ρ with
    | bad => simp only [hr, R.bind] at p0; exact p0
    | err x ρ' => simp only [hr, R.bind] at p0; exact p0
    | ok d ρ1 =>
      simp only [hr, R.bind] at p0
      cases d with
      | int k =>
        simp only at p0
        split at p0
        · rename_i hc
          simp only [Bool.and_eq_true, decide_eq_true_eq] at hc
          split at p0
          · rename_i kz hz
            intro v F1 H1 A1 B e1 s1 o1 _ _ _
            refine ⟨k, o1.int, rfl, F1, A1, ρ1, kz, e1.sub Sb.l, s1, hc.1.1.1, hc.1.1.2, hc.1.2, hc.2, hz, fun v F' H' A' B e sl o dj => ?_⟩
            exact p0 v F' H' A' B e sl o (fun z => by simp [shares] at z) (fun _ => dj) fun z => by simp [quiet] at z
          · exact p0.elim
        · exact p0.elim
      | _ => exact p0.elim
  · obtain ⟨r, a, b, t1, t2, t3, H1, rfl, hrg, I1, rfl, F1, A1, ρ1, kz, e1, sl1, h62, hb, hqt, h64, hkz, hfin⟩ := q
    refine Calls.spliced_nil ?_
    show wpAny _ _ (evalAll [do let v ← eval (.Lambda params (.Tuple as kk tp) scope lpos) X.env; standAt pos; pure v]) _ _ s1
    refine wpAny_evalAll_cons (wpAny_bind (lam_mk I1 e1.wd lc hdef (L.has I1.ok) fun f c' pm ctv H2 s2 I2 e2 eN hf hfn hff hco hkp => ?_))
    refine wpAny_bind (wpAny_standAt (wpAny_pure (wpAny_evalAll_nil ?_)))
    show wpAny _ _ (PySem.call (.builtin "sorted") [.ref r] [(Str.ofString "key", .ref f)]) _ _ s2
    refine PyProof.Rows.call_function_entry_kw kind_sorted plain_sorted entry_sorted (ksk_s1 _ _) ?_
    unfold Builtin.«sorted»
    refine wpAny_bind (m := checkCount "sorted" 1 1 _) (wpAny_pure ?_)
    have hrg2 := hkp r _ (fun z => by cases z) hrg
    obtain ⟨b1, b2⟩ : -(2 ^ 62) ≤ b ∧ b < 2 ^ 62 := by simpa [in62] using h62
    refine wpAny_bind (collect_range (A := X.A.in1) (n := (b - 0).toNat) (I2.ok.hd hcalm) hrg2 (small_one (by decide) (by decide) b1 b2) (rangeSize_nat 0 b) (by omega) fun h' tk acc kp hit => ?_)
    have eb : (b - 0).toNat = b.toNat := by omega
    rw [eb] at hit
    refine sort_core hN hr L hj hx hone hbind hk (I2.kept (t' := tk) kp) e2.wd (Slots.move' (fun _ _ e => e) sl1 fun a u _ e m => eN a u e m.ntbl) (kp _ _ hf) hfn hff hco hit.1 (fun i v hv => ?_) hb hqt h64 hkz fun p F' H' A' ex sl' hp => ?_
    · obtain ⟨t, rfl⟩ := hit.2 i v hv
      exact ⟨t, by simp⟩
    · have eL := Ext.laid (o := .lst ((srtK (rngI b) kz).map V.int)) ex.wd hp
      refine hfin (.ref p) F' _ A' (one p) (((e1.trans w (e2.trans e1.wd ex)).trans w eL).sub fun a z => z.elim .inr .inl) (Slots.move eL.fsame sl' fun a o _ e => by rw [upd_ne (ne_of_none e hp)]; exact e) (.lst (B := no) upd_same rfl (fun z => z) Sb.no_l (FzL.own (FzL.intsW _))) fun a z1 z2 => ?_
      cases z2
      exact absurd hp (by obtain ⟨_, u, q, _⟩ := ex.wd.own _ z1; rw [q]; simp)
/-- what an expression made, frozen -/
theorem pe_fz {e : E} {a : Expr} (h : PE X a (tE X.K mg call e W)) : PE X a (tE X.K mg call (.fz e) W) := by
  refine PE.weak h fun σ H Q h => ?_
  obtain ⟨F, A, ρ, w, s, p⟩ := h
  refine ⟨F, A, ρ, w, s, ?_⟩
  simp only [ev] at p
  cases hr : ev call e ρ with
  | bad => simp only [hr, R.bind] at p; exact p
  | err x ρ' => simp only [hr, R.bind] at p; exact p
  | ok d ρ1 =>
    simp only [hr, R.bind] at p
    by_cases hc : (d.can && !shares e) = true
    · rw [if_pos hc] at p
      simp only [Bool.and_eq_true, Bool.not_eq_true'] at hc
      intro v F' H' A' B ex sl o _ dj _
      have d2 := dj hc.2
      have w2 : Wd F' H' (cup B A') := by rw [cup_comm]; exact ex.wd
      have f := freeze w2 d2.symm hc.1 o
      have e2 := froz_ext w2 d2.symm
      rw [cup_comm] at e2
      refine p v (froz F' H' B) H' A' no (by rw [cup_no']; exact ex.trans w e2) (Slots.move e2.fsame sl fun _ _ _ z => z) (.fz f) (fun z => by simp [shares] at z) (fun _ => Dj.no_r) fun z => by simp [quiet] at z
    · rw [if_neg hc] at p; exact p.elim
end
end VI

namespace VI
variable [Tn]
open PySem PySem.Spec PyProof.Rows L2
structure Ck where
  N : List Str
  names : List (Str × NameKind)
  fns : Str → Option Nat
  gls : Str → D → Bool
  lam : Bool
def Ck.vis (c : Ck) (i : Nat) (x : Str) : Bool := decide (c.N[i]? = some x) && (match c.names.lookup x with | some .local => true | some .cell => true | some .free => true | _ => false) && !(x == ("__debug__" : Str)) && !(x == ("__classdict__" : Str))
def Ck.glo (c : Ck) (x : Str) : Bool := decide (c.names.lookup x = some .globalImplicit)
def Ck.sto (c : Ck) (i : Nat) (x : Str) : Bool := decide (c.N[i]? = some x) && (match c.names.lookup x with | some .local => true | some .cell => true | _ => false)
def chkC : D → Expr → Bool
  | .int i, .Constant (.int j) _ _ => i == j
  | .bl b, .Constant (.bool k) _ _ => b == k
  | .non, .Constant .none _ _ => true
  | .str l, .Constant (.str s) _ _ => decide (s = ST l) && okCs l
  | _, _ => false
def plainIxB : Expr → Bool
  | .Slice .. => false
  | _ => true
def dinOp (neg : Bool) : CmpOp := if neg then .NotIn else .In
def opArgs (c : Ck) : Op → Expr → Option (List Expr)
  | .bin o, .BinOp x o' y _ => if o = o' then some [x, y] else none
  | .cmp o, .Compare x [o'] [y] _ => if o = o' && !(behindInMarks o y) then some [x, y] else none
  | .neg, .UnaryOp .USub x _ => some [x]
  | .ix, .Subscript x y _ => if plainIxB y then some [x, y] else none
  | .sl false false, .Subscript x (.Slice none none none _) _ => some [x]
  | .sl true false, .Subscript x (.Slice (some l) none none _) _ => some [x, l]
  | .sl false true, .Subscript x (.Slice none (some l) none _) _ => some [x, l]
  | .sl true true, .Subscript x (.Slice (some l) (some u) none _) _ => some [x, l, u]
  | .rev, .Subscript x (.Slice none none (some (.UnaryOp .USub (.Constant (.int 1) _ _) _)) _) _ => some [x]
  | .fn f, .Call (.Name y _) (a :: as) [] _ => if decide (y = fnName f) && c.glo y && fnHas f then some (a :: as) else none
  | .mt (.join l), .Call (.Attribute (.Constant (.str s) _ _) m apos) [b] [] pos => if decide (s = ST l) && okCs l && decide (m = "join") && (apos.endLine == pos.line) then some [b] else none
  | .lrng, .Call (.Name y _) [.Call (.Name z _) [a] [] _] [] _ => if decide (y = "list") && decide (z = "range") && c.glo y && c.glo z then some [a] else none
  | .lrng, .Call (.Name y _) [.Call (.Name z _) [a, b] [] _] [] _ => if decide (y = "list") && decide (z = "range") && c.glo y && c.glo z then some [a, b] else none
  | .sset, .Call (.Name y _) [.Call (.Name z _) [a] [] _] [] _ => if decide (y = "sorted") && decide (z = "set") && c.glo y && c.glo z && noStar a then some [a] else none
  | .isi [t], .Call (.Name y _) [a, .Name z _] [] _ => if decide (y = "isinstance") && decide (z = Str.ofString t) && cNames.contains t && c.glo y && c.glo z then some [a] else none
  | .isi ts, .Call (.Name y _) [a, .Tuple es _ _] [] _ => if decide (y = "isinstance") && tyEs ts es && decide (ts.length ≤ 5) && c.glo y && ts.all (fun t => c.glo (Str.ofString t) && cNames.contains t) then some [a] else none
  | .dget, .Subscript x y _ => if plainIxB y then some [x, y] else none
  | .din neg, .Compare x [o'] [y] _ => if decide (o' = dinOp neg) && !(behindInMarks o' y) then some [x, y] else none
  | _, _ => none
def unw : Expr → Expr
  | .BoolOp _ [q] _ => q
  | e => e
def notSet : Expr → Bool
  | .Set .. => false
  | _ => true
def isTupE : Expr → Bool
  | .Tuple .. => true
  | _ => false
def itArgs (c : Ck) : ItK → Expr → Expr → Option (List Expr)
  | .seq, _, e => if notSet e then some [e] else none
  | .enum, tg, .Call (.Name y _) [a] [] _ => if isTupE tg && decide (y = "enumerate") && c.glo y then some [a] else none
  | .zip, tg, .Call (.Name y _) [a, b] [] _ => if isTupE tg && decide (y = "zip") && c.glo y then some [a, b] else none
  | .rng, _, .Call (.Name y _) as [] _ => if decide (y = "range") && c.glo y && (as.length == 1 || as.length == 2 || as.length == 3) then some as else none
  | .dk, _, e => if notSet e then some [e] else none
  | _, _, _ => none
/-- a display's keys -/
def dKeys : List (List Nat) → List (Option Expr) → Bool
  | [], [] => true
  | k :: ks, some (.Constant (.str s) _ _) :: es => decide (s = ST k) && dKeys ks es
  | _, _ => false
mutual
def chkT (c : Ck) (pr : Nat → Bool) : T → Expr → Bool
  | .slot i, a => match a with
    | .Name x _ => c.sto i x && !pr i
    | _ => false
  | .tup ts, a => match a with
    | .Tuple es _ _ => chkTl c pr ts es
    | _ => false
def chkTl (c : Ck) (pr : Nat → Bool) : List T → List Expr → Bool
  | [], [] => true
  | t :: ts, a :: as => chkT c pr t a && chkTl c pr ts as
  | _, _ => false
end
def Ck.blk (c : Ck) (sc : Scope) : Ck := { c with names := sc.names, lam := false }
/-- within a lambda: no calls -/
def Ck.lamK (c : Ck) (sc : Scope) : Ck := { c with names := sc.names, fns := fun _ => none, lam := false }
/-- a lambda's names -/
def lamQB (c : Ck) (sc : Scope) (ps : List Str) : Bool := (match sc.kind with | .function => true | _ => false) && !sc.isCoroutine && !sc.isGenerator && sc.names.all fun y => match y.2 with
  | .cell => false
  | .free => match c.names.lookup y.1 with | some .cell => true | some .free => true | _ => false
  | .local => ps.contains y.1
  | _ => true
/-- a lambda of one parameter -/
def lam1B (c : Ck) (j : Nat) (sc : Scope) : Arguments → Bool
  | ⟨[], [⟨x, none, _⟩], none, [], [], none, []⟩ => decide (c.N[j]? = some x) && decide (sc.names.lookup x = some .local) && lamQB c sc [x]
  | _ => false
def Ck.blkOk (c : Ck) (own : List Nat) (sc : Scope) : Bool := blkC c.N { sc with names := c.names } sc (own.map fun i => (c.N.getD i "", i))
mutual
def chkE (c : Ck) : E → Expr → Bool
  | .var i, a => match a with | .Name x _ => c.vis i x | _ => false
  | .use i, a => match a with | .Name x _ => c.vis i x | _ => false
  | .take i, a => match a with | .Name x _ => c.vis i x | _ => false
  | .lend _, _ => false
  | .cst d, a => chkC d a
  | .glob x d, a => match a with | .Name y _ => decide (x = y) && c.glo y && c.gls y d && !(y == ("__debug__" : Str)) | _ => false
  | .op o es, a => match opArgs c o a with
    | some as => chkL c es as
    | none => false
  | .chain o1 o2 x y z, a => match a with
    | .Compare p [q1, q2] [r, s] _ => decide (o1 = q1) && decide (o2 = q2) && !(lastMarks [q1, q2] [r, s]) && chkE c x p && chkE c y r && chkE c z s
    | _ => false
  | .chain3 o1 o2 o3 x y z w, a => match a with
    | .Compare p [q1, q2, q3] [r, s, t] _ => decide (o1 = q1) && decide (o2 = q2) && decide (o3 = q3) && !(lastMarks [q1, q2, q3] [r, s, t]) && chkE c x p && chkE c y r && chkE c z s && chkE c w t
    | _ => false
  | .and x y, a => match a with
    | .BoolOp .And (p :: q :: rest) pos => chkE c x p && chkE c y (unw (.BoolOp .And (q :: rest) pos))
    | _ => false
  | .or x y, a => match a with
    | .BoolOp .Or (p :: q :: rest) pos => chkE c x p && chkE c y (unw (.BoolOp .Or (q :: rest) pos))
    | _ => false
  | .not x, a => match a with | .UnaryOp .Not p _ => chkE c x p | _ => false
  | .ifx k x y, a => match a with | .IfExp p q r _ => chkE c k p && tstE k && chkE c x q && chkE c y r | _ => false
  | .tup es, a => match a with | .Tuple as _ _ => chkL c es as | _ => false
  | .lst es, a => match a with | .List as _ => chkL c es as | _ => false
  | .call f es, a => match a with
    | .Call (.Name y _) (b :: bs) [] _ => decide (f = y) && c.glo y && decide (c.fns f = some es.length) && !(y == ("__debug__" : Str)) && chkA c es (b :: bs)
    | _ => false
  | .mut o i ps es, a => ps.isEmpty && match a with
    | .Call (.Attribute (.Name x _) m apos) [b] [] pos => decide (m = pickM o) && (match o with | .append => true | .extend => true | _ => false) && c.vis i x && (apos.endLine == pos.line) && chkL c es [b]
    | .Call (.Attribute (.Name x _) m apos) [b1, b2] [] pos => decide (m = "insert") && (match o with | .insert => true | _ => false) && c.vis i x && (apos.endLine == pos.line) && chkL c es [b1, b2]
    | _ => false
  | .idx i es, a => match a with
    | .Call (.Attribute (.Name x _) m apos) [b] [] pos => decide (m = "index") && c.vis i x && (apos.endLine == pos.line) && chkL c es [b]
    | _ => false
  | .dnew t, a => match a with | .Dict [] [] _ => true | _ => false
  | .disp ks es, a => match a with
    | .Dict keys values _ => dKeys ks keys && (ks.length == es.length) && decide (ks.length ≤ 15) && decide (0 < ks.length) && chkL c es values
    | _ => false
  | .lcK i el t cs own, a => match a with
    | .ListComp elt [⟨tg, .Name x _, ifs, 0⟩] sc _ => c.blkOk own sc && c.vis i x && chkT (c.blk sc) (fun i => !own.contains i) t tg && chkE (c.blk sc) el elt && chkLs (c.blk sc) cs ifs
    | _ => false
  | .lcO i el t cs own, a => match a with
    | .ListComp elt [⟨tg, .Name x _, ifs, 0⟩] sc _ => c.blkOk own sc && c.vis i x && chkT (c.blk sc) (fun i => !own.contains i) t tg && chkE (c.blk sc) el elt && chkLs (c.blk sc) cs ifs
    | _ => false
  | .lcE i el t cs own, a => match a with
    | .ListComp elt [⟨.Tuple tes tk tp, .Call (.Name y _) [.Name x _] [] _, ifs, 0⟩] sc _ => c.blkOk own sc && decide (y = "enumerate") && c.glo y && c.vis i x && chkT (c.blk sc) (fun i => !own.contains i) t (.Tuple tes tk tp) && chkE (c.blk sc) el elt && chkLs (c.blk sc) cs ifs
    | _ => false
  | .dupd i e, a => match a with
    | .Call (.Attribute (.Name x _) m apos) [b] [] pos => decide (m = "update") && c.vis i x && (apos.endLine == pos.line) && noStar b && chkE c e b
    | _ => false
  | .fz e, a => chkE c e a
  | .sortK n j ks, a => match a with
    | .Call (.Name y _) [.Call (.Name z _) [ne] [] _] [⟨some k, .Lambda params (.Tuple as _ _) sc _, _⟩] _ => decide (y = "sorted") && decide (z = "range") && decide (k = "key") && c.glo y && c.glo z && c.lam && noStar ne && chkE c n ne && lam1B c j sc params && chkL (c.lamK sc) ks as
    | _ => false
  | .dget2 i es, a => match a with
    | .Call (.Attribute (.Name x _) m apos) [b1, b2] [] pos => decide (m = "get") && c.vis i x && (apos.endLine == pos.line) && chkL c es [b1, b2]
    | _ => false
  | .lc el t k es cs own, a => match a with
    | .ListComp elt [⟨tg, iter, ifs, 0⟩] sc _ => c.blkOk own sc && (match itArgs c k tg iter with | some as => chkL c es as | none => false) && chkT (c.blk sc) (fun i => !own.contains i) t tg && chkE (c.blk sc) el elt && chkLs (c.blk sc) cs ifs
    | _ => false
def chkL (c : Ck) : List E → List Expr → Bool
  | [], [] => true
  | e :: es, a :: as => noStar a && chkE c e a && chkL c es as
  | _, _ => false
def chkLs (c : Ck) : List E → List Expr → Bool
  | [], [] => true
  | e :: es, a :: as => tstE e && chkE c e a && es.isEmpty && chkLs c es as
  | _, _ => false
def chkA (c : Ck) : List E → List Expr → Bool
  | [], [] => true
  | e :: es, a :: as => noStar a && (match lendOf e with | some i => (match a with | .Name x _ => c.vis i x | _ => false) | none => chkE c e a) && chkA c es as
  | _, _ => false
/-- no choice where a truth is asked for -/
def tstE : E → Bool
  | .fz _ => false
  | .ifx .. => false
  | .and a b => tstE a && tstE b
  | .or a b => tstE a && tstE b
  | .not a => tstE a
  | _ => true
end
/-- what a context must bring -/
structure CkOk (c : Ck) (X : Cx) (W : WX) (mg : Str → Option Value) (call : CallT) : Prop where
  n : X.N = c.N
  nd : X.N.Nodup
  kind : X.env.scope.kind = .function
  look : ∀ x k, c.names.lookup x = some k → k ≠ .free → X.env.scope.names.lookup x = some k
  free : ∀ x, c.names.lookup x = some .free → X.env.scope.names.lookup x = some .cell ∨ X.env.scope.names.lookup x = some .free
  fn : ∀ x, c.names.lookup x = some .cell → X.fn x = true
  calm : X.calm = true
  units : X.A.units + 65 < cLine
  blt : ∀ x, (x ∈ (["isinstance", "range", "enumerate", "zip", "list"] : List Str) ∨ ∃ f, x = fnName f) ∨ (∃ t ∈ cNames, x = Str.ofString t) → X.mg x = none
  gls : ∀ x d, c.gls x d = true → ∃ u v, X.mg x = some u ∧ RelV v u ∧ Const X.K v d
  fns : ∀ f n, c.fns f = some n → ∃ m fa fd ps, FnOk X.prog X.w X.K X.mg X.base (L2.CX X.prog X.w) m fa fd ps (spC X.K mg call f n) ∧ Room m X.A ∧ X.mg f = some (.ref fa) ∧ PySem.W.keepIn X.K (.ref fa) = true ∧ Binds X.K fd ps []
  takes : Takes X W
  lam : c.lam = true → LamC X ∧ Room 4 X.A
theorem lookup_free {sc : Scope} : ∀ {names : List (Str × NameKind)} {x : Str}, names.lookup x = some .free →
    (names.map fun (n, k) => if (k == NameKind.free && sc.kind == .function && sc.names.lookup n == some .cell) then (n, NameKind.cell) else (n, k)).lookup x = some .cell ∨
    (names.map fun (n, k) => if (k == NameKind.free && sc.kind == .function && sc.names.lookup n == some .cell) then (n, NameKind.cell) else (n, k)).lookup x = some .free
  | [], _, h => by simp at h
  | (n, k₀) :: r, x, h => by
    have ih := @lookup_free sc r x
    have e : (((n, k₀) :: r).map fun (n, k) => if (k == NameKind.free && sc.kind == .function && sc.names.lookup n == some .cell) then (n, NameKind.cell) else (n, k)) =
      (if (k₀ == NameKind.free && sc.kind == .function && sc.names.lookup n == some .cell) = true then (n, NameKind.cell) else (n, k₀)) :: (r.map fun (n, k) => if (k == NameKind.free && sc.kind == .function && sc.names.lookup n == some .cell) then (n, NameKind.cell) else (n, k)) := rfl
    rw [e]
    cases hx : x == n with
    | true =>
      simp only [List.lookup_cons, hx] at h
      cases h
      by_cases hc : (NameKind.free == NameKind.free && sc.kind == .function && sc.names.lookup n == some .cell) = true
      · rw [if_pos hc]; left; simp only [List.lookup_cons, hx]
      · rw [if_neg hc]; right; simp only [List.lookup_cons, hx]
    | false =>
      simp only [List.lookup_cons, hx] at h
      by_cases hc : (k₀ == NameKind.free && sc.kind == .function && sc.names.lookup n == some .cell) = true
      · rw [if_pos hc]; simp only [List.lookup_cons, hx]; exact ih h
      · rw [if_neg hc]; simp only [List.lookup_cons, hx]; exact ih h
section
variable {c : Ck} {X : Cx} {W : WX} {mg : Str → Option Value} {call : CallT} {pr : Nat → Bool}
theorem CkOk.blk (o : CkOk c X W mg call) {sc : Scope} (hk : sc.kind = .function) (s : Shared) (H : Hp) (C : Addr) (cl : List (Str × Addr)) (fp : List Addr) : CkOk (c.blk sc) (X.blk s H sc (compEnvC sc cl C X.env) fp) W0 mg call where
  n := o.n
  nd := o.nd
  kind := hk
  look := fun x k h hf => lookup_relS_keep (sc := X.env.scope) hf h
  free := fun x h => lookup_free (sc := X.env.scope) h
  fn := fun x h => by
    show (sc.names.lookup x == some .cell) = true
    have h : sc.names.lookup x = some .cell := h
    rw [h]; rfl
  calm := o.calm
  units := o.units
  blt := o.blt
  gls := o.gls
  fns := o.fns
  takes := takes0
  lam := fun h => by cases h
theorem lamQB_ok (o : CkOk c X W mg call) {sc : Scope} {ps : List Str} (h : lamQB c sc ps = true) : LamQ X.env.scope sc ∧ ∀ y, sc.names.lookup y = some .local → y ∈ ps := by
  simp only [lamQB, Bool.and_eq_true, Bool.not_eq_true', List.all_eq_true] at h
  obtain ⟨⟨⟨h1, h2⟩, h3⟩, h4⟩ := h
  refine ⟨⟨?_, h2, h3, fun y hy e => ?_, fun y hy e => ?_⟩, fun y e => ?_⟩
  · split at h1
    · assumption
    · cases h1
  · have := h4 y hy
    rw [e] at this; cases this
  · have := h4 y hy
    rw [e] at this
    cases q : c.names.lookup y.1 with
    | none => simp [q] at this
    | some k =>
      cases k with
      | cell => exact .inl (o.look _ _ q (by decide))
      | free => exact o.free _ q
      | _ => simp [q] at this
  · have := h4 _ (PySem.mem_of_lookup e)
    simpa using this
theorem CkOk.lamK (o : CkOk c X W mg call) {sc : Scope} {ps : List Str} (h : lamQB c sc ps = true) (A : Around) (outer : List Env) (s : Shared) (H : Hp) (f c' : Addr) (r : Room 0 (A.deeper (LamX.lamEnv X sc s.heap.objs.size f c'))) :
    CkOk (c.lamK sc) (LamX.lamCx X A outer s H (fun _ _ _ => False) sc f c') W0 mg call where
  n := o.n
  nd := o.nd
  kind := (lamQB_ok o h).1.kind
  look := fun x k e _ => e
  free := fun x e => .inr e
  fn := fun x e => absurd rfl ((lamQB_ok o h).1.nocell _ (PySem.mem_of_lookup e))
  calm := rfl
  units := by have := r.un; show (A.deeper _).units + 65 < _; omega
  blt := o.blt
  gls := o.gls
  fns := fun f n e => by cases e
  takes := LamX.takes0
  lam := fun h => by cases h
theorem bind1 {x nm q : Str} {p : Pos} {body : Expr} {sc : Scope} {cl : List (Str × Addr)} {pm cv ctv u : Value} : bindArgs (PySem.W.kla_fn nm q ⟨[], [⟨x, none, p⟩], none, [], [], none, []⟩ body sc cl pm cv ctv) ⟨[u], []⟩ = pure [(x, u)] := by
  have h : List.lookup x [(x, u)] = some u := by simp
  have hs : seqItems? Value.none = pure none := rfl
  unfold bindArgs
  dsimp only [List.map, List.append, List.zip, List.length]
  simp only [List.nil_append, List.append_nil, List.length_cons, List.length_nil, List.filterMap_cons, List.filterMap_nil, h, Option.map, hs, pure_bind, List.forIn_nil, List.zipWith, Option.getD, List.drop, List.take, List.filter, Option.isNone]
  first | rfl | simp
theorem defs1 {x : Str} {p : Pos} {env : Env} : defaultsOf ⟨[], [⟨x, none, p⟩], none, [], [], none, []⟩ env = ([], []) := rfl
theorem CkOk.var (o : CkOk c X W mg call) {i : Nat} {x : Str} {pos : Pos} (h : c.vis i x = true) : PE X (.Name x pos) (tVar i) := by
  simp only [Ck.vis, Bool.and_eq_true, decide_eq_true_eq, Bool.not_eq_true'] at h
  obtain ⟨⟨⟨h1, h2⟩, h3⟩, h4⟩ := h
  refine pe_var (by rw [o.n]; exact h1) ?_ h3 h4
  split at h2
  · rename_i e; exact .inl (o.look _ _ e (by decide))
  · rename_i e; exact .inr (.inl (o.look _ _ e (by decide)))
  · rename_i e; exact .inr (o.free _ e)
  · cases h2
theorem CkOk.gl (o : CkOk c X W mg call) {x : Str} (h : c.glo x = true) : Gl X x := by
  simp only [Ck.glo, decide_eq_true_eq] at h
  exact o.look _ _ h (by decide)
theorem CkOk.sto (o : CkOk c X W mg call) {i : Nat} {x : Str} (h : c.sto i x = true) : X.N[i]? = some x ∧ Loc X.env.scope x ∧ (X.fn x = true ∨ X.env.scope.names.lookup x = some .local) := by
  simp only [Ck.sto, Bool.and_eq_true, decide_eq_true_eq] at h
  obtain ⟨h1, h2⟩ := h
  refine ⟨by rw [o.n]; exact h1, ?_⟩
  split at h2
  · rename_i e; exact ⟨.inl (o.look _ _ e (by decide)), .inr (o.look _ _ e (by decide))⟩
  · rename_i e; exact ⟨.inr (o.look _ _ e (by decide)), .inl (o.fn _ e)⟩
  · cases h2
/-! ### targets -/
theorem noStarEach {e : Expr} (h : noStar e = true) (es : List Expr) (env : Env) : assignEach (e :: es) env = (false, assign e env) :: assignEach es env := by
  cases e <;> first | rfl | simp [noStar] at h
theorem chkT_noStar : ∀ {t : T} {a : Expr}, chkT c pr t a = true → noStar a = true
  | .slot i, a, h => by cases a <;> simp [chkT] at h <;> rfl
  | .tup ts, a, h => by cases a <;> simp [chkT] at h <;> rfl
theorem chkTl_each (env : Env) : ∀ {ts : List T} {as : List Expr}, chkTl c pr ts as = true → (assignEach as env).length = ts.length ∧ (assignEach as env).findIdx? (·.1) = none
  | [], [], _ => ⟨rfl, rfl⟩
  | t :: ts, a :: as, h => by
    simp only [chkTl, Bool.and_eq_true] at h
    obtain ⟨h1, h2⟩ := chkTl_each env h.2
    rw [noStarEach (chkT_noStar h.1)]
    refine ⟨by simp [h1], ?_⟩
    rw [List.findIdx?_cons]
    simp [h2]
  | [], _ :: _, h => by simp [chkTl] at h
  | _ :: _, [], h => by simp [chkTl] at h
mutual
theorem chkT_ok (o : CkOk c X W mg call) : ∀ (t : T) (a : Expr), chkT c pr t a = true → PG X a (gT X.K mg pr t)
  | .slot i, a, h => by
    cases a <;> simp only [chkT, Bool.and_eq_true, Bool.not_eq_true', Bool.false_eq_true] at h
    obtain ⟨h1, h2, h3⟩ := o.sto h.1
    exact pgT_slot h.2 (pg_name o.nd h1 h2 h3)
  | .tup ts, a, h => by
    cases a <;> simp only [chkT, Bool.false_eq_true] at h
    obtain ⟨h1, h2⟩ := chkTl_each X.env h
    exact pgT_tup o.calm (chkTl_ok o ts _ h) h1 h2
theorem chkTl_ok (o : CkOk c X W mg call) : ∀ (ts : List T) (as : List Expr), chkTl c pr ts as = true → PGs X as (gTs X.K mg pr ts)
  | [], [], _ => pgTs_nil
  | t :: ts, a :: as, h => by
    simp only [chkTl, Bool.and_eq_true] at h
    exact pgTs_cons (chkT_ok o t a h.1) (chkTl_ok o ts as h.2) (by rw [noStarEach (chkT_noStar h.1)]; rfl)
  | [], _ :: _, h => by simp [chkTl] at h
  | _ :: _, [], h => by simp [chkTl] at h
end
end
end VI

namespace L2
open PySem PySem.Spec PyProof.Rows L2
section
variable {P : Program} {w : World} {A : Around} {E : Value → Shared → Prop} {s : Shared}
set_option maxRecDepth 100000 in
set_option maxHeartbeats 3200000 in
theorem call_set_listI {l : Addr} {items : Array Value} (ns : List Int) {Q : Value → Shared → Prop} (hh : A.handled = none) (hl : s.heap.IsList l items) (hit : IntsAre items.toList ns) (hb : ns.length + 1 < scanBound)
    (h : ∀ (h' : Heap) (tk c : Nat), SetR w h' s.heap.objs.size (fun j => decide (j ∈ ns)) c → c ≤ ns.length → (∀ b o, s.heap.get? b = some o → h'.get? b = some o) → Q (.ref s.heap.objs.size) { s with heap := h', toks := tk }) :
    wpAny (model P w) A (call (.type "set") [.ref l]) Q E s := by
  have hisz : items.size = ns.length := by
    have q := IntsAre.length hit
    rw [Array.length_toList] at q
    exact q
  obtain ⟨c, tl, hmro⟩ := F.called_set.mro
  have hmade := F.called_set.made
  have hsub := F.called_set.sub
  refine wpAny_call (codeAny_of_tree ?_)
  show wpAny _ _ (callAny (.type "set") _) _ _ _
  refine wpAny_pure ⟨Code.quiet_builtin _ (by decide +kernel), codeAny_builtin F.entry_type_call ?_⟩
  rw [Around.under_plain (weight_type_call_type "set" [.ref l] []) rfl]
  have h1 := F.called_set.notType
  have h2 := F.called_set.canCreate
  have hct := F.typeCall_set_1 (.ref l)
  repeat (any_goals (first | assumption | wp_step))

  refine codeAny_mono (code_set_led1 (.ref l) (E := E) (Q₁ := fun obj s₁ => obj = .ref s.heap.objs.size ∧ s₁ = { s with heap := s.heap.push { cls := .type "set", dict := none, data := .set #[] 0 (.fresh 0 0 (!w.params.followText "set-order")) } }) ⟨rfl, rfl⟩) fun r s₁ hr => ?_
  cases r with
  | error e => exact hr
  | ok fl =>
    cases fl with
    | ret obj =>
      obtain ⟨rfl, rfl⟩ := hr
      have hS : (s.heap.push { cls := .type "set", dict := none, data := .set #[] 0 (.fresh 0 0 (!w.params.followText "set-order")) }).get? s.heap.objs.size = some { cls := .type "set", dict := none, data := .set #[] 0 (.fresh 0 0 (!w.params.followText "set-order")) } := Heap.get?_push_size _ rfl
      have hT : Shared.TypeIs { s with heap := s.heap.push { cls := .type "set", dict := none, data := .set #[] 0 (.fresh 0 0 (!w.params.followText "set-order")) } } (.ref s.heap.objs.size) "set" := ⟨_, hS, rfl⟩
      have hli := F.called_set.init.lookup
      have hbi := F.called_set.init.bind (.ref s.heap.objs.size)
      repeat (any_goals (first | assumption | wp_step))

      refine codeAny_mono (codeAny_call_builtin (R := wants (fun r s₂ => r = .none ∧ ∃ h' tk c, s₂ = { s with heap := h', toks := tk } ∧ SetR w h' s.heap.objs.size (fun j => decide (j ∈ ns)) c ∧ c ≤ ns.length ∧
          (∀ b o, s.heap.get? b = some o → h'.get? b = some o)) E) F.called_set.init.plain F.entry_set_init (check_set_init_1 hT ?_)) fun r₂ s₂ hr₂ => ?_
      · obtain ⟨ol, hol, hcl, nl, hdl⟩ := hl
        obtain ⟨ocls, odict, odata, oslots⟩ := ol
        simp only at hcl hdl
        subst hcl; subst hdl
        have hol' : (s.heap.push { cls := .type "set", dict := none, data := .set #[] 0 (.fresh 0 0 (!w.params.followText "set-order")) }).get? l = some { cls := .type "list", dict := odict, data := .seq items nl, slots := oslots } := Heap.get?_push_of_some _ hol
        have hsls := F.sub_list_set
        have hslf := F.sub_list_frozenset
        have hne : (Value.type "list" == Value.type "dict") = false := by decide
        have hl1 : (s.heap.push { cls := .type "set", dict := none, data := .set #[] 0 (.fresh 0 0 (!w.params.followText "set-order")) }).IsList l items := ⟨_, hol', rfl, nl, rfl⟩
        unfold Builtin.«set.__init__» noKeywords Builtin.Frozenset.updateFrom
        generalize hPI : pyIter = PI
        wp_walk
        subst hPI

        refine wpAny_pyIter_list hl1 ?_
        refine wpAny_bind (wpAny_runValue ?_)
        have hlS : l < s.heap.objs.size := Heap.lt_size hol
        have hh3 : A.in1.in1.in1.handled = none := by simp [hh]
        have hz1 : (s.heap.push { cls := .type "set", dict := none, data := .set #[] 0 (.fresh 0 0 (!w.params.followText "set-order")) }).objs.size = s.heap.objs.size + 1 := Heap.size_push ..
        have hneI : l ≠ (s.heap.push { cls := .type "set", dict := none, data := .set #[] 0 (.fresh 0 0 (!w.params.followText "set-order")) }).objs.size := by
          rw [Heap.size_push]; exact Nat.ne_of_lt (Nat.lt_succ_of_lt hlS)
        have hSf : s.heap.objs.size ∉ [(s.heap.push { cls := .type "set", dict := none, data := .set #[] 0 (.fresh 0 0 (!w.params.followText "set-order")) }).objs.size, l] := by
          rw [Heap.size_push]; simp only [List.mem_cons, List.mem_singleton, List.not_mem_nil, or_false, not_or]
          exact ⟨Nat.ne_of_lt (Nat.lt_succ_self _), Nat.ne_of_gt hlS⟩
        have hval : ∀ (i : Nat) (v : Value), items[i]? = some v → ∃ k t, ns[i]? = some k ∧ v = .int k t := fun i v hv => by
          have hi : i < ns.length := by rw [← hisz]; exact (Array.getElem?_eq_some_iff.mp hv).1
          obtain ⟨t, e⟩ := PyProof.Rows.IntsAre.int_at hit i v (by rw [Array.getElem?_toList]; exact hv)
          refine ⟨ns[i], t, List.getElem?_eq_getElem hi, ?_⟩
          rw [e, List.getD_eq_getElem?_getD, List.getElem?_eq_getElem hi] <;> rfl
        refine set_update_ints ((Walks.list hh3 _ l hneI items).toS) s.heap.objs.size
          hSf ns hisz hb hval (items.size - 0) 0 _ (by omega) (Nat.zero_le _)
          ⟨⟨_, Heap.get?_push_size _ rfl, rfl, rfl⟩, (hl1.push _)⟩ ?hS0 ?hR
        case hS0 =>
          have hget : ((s.heap.push { cls := .type "set", dict := none, data := .set #[] 0 (.fresh 0 0 (!w.params.followText "set-order")) }).push { cls := .type "list_iterator", data := .fields #[.ref l, .int 0 0] }).get? s.heap.objs.size
              = some { cls := .type "set", dict := none, data := .set #[] 0 (.fresh 0 0 (!w.params.followText "set-order")) } := Heap.get?_push_of_some _ hS
          exact ⟨0, Nat.le_refl 0, setR_new_at hget⟩
        case hR =>
          intro s' c' hm hc' hS'
          obtain ⟨h', g2, d', tk', os'⟩ := s'
          have eg : g2 = s.gens := hm.gens
          have ed : d' = s.drawn := hm.drawn
          have eo : os' = s.os := hm.os
          subst eg; subst ed; subst eo
          show wpAny _ _ _ _ _ _
          refine wpAny_pure ?_
          show wpAny _ _ (ret Value.none) _ _ _
          rw [hisz] at hc'
          refine wpAny_pure ⟨rfl, h', tk', c', rfl, hS', hc', fun b o e => ?_⟩
          have hb0 : b < s.heap.objs.size := Heap.lt_size e
          have hb1 : b ≠ s.heap.objs.size := Nat.ne_of_lt hb0
          have hb2 : b ≠ (s.heap.push { cls := .type "set", dict := none, data := .set #[] 0 (.fresh 0 0 (!w.params.followText "set-order")) }).objs.size := by
            rw [Heap.size_push]; exact Nat.ne_of_lt (Nat.lt_succ_of_lt hb0)
          exact hm.heap b o (by simp only [List.mem_cons, List.mem_singleton, List.not_mem_nil, or_false, not_or]; exact ⟨hb1, hb2⟩) (Heap.get?_push_of_some _ (Heap.get?_push_of_some _ e))

      · cases r₂ with
        | error e => exact hr₂
        | ok fl₂ =>
          cases fl₂ with
          | ret r =>
            obtain ⟨rfl, h', tk, c', rfl, hS', hc', hk'⟩ := hr₂
            repeat (any_goals (first | assumption | wp_step))
            exact h _ _ _ hS' hc' hk'
          | _ => exact hr₂.elim
    | _ => exact hr.elim

end
end L2


namespace VI
variable [Tn]
open PySem PySem.Spec PyProof.Rows L2
theorem insU_mem {x k : Int} : ∀ {l : List Int}, k ∈ insU x l ↔ k = x ∨ k ∈ l
  | [] => by simp [insU]
  | y :: r => by
    unfold insU
    split
    · simp
    · split
      · rename_i e; subst e; simp
      · simp only [List.mem_cons, insU_mem (l := r)]
        constructor <;> (intro h; rcases h with h | h | h <;> simp [h])
theorem insU_srt {x : Int} : ∀ {l : List Int}, l.Pairwise (· < ·) → (insU x l).Pairwise (· < ·)
  | [], _ => by simp [insU]
  | y :: r, h => by
    obtain ⟨h1, h2⟩ := List.pairwise_cons.mp h
    unfold insU
    split
    · rename_i lt
      refine List.pairwise_cons.mpr ⟨fun z hz => ?_, h⟩
      rcases List.mem_cons.mp hz with rfl | hz
      · exact lt
      · exact Int.lt_trans lt (h1 z hz)
    · split
      · exact h
      · refine List.pairwise_cons.mpr ⟨fun z hz => ?_, insU_srt h2⟩
        rcases insU_mem.mp hz with rfl | hz
        · omega
        · exact h1 z hz
theorem sset_mem {k : Int} : ∀ {ns : List Int}, k ∈ ssetI ns ↔ k ∈ ns
  | [] => by simp [ssetI]
  | x :: r => by
    show k ∈ insU x (ssetI r) ↔ _
    rw [insU_mem, sset_mem, List.mem_cons]
theorem sset_srt : ∀ ns : List Int, (ssetI ns).Pairwise (· < ·)
  | [] => .nil
  | x :: r => insU_srt (sset_srt r)
theorem rise_uniq : ∀ {a b : List Int}, a.Pairwise (· < ·) → b.Pairwise (· < ·) → (∀ k, k ∈ a ↔ k ∈ b) → a = b
  | [], [], _, _, _ => rfl
  | [], y :: b, _, _, h => by have := (h y).mpr (by simp); simp at this
  | x :: a, [], _, _, h => by have := (h x).mp (by simp); simp at this
  | x :: a, y :: b, ha, hb, h => by
    obtain ⟨a1, a2⟩ := List.pairwise_cons.mp ha
    obtain ⟨b1, b2⟩ := List.pairwise_cons.mp hb
    have e : x = y := by
      rcases List.mem_cons.mp ((h x).mp (by simp)) with q | q
      · exact q
      · rcases List.mem_cons.mp ((h y).mpr (by simp)) with q' | q'
        · exact q'.symm
        · have := b1 x q; have := a1 y q'; omega
    subst e
    rw [rise_uniq a2 b2 fun k => ?_]
    constructor
    · intro hk
      rcases List.mem_cons.mp ((h k).mp (List.mem_cons_of_mem _ hk)) with q | q
      · have := a1 k hk; omega
      · exact q
    · intro hk
      rcases List.mem_cons.mp ((h k).mpr (List.mem_cons_of_mem _ hk)) with q | q
      · have := b1 k hk; omega
      · exact q
section
variable {X : Cx} {mg : Str → Option Value} {call : CallT} {W : WX}
/-- set(xs), xs a list of ints -/
def rSetLI (X : Cx) : List V → Hp → VK → Prop := fun xs H Q => ∃ (a : Addr) (ns : List Int), xs = [.ref a] ∧ SqL X.K H a (ns.map V.int) ∧ ns.length < 64 ∧ ∀ (q : Addr) (c : Nat), H q = none → c ≤ ns.length → Q (.ref q) (upd H q (SetO X.w q (fun j => decide (j ∈ ns)) c))
theorem cr_setL (hc : X.calm = true) : CallR X (.type "set") (rSetLI X) := by
  intro pins s σ H xs us Q I r h
  obtain ⟨a, ns, rfl, hs, h64, q⟩ := h
  rw [Vals.ref1 r]
  obtain ⟨its, rv, pl, hz⟩ := I.list hs
  have hi : IntsAre its.toArray.toList ns := ints_of_vals rv
  refine call_set_listI ns (I.ok.hd hc) pl.isList hi (by unfold scanBound; omega) fun h' tk c R1 hcn k => ?_
  exact ⟨.ref _, upd H s.heap.objs.size (SetO X.w s.heap.objs.size (fun j => decide (j ∈ ns)) c), I.laid (t' := tk) (fun b u e => k b u e) (Nat.le_refl _) (setO_new R1), rfl, q _ c (I.hok.fresh (Nat.le_refl _)) hcn⟩
theorem Rs.lst2 {F H : Hp} {A : AS} {Q : VK} {vs : List V} {ds : List D} {p q : Addr} {o : HO} (w : Wd F H A) (r : Rs X.K mg F H A false (.lst true ds) Q) (h : FzL X.K F vs ds) (hq : H q = none) (nt : ∀ ps, o ≠ .tbl ps) (hp : upd H q o p = none) : Q (.ref p) (upd (upd H q o) p (.lst vs)) := by
  have e1 := Ext.laidF (o := o) w.no hq nt
  have e2 := Ext.laid (o := .lst vs) e1.wd hp
  refine r.new rfl _ _ _ (cup (fun a => a = p) no) (Ext.trans w.no e1 e2) (fun a u e => ?_) (.lst (B := no) upd_same (.inl rfl) (fun z => z) Sb.no_l (FzL.own (FzL.up e1.fsame h)))
  have e3 : upd H q o a = some u := (upd_ne (ne_of_none e hq)).trans e
  exact (upd_ne (ne_of_none e3 hp)).trans e3
/-- sorted(set(xs)) -/
theorem pe_sset (hc : X.calm = true) {e : E} {a : Expr} {q1 q2 pos pos' : Pos} (hgl : Gl X "sorted") (hml : X.mg "sorted" = none) (hgr : Gl X "set") (hmr : X.mg "set" = none) (na : noStar a = true) (ha : PE X a (tR X.K mg call W e)) :
    PE X (.Call (.Name "sorted" q1) [.Call (.Name "set" q2) [a] [] pos'] [] pos) (tE X.K mg call (.op .sset [e]) W) := by
  have h1 := pe_callTy (p := q2) (pos := pos') (cr_setL (X := X) hc) hgr hmr PyProof.Rows.boot_set (pa_cons ha pa_nil (starEach_cons na [] X.env)) (by decide +kernel) (by decide +kernel) (starEach_cons na [] X.env)
  have h2 := pe_callB (p := q1) (pos := pos) (cr_sortedSet (X := X) hc) hgl hml boot_sorted (pa_cons h1 pa_nil (starEach_cons rfl [] X.env)) (by decide +kernel) (by decide +kernel) (starEach_cons rfl [] X.env)
  refine opFin (r := fun vs H Q => rSetLI X vs H fun v H2 => rSortedSet X.w [v] H2 Q) (PE.weak h2 fun σ H Q h => ?_) fun {F H A vs ds d Q} w rl hd _ rs => ?_
  · exact h
  · obtain ⟨l1, _⟩ := rl.lens
    match ds, l1 with
    | [d1], _ =>
      obtain ⟨v1, B1, rfl, o1⟩ := rl.d1
      cases d1 <;> simp only [opD, Option.bind_eq_some_iff] at hd <;> try (cases hd; done)
      obtain ⟨ns, h1, h2⟩ := hd
      split at h2
      · rename_i hl
        cases h2
        obtain ⟨p, ws, rfl, hp, ol⟩ := o1.lstv w.same
        rw [intsO_some h1] at ol
        have e := ol.ints
        subst e
        refine ⟨p, ns, rfl, SqL.of hp, hl, fun q c hq hcn => ⟨q, _, c, rfl, upd_same, by omega, fun ns' p' hs hm _ hp' => ?_⟩⟩
        have e : ns' = ssetI ns := rise_uniq hs (sset_srt ns) fun k => by rw [hm k, sset_mem]; exact decide_eq_true_iff
        subst e
        exact Rs.lst2 w rs (FzL.intsW _) hq (fun ps z => nomatch z) hp'
      · cases h2
end
end VI

namespace VI
variable [Tn]
open PySem PySem.Spec PyProof.Rows L2
section
variable {c : Ck} {X : Cx} {W : WX} {mg : Str → Option Value} {call : CallT}
/-- what the check gives -/
structure EOk (X : Cx) (W : WX) (mg : Str → Option Value) (call : CallT) (e : E) (a : Expr) : Prop where
  pe : PE X a (tE X.K mg call e W)
  pt : tstE e = true → PT X a (tT X.K mg call e W)
  pw : tstE e = true → ∀ op q q2 rest pos, a = .BoolOp op (q :: q2 :: rest) pos → PW X a (tT X.K mg call e W)
def isBoolOp : Expr → Bool
  | .BoolOp .. => true
  | _ => false
theorem EOk.plain {e : E} {a : Expr} (hp : plainTest a = true) (h : PE X a (tE X.K mg call e W)) : EOk X W mg call e a :=
  ⟨h, fun _ => pt_ofE hp h, fun _ op q q2 rest pos ea => by subst ea; simp [plainTest] at hp⟩
theorem EOk.r {e : E} {a : Expr} (h : PE X a (tE X.K mg call e W)) (hv : ∀ i, e = .var i → PE X a (tVar i)) : PE X a (tR X.K mg call W e) := by
  unfold tR
  cases hq : varOf e with
  | none => exact h
  | some i => exact hv i (varOf_some hq)
theorem plainIx_of {b : Expr} (h : plainIxB b = true) : PlainIx b := by
  intro o i
  cases b <;> first | rfl | simp [plainIxB] at h
theorem fnName_blt (o : CkOk c X W mg call) (f : Fn) : X.mg (fnName f) = none := o.blt _ (.inl (.inr ⟨f, rfl⟩))
theorem PEs.two {X : Cx} {t : E → TE} {es : List E} {x y : Expr} (h : PEs X t es [x, y]) : ∃ e f, es = [e, f] ∧ noStar x = true ∧ noStar y = true ∧ PE X x (t e) ∧ PE X y (t f) := by
  match es, h with
  | [e, f], h => exact ⟨e, f, rfl, h.1, h.2.2.1, h.2.1, h.2.2.2.1⟩
  | [e], h => exact h.2.2.elim
  | e :: f :: g :: es, h => exact h.2.2.2.2.elim
theorem PEs.one {X : Cx} {t : E → TE} {es : List E} {x : Expr} (h : PEs X t es [x]) : ∃ e, es = [e] ∧ noStar x = true ∧ PE X x (t e) := by
  match es, h with
  | [e], h => exact ⟨e, rfl, h.1, h.2.1⟩
  | e :: f :: es, h => exact h.2.2.elim
theorem PEs.three {X : Cx} {t : E → TE} {es : List E} {x y z : Expr} (h : PEs X t es [x, y, z]) : ∃ e f g, es = [e, f, g] ∧ PE X x (t e) ∧ PE X y (t f) ∧ PE X z (t g) := by
  match es, h with
  | [e, f, g], h => exact ⟨e, f, g, rfl, h.2.1, h.2.2.2.1, h.2.2.2.2.2.1⟩
  | [e], h => exact h.2.2.elim
  | [e, f], h => exact h.2.2.2.2.elim
  | e :: f :: g :: i :: es, h => exact h.2.2.2.2.2.2.elim
theorem op_ok (o : CkOk c X W mg call) {op : Op} {es : List E} {a : Expr} {as : List Expr} (h : opArgs c op a = some as) (p : PEs X (tR X.K mg call W) es as) : EOk X W mg call (.op op es) a := by
  unfold opArgs at h
  split at h
  · split at h <;> cases h
    rename_i e
    subst e
    obtain ⟨e, f, rfl, _, _, h1, h2⟩ := p.two
    exact .plain rfl (pe_bin h1 h2)
  · split at h <;> cases h
    rename_i e
    simp only [Bool.and_eq_true, decide_eq_true_eq, Bool.not_eq_true'] at e
    obtain ⟨e, hm⟩ := e
    subst e
    obtain ⟨e, f, rfl, _, _, h1, h2⟩ := p.two
    exact ⟨pe_cmpE o.units hm h1 h2, fun _ => pt_cmpE o.units hm h1 h2, fun _ _ _ _ _ _ ea => by cases ea⟩
  · cases h
    obtain ⟨e, rfl, _, h1⟩ := p.one
    exact .plain rfl (pe_negE h1)
  · split at h <;> cases h
    rename_i hp
    obtain ⟨e, f, rfl, _, _, h1, h2⟩ := p.two
    exact .plain rfl (pe_ixE (plainIx_of hp) h1 h2)
  · cases h
    obtain ⟨e, rfl, _, h1⟩ := p.one
    exact .plain rfl (pe_sl00 h1)
  · cases h
    obtain ⟨e, f, rfl, _, _, h1, h2⟩ := p.two
    exact .plain rfl (pe_sl10 h1 h2)
  · cases h
    obtain ⟨e, f, rfl, _, _, h1, h2⟩ := p.two
    exact .plain rfl (pe_sl01 h1 h2)
  · cases h
    obtain ⟨e, f, g, rfl, h1, h2, h3⟩ := p.three
    exact .plain rfl (pe_sl11 h1 h2 h3)
  · cases h
    obtain ⟨e, rfl, _, h1⟩ := p.one
    exact .plain rfl (pe_revE h1)
  · split at h <;> cases h
    rename_i hc
    simp only [Bool.and_eq_true, decide_eq_true_eq] at hc
    obtain ⟨⟨rfl, hg⟩, hf⟩ := hc
    exact .plain rfl (pe_fn o.calm (by have := o.units; omega) hf (fnName_blt o _) (o.gl hg) p)
  · split at h <;> cases h
    rename_i hc
    simp only [Bool.and_eq_true, decide_eq_true_eq] at hc
    obtain ⟨⟨⟨rfl, hok⟩, rfl⟩, hline⟩ := hc
    obtain ⟨e, rfl, h0, h1⟩ := p.one
    exact .plain rfl (pe_joinE hok hline h0 h1)
  · split at h <;> cases h
    rename_i hc
    simp only [Bool.and_eq_true, decide_eq_true_eq] at hc
    obtain ⟨⟨⟨rfl, rfl⟩, g1⟩, g2⟩ := hc
    obtain ⟨e, rfl, h0, h1⟩ := p.one
    exact .plain rfl (pe_lrng1 o.calm (o.gl g1) (o.blt _ (.inl (.inl (by simp)))) (o.gl g2) (o.blt _ (.inl (.inl (by simp)))) h0 h1)
  · split at h <;> cases h
    rename_i hc
    simp only [Bool.and_eq_true, decide_eq_true_eq] at hc
    obtain ⟨⟨⟨rfl, rfl⟩, g1⟩, g2⟩ := hc
    obtain ⟨e, f, rfl, h0, h0', h1, h2⟩ := p.two
    exact .plain rfl (pe_lrng2 o.calm (o.gl g1) (o.blt _ (.inl (.inl (by simp)))) (o.gl g2) (o.blt _ (.inl (.inl (by simp)))) h0 h0' h1 h2)
  · split at h <;> cases h
    rename_i hc
    simp only [Bool.and_eq_true, decide_eq_true_eq] at hc
    obtain ⟨⟨⟨⟨rfl, rfl⟩, g1⟩, g2⟩, na⟩ := hc
    obtain ⟨e, rfl, h0, h1⟩ := p.one
    exact .plain rfl (pe_sset o.calm (o.gl g1) (fnName_blt o .sorted) (o.gl g2) (fnName_blt o .set) h0 h1)
  · split at h <;> cases h
    rename_i hc
    simp only [Bool.and_eq_true, decide_eq_true_eq, List.contains_iff_mem] at hc
    obtain ⟨⟨⟨⟨rfl, rfl⟩, hc⟩, g1⟩, g2⟩ := hc
    obtain ⟨e, rfl, h0, h1⟩ := p.one
    exact .plain rfl (pe_isi1 (o.blt _ (.inl (.inl (by simp)))) (o.gl g1) hc (o.gl g2) (o.blt _ (.inr ⟨_, hc, rfl⟩)) h0 h1)
  · split at h <;> cases h
    rename_i hc
    simp only [Bool.and_eq_true, decide_eq_true_eq, List.all_eq_true, List.contains_iff_mem] at hc
    obtain ⟨⟨⟨⟨rfl, hts⟩, hl⟩, g1⟩, g2⟩ := hc
    obtain ⟨e, rfl, h0, h1⟩ := p.one
    exact .plain rfl (pe_isiN (o.blt _ (.inl (.inl (by simp)))) (o.gl g1) hts hl (fun t ht => ⟨o.gl (g2 t ht).1, o.blt _ (.inr ⟨t, (g2 t ht).2, rfl⟩)⟩) h0 h1)
  · split at h <;> cases h
    rename_i hp
    obtain ⟨e, f, rfl, _, _, h1, h2⟩ := p.two
    exact .plain rfl (pe_dgetE (by have := o.units; omega) (plainIx_of hp) h1 h2)
  · split at h <;> cases h
    rename_i hc
    simp only [Bool.and_eq_true, decide_eq_true_eq, Bool.not_eq_true'] at hc
    obtain ⟨rfl, hm⟩ := hc
    obtain ⟨e, f, rfl, _, _, h1, h2⟩ := p.two
    exact ⟨pe_dinE (by have := o.units; omega) hm h1 h2, fun _ => pt_dinE (by have := o.units; omega) hm h1 h2, fun _ _ _ _ _ _ ea => by cases ea⟩
  · cases h
theorem folded_of {e : Expr} (h : notSet e = true) (env : Env) (x : Value) : foldedSetIterable e env x = pure x := by
  cases e <;> first | rfl | simp [notSet] at h
theorem isTup_of {e : Expr} (h : isTupE e = true) : ∃ es k p, e = .Tuple es k p := by
  cases e <;> first | exact ⟨_, _, _, rfl⟩ | simp [isTupE] at h
theorem it_ok (o : CkOk c X W mg call) {k : ItK} {es : List E} {tg iter : Expr} {as : List Expr} (h : itArgs c k tg iter = some as) (p : PEs X (fun e => tE X.K mg call e W) es as) : PI X tg iter (tI X.K mg call W k es) ∧ ∀ x, foldedSetIterable iter X.env x = pure x := by
  unfold itArgs at h
  split at h
  · split at h <;> cases h
    rename_i hn
    obtain ⟨e, rfl, _, h1⟩ := p.one
    exact ⟨pi_seqE h1, fun x => folded_of hn _ x⟩
  · split at h <;> cases h
    rename_i hc
    simp only [Bool.and_eq_true, decide_eq_true_eq] at hc
    obtain ⟨⟨ht, rfl⟩, hg⟩ := hc
    obtain ⟨e, rfl, h0, h1⟩ := p.one
    refine ⟨?_, fun x => rfl⟩
    obtain ⟨_, _, _, rfl⟩ := isTup_of ht
    exact pi_enumE (o.gl hg) (o.blt _ (.inl (.inl (by simp)))) p
  · split at h <;> cases h
    rename_i hc
    simp only [Bool.and_eq_true, decide_eq_true_eq] at hc
    obtain ⟨⟨ht, rfl⟩, hg⟩ := hc
    obtain ⟨e, f, rfl, _⟩ := p.two
    refine ⟨?_, fun x => rfl⟩
    obtain ⟨_, _, _, rfl⟩ := isTup_of ht
    exact pi_zipE (o.gl hg) (o.blt _ (.inl (.inl (by simp)))) p
  · split at h <;> cases h
    rename_i hc
    simp only [Bool.and_eq_true, decide_eq_true_eq, Bool.or_eq_true, beq_iff_eq] at hc
    obtain ⟨⟨rfl, hg⟩, hl⟩ := hc
    have hm := o.blt "range" (.inl (.inl (by simp)))
    refine ⟨?_, fun x => rfl⟩
    match as, hl with
    | [x], _ => obtain ⟨e, rfl, _⟩ := p.one; exact pi_rng1E (o.gl hg) hm p
    | [x, y], _ => obtain ⟨e, f, rfl, _⟩ := p.two; exact pi_rng2E (o.gl hg) hm p
    | [x, y, z], _ => obtain ⟨e, f, g, rfl, _⟩ := p.three; exact pi_rng3E (o.gl hg) hm p
  · split at h <;> cases h
    rename_i hn
    obtain ⟨e, rfl, _, h1⟩ := p.one
    exact ⟨pi_dkE h1, fun x => folded_of hn _ x⟩
  · cases h
theorem PW.pt' {e : Expr} {t : TT} (h : PW X e t) : PT X e t := h.pt
theorem unw_one {op : BoolOp} {q : Expr} {pos : Pos} : unw (.BoolOp op [q] pos) = q := rfl
theorem unw_more {op : BoolOp} {q r : Expr} {rest : List Expr} {pos : Pos} : unw (.BoolOp op (q :: r :: rest) pos) = .BoolOp op (q :: r :: rest) pos := rfl
theorem chkC_ok {d : D} {a : Expr} (e : E) (he : ∀ ρ, ev call e ρ = .ok d ρ) (ha : shares e = false) (h : chkC d a = true) : EOk X W mg call e a := by
  unfold chkC at h
  split at h
  · simp only [beq_iff_eq] at h; subst h
    exact .plain rfl (pe_constE e he ha (fun F => .int _) pe_int)
  · simp only [beq_iff_eq] at h; subst h
    exact .plain rfl (pe_constE e he ha (fun F => .bl _) pe_bl)
  · exact .plain rfl (pe_constE e he ha (fun F => .non) pe_non)
  · simp only [Bool.and_eq_true, decide_eq_true_eq] at h
    obtain ⟨rfl, h⟩ := h
    exact .plain rfl (pe_constE e he ha (fun F => .str _ h) pe_str)
  · cases h
/-- an operand's form -/
theorem EOk.of_unw {e : E} {op : BoolOp} {q : Expr} {rest : List Expr} {pos : Pos} (h : EOk X W mg call e (unw (.BoolOp op (q :: rest) pos))) : PE X (.BoolOp op (q :: rest) pos) (tE X.K mg call e W) ∧ (tstE e = true → PW X (.BoolOp op (q :: rest) pos) (tT X.K mg call e W)) := by
  cases rest with
  | nil =>
    rw [unw_one] at h
    refine ⟨pe_oneE h.pe, fun ht => ?_⟩
    cases op with
    | And => exact pw_and1 (h.pt ht)
    | Or => exact pw_or1 (h.pt ht)
  | cons r rest =>
    rw [unw_more] at h
    exact ⟨h.pe, fun ht => h.pw ht op q r rest pos rfl⟩
theorem few_one {b : Expr} (h : noStar b = true) (pos : Pos) (env : Env) : ((backTo pos (starEach [b] env)).all (fun x => !x.1) && (backToKw pos (keywordEach [] env)).all (fun x => x.1.isSome) && decide (([b] : List Expr).length + ([] : List Keyword).length + (if ([] : List Keyword).isEmpty then 0 else 1) < 30)) = true := by
  rw [starEach_cons h]; rfl
theorem type_insert : typeOf (.builtin "list.insert") = pure (.type "method_descriptor") := by show builtinType _ = _; rw [builtinType_eq_fast]; kernel_rfl
theorem few_two {b d : Expr} (h : noStar b = true) (h' : noStar d = true) (pos : Pos) (env : Env) : ((backTo pos (starEach [b, d] env)).all (fun x => !x.1) && (backToKw pos (keywordEach [] env)).all (fun x => x.1.isSome) && decide (([b, d] : List Expr).length + ([] : List Keyword).length + (if ([] : List Keyword).isEmpty then 0 else 1) < 30)) = true := by
  rw [starEach_cons h, starEach_cons h']; rfl
theorem CkOk.blkOk (o : CkOk c X W mg call) {own : List Nat} {sc : Scope} (h : c.blkOk own sc = true) : BlkOk X.N X.env.scope sc (own.map fun i => (c.N.getD i "", i)) ∧ own = (own.map fun i => (c.N.getD i "", i)).map (·.2) := by
  refine ⟨?_, by rw [List.map_map]; exact (List.map_id _).symm⟩
  have b := blkOk_by h
  rw [o.n]
  refine ⟨b.kind, b.uniq, b.ix, fun y hy e => ?_, b.own⟩
  rcases b.free y hy e with k | k
  · exact .inl (o.look _ _ k (by decide))
  · exact o.free _ k
theorem PEs.len {X : Cx} {t : E → TE} : ∀ {es : List E} {as : List Expr}, PEs X t es as → es.length = as.length
  | [], [], _ => rfl
  | e :: es, a :: as, h => by rw [List.length_cons, List.length_cons, PEs.len h.2.2]
  | [], _ :: _, h => h.elim
  | _ :: _, [], h => h.elim
theorem dKeys_len : ∀ {ks : List (List Nat)} {es : List (Option Expr)}, dKeys ks es = true → ks.length = es.length
  | [], [], _ => rfl
  | k :: ks, e :: es, h => by
    unfold dKeys at h
    split at h
    · rename_i heq _; cases heq
    · rename_i h1 h2
      cases h1; cases h2
      simp only [Bool.and_eq_true] at h
      rw [List.length_cons, List.length_cons, dKeys_len h.2]
    · cases h
  | [], _ :: _, h => by simp [dKeys] at h
  | _ :: _, [], h => by simp [dKeys] at h
theorem dKeys_some : ∀ {ks : List (List Nat)} {es : List (Option Expr)}, dKeys ks es = true → es.all (·.isSome) = true
  | [], [], _ => rfl
  | k :: ks, e :: es, h => by
    unfold dKeys at h
    split at h
    · rename_i heq _; cases heq
    · rename_i h1 h2
      cases h1; cases h2
      simp only [Bool.and_eq_true] at h
      rw [List.all_cons, dKeys_some h.2]; rfl
    · cases h
  | [], _ :: _, h => by simp [dKeys] at h
  | _ :: _, [], h => by simp [dKeys] at h
theorem pps_of {X : Cx} {t : E → TE} {pos : Pos} : ∀ {ks : List (List Nat)} {keys : List (Option Expr)} {es : List E} {values : List Expr}, ks.length = es.length → dKeys ks keys = true → PEs X t es values → PPs X pos keys values ((ks.map fun k => tC (.str (ST k))).zip (es.map t))
  | [], [], es, values, hl, _, p => by
    cases es with
    | nil => cases values with
      | nil => exact pps_nil
      | cons _ _ => exact p.elim
    | cons _ _ => simp at hl
  | k :: ks, e :: keys, es, values, hl, h, p => by
    unfold dKeys at h
    split at h
    · rename_i heq _; cases heq
    · rename_i h1 h2
      cases h1; cases h2
      simp only [Bool.and_eq_true, decide_eq_true_eq] at h
      obtain ⟨rfl, h⟩ := h
      cases es with
      | nil => simp at hl
      | cons e es =>
        cases values with
        | nil => exact p.elim
        | cons v values => exact pps_cons pe_str p.2.1 (pps_of (by simpa using hl) h p.2.2)
    · cases h
  | [], _ :: _, _, _, _, h, _ => by simp [dKeys] at h
  | _ :: _, [], _, _, _, h, _ => by simp [dKeys] at h
mutual
theorem chkE_ok : ∀ (e : E) (a : Expr) {c : Ck} {X : Cx} {W : WX}, CkOk c X W mg call → chkE c e a = true → EOk X W mg call e a
  | .var i, a, c, X, W, o, h => by
    cases a <;> simp only [chkE, Bool.false_eq_true] at h
    exact .plain rfl (pe_varE (o.var h))
  | .use i, a, c, X, W, o, h => by
    cases a <;> simp only [chkE, Bool.false_eq_true] at h
    exact .plain rfl (pe_useE (o.var h))
  | .take i, a, c, X, W, o, h => by
    cases a <;> simp only [chkE, Bool.false_eq_true] at h
    exact .plain rfl (pe_takeE (o.var h))
  | .lend i, a, c, X, W, o, h => by simp [chkE] at h
  | .cst d, a, c, X, W, o, h => by
    simp only [chkE] at h
    exact chkC_ok _ (fun ρ => by simp only [ev]) rfl h
  | .glob x d, a, c, X, W, o, h => by
    cases a <;> simp only [chkE, Bool.false_eq_true, Bool.and_eq_true, decide_eq_true_eq, Bool.not_eq_true'] at h
    obtain ⟨⟨⟨rfl, hg⟩, hv⟩, hd⟩ := h
    obtain ⟨u, v, h1, h2, h3⟩ := o.gls _ _ hv
    exact .plain rfl (pe_constE _ (fun ρ => by simp only [ev]) rfl h3 (pe_glob (o.gl hg) h1 h2 hd))
  | .op op es, a, c, X, W, o, h => by
    simp only [chkE] at h
    split at h
    · rename_i as ha
      exact op_ok o ha (chkL_ok es as o h).1
    · cases h
  | .chain o1 o2 x y z, a, c, X, W, o, h => by
    simp only [chkE] at h
    split at h
    · simp only [Bool.and_eq_true, decide_eq_true_eq, Bool.not_eq_true'] at h
      obtain ⟨⟨⟨⟨⟨rfl, rfl⟩, hm⟩, h1⟩, h2⟩, h3⟩ := h
      have e1 := (chkE_ok x _ o h1).pe
      have e2 := (chkE_ok y _ o h2).pe
      have e3 := (chkE_ok z _ o h3).pe
      exact ⟨pe_chainE o.units hm e1 e2 e3, fun _ => pt_chainE o.units hm e1 e2 e3, fun _ _ _ _ _ _ ea => by cases ea⟩
    · cases h
  | .chain3 o1 o2 o3 x y z w, a, c, X, W, o, h => by
    simp only [chkE] at h
    split at h
    · simp only [Bool.and_eq_true, decide_eq_true_eq, Bool.not_eq_true'] at h
      obtain ⟨⟨⟨⟨⟨⟨⟨rfl, rfl⟩, rfl⟩, hm⟩, h1⟩, h2⟩, h3⟩, h4⟩ := h
      have e1 := (chkE_ok x _ o h1).pe
      have e2 := (chkE_ok y _ o h2).pe
      have e3 := (chkE_ok z _ o h3).pe
      have e4 := (chkE_ok w _ o h4).pe
      exact ⟨pe_chain3E o.units hm e1 e2 e3 e4, fun _ => pt_chain3E o.units hm e1 e2 e3 e4, fun _ _ _ _ _ _ ea => by cases ea⟩
    · cases h
  | .and x y, a, c, X, W, o, h => by
    simp only [chkE] at h
    split at h
    · simp only [Bool.and_eq_true] at h
      have e1 := chkE_ok x _ o h.1
      have e2 := (chkE_ok y _ o h.2).of_unw
      have pw : tstE (.and x y) = true → PW X _ (tT X.K mg call (.and x y) W) := fun ht => by
        simp only [tstE, Bool.and_eq_true] at ht
        exact pw_andE (e1.pt ht.1) (e2.2 ht.2)
      exact ⟨pe_andE e1.pe e2.1, fun ht => (pw ht).pt, fun ht op q q2 rest pos ea => by cases ea; exact pw ht⟩
    · cases h
  | .or x y, a, c, X, W, o, h => by
    simp only [chkE] at h
    split at h
    · simp only [Bool.and_eq_true] at h
      have e1 := chkE_ok x _ o h.1
      have e2 := (chkE_ok y _ o h.2).of_unw
      have pw : tstE (.or x y) = true → PW X _ (tT X.K mg call (.or x y) W) := fun ht => by
        simp only [tstE, Bool.and_eq_true] at ht
        exact pw_orE (e1.pt ht.1) (e2.2 ht.2)
      exact ⟨pe_orE e1.pe e2.1, fun ht => (pw ht).pt, fun ht op q q2 rest pos ea => by cases ea; exact pw ht⟩
    · cases h
  | .not x, a, c, X, W, o, h => by
    simp only [chkE] at h
    split at h
    · have e1 := chkE_ok x _ o h
      exact ⟨pe_notE e1.pe, fun ht => pt_notE (e1.pt (by simpa only [tstE] using ht)), fun _ _ _ _ _ _ ea => by cases ea⟩
    · cases h
  | .ifx k x y, a, c, X, W, o, h => by
    simp only [chkE] at h
    split at h
    · simp only [Bool.and_eq_true] at h
      exact ⟨pe_ifxE ((chkE_ok k _ o h.1.1.1).pt h.1.1.2) (chkE_ok x _ o h.1.2).pe (chkE_ok y _ o h.2).pe, fun ht => by simp [tstE] at ht, fun ht => by simp [tstE] at ht⟩
    · cases h
  | .tup es, a, c, X, W, o, h => by
    simp only [chkE] at h
    split at h
    · exact .plain rfl (pe_tupE (chkL_ok es _ o h).2)
    · cases h
  | .lst es, a, c, X, W, o, h => by
    simp only [chkE] at h
    split at h
    · exact .plain rfl (pe_lstE (chkL_ok es _ o h).2)
    · cases h
  | .call f es, a, c, X, W, o, h => by
    simp only [chkE] at h
    split at h
    · simp only [Bool.and_eq_true, decide_eq_true_eq, Bool.not_eq_true'] at h
      obtain ⟨⟨⟨⟨rfl, hg⟩, hf⟩, hd⟩, ha⟩ := h
      obtain ⟨m, fa, fd, ps, F, hr, hm, hk, hb⟩ := o.fns _ _ hf
      obtain ⟨h1, h2⟩ := chkA_ok es _ o ha
      exact .plain rfl (pe_callE F hr (o.gl hg) hm hk hb o.takes hd rfl h1 h2)
    · cases h
  | .idx i es, a, c, X, W, o, h => by
    simp only [chkE] at h
    split at h
    · simp only [Bool.and_eq_true, decide_eq_true_eq] at h
      obtain ⟨⟨⟨rfl, hv⟩, hline⟩, hl⟩ := h
      have p := (chkL_ok es _ o hl).2
      obtain ⟨e, rfl, h0, _⟩ := p.one
      exact .plain rfl (pe_idxE (pe_bm F.plainAttrs_list F.slot_list_index F.type_list_index mt_index (o.var hv) p.paC rfl (few_one h0 _ _) hline (starEach_cons h0 [] X.env) rfl))
    · cases h
  | .mut m i ps es, a, c, X, W, o, h => by
    simp only [chkE, Bool.and_eq_true] at h
    obtain ⟨h0, h⟩ := h
    cases ps with
    | cons _ _ => simp at h0
    | nil =>
    split at h
    · simp only [Bool.and_eq_true, decide_eq_true_eq] at h
      obtain ⟨⟨⟨⟨rfl, hm⟩, hv⟩, hline⟩, hl⟩ := h
      have p := (chkL_ok es _ o hl).2
      obtain ⟨e, rfl, h0, _⟩ := p.one
      cases m with
      | append => exact .plain rfl (pe_mutE (pe_bm F.plainAttrs_list F.slot_list_append F.type_list_append mt_append (o.var hv) p.paC rfl (few_one h0 _ _) hline (starEach_cons h0 [] X.env) rfl))
      | extend => exact .plain rfl (pe_mutE (pe_bm F.plainAttrs_list F.slot_list_extend F.type_list_extend mt_extend (o.var hv) p.paC rfl (few_one h0 _ _) hline (starEach_cons h0 [] X.env) rfl))
      | insert => cases hm
    · simp only [Bool.and_eq_true, decide_eq_true_eq] at h
      obtain ⟨⟨⟨⟨rfl, hm⟩, hv⟩, hline⟩, hl⟩ := h
      have p := (chkL_ok es _ o hl).2
      obtain ⟨e, f, rfl, h0, h0', _⟩ := p.two
      cases m with
      | append => cases hm
      | extend => cases hm
      | insert => exact .plain rfl (pe_mutE (pe_bm F.plainAttrs_list F.slot_list_insert type_insert mt_insertR (o.var hv) p.paC rfl (few_two h0 h0' _ _) hline (starEach_cons h0 _ X.env) (by rw [starEach_cons h0']; rfl)))
    · cases h
  | .dnew t, a, c, X, W, o, h => by
    simp only [chkE] at h
    split at h
    · exact .plain rfl pe_dnewE
    · cases h
  | .disp ks es, a, c, X, W, o, h => by
    simp only [chkE] at h
    split at h
    · simp only [Bool.and_eq_true, decide_eq_true_eq, beq_iff_eq] at h
      obtain ⟨⟨⟨⟨hk, hl⟩, h15⟩, hpos⟩, hes⟩ := h
      have p := (chkL_ok es _ o hes).2
      have lk := dKeys_len hk
      exact .plain rfl (pe_dispE hl (pps_of hl hk p) (dKeys_some hk) (by rw [← lk, hl, p.len]) (fun z => by rw [z, List.length_nil] at lk; omega) (by omega))
    · cases h
  | .lcK i el t cs own, a, c, X, W, o, h => by
    simp only [chkE] at h
    split at h
    · rename_i elt tg x px ifs sc pos
      simp only [Bool.and_eq_true] at h
      obtain ⟨⟨⟨⟨hb, hv⟩, ht⟩, he⟩, hl⟩ := h
      obtain ⟨ok, how⟩ := o.blkOk hb
      have bk := fun s H C cl fp => o.blk ok.kind s H C cl fp
      have h1 : PI X tg (.Name x px) (tI X.K mg call W .dk [.var i]) := pi_dkE (pe_varE (o.var hv))
      refine .plain rfl (PE.weak (pe_lock (pe_lcE how o.calm o.nd ok h1 (fun s H C cl fp => ?_) (fun s H C cl fp => ?_) (fun s H C cl fp => ?_) (fun x => rfl))) fun σ H Q h => lcK_pre h)
      · exact chkT_ok (bk s H C cl fp) t _ ht
      · exact chkLs_ok cs _ (bk s H C cl fp) hl
      · exact (chkE_ok el _ (bk s H C cl fp) he).pe
    · cases h
  | .lcO i el t cs own, a, c, X, W, o, h => by
    simp only [chkE] at h
    split at h
    · rename_i elt tg x px ifs sc pos
      simp only [Bool.and_eq_true] at h
      obtain ⟨⟨⟨⟨hb, hv⟩, ht⟩, he⟩, hl⟩ := h
      obtain ⟨ok, how⟩ := o.blkOk hb
      have bk := fun s H C cl fp => o.blk ok.kind s H C cl fp
      refine .plain rfl (pe_lcOE how o.calm o.nd ok (pi_own (o.var hv)) (fun s H C cl fp => ?_) (fun s H C cl fp => ?_) (fun s H C cl fp => ?_) (fun x => rfl))
      · exact chkT_ok (bk s H C cl fp) t _ ht
      · exact chkLs_ok cs _ (bk s H C cl fp) hl
      · exact (chkE_ok el _ (bk s H C cl fp) he).pe
    · cases h
  | .lcE i el t cs own, a, c, X, W, o, h => by
    simp only [chkE] at h
    split at h
    · rename_i elt tes tk tp y py x px p2 ifs sc pos
      simp only [Bool.and_eq_true, decide_eq_true_eq] at h
      obtain ⟨⟨⟨⟨⟨⟨hb, rfl⟩, hg⟩, hv⟩, ht⟩, he⟩, hl⟩ := h
      obtain ⟨ok, how⟩ := o.blkOk hb
      have bk := fun s H C cl fp => o.blk ok.kind s H C cl fp
      refine .plain rfl (pe_lcEE how o.calm o.nd ok (pi_ownE (o.gl hg) (o.blt _ (.inl (.inl (by decide)))) (o.var hv) rfl) (fun s H C cl fp => ?_) (fun s H C cl fp => ?_) (fun s H C cl fp => ?_) (fun x => rfl))
      · exact chkT_ok (bk s H C cl fp) t _ ht
      · exact chkLs_ok cs _ (bk s H C cl fp) hl
      · exact (chkE_ok el _ (bk s H C cl fp) he).pe
    · cases h
  | .dupd i e, a, c, X, W, o, h => by
    simp only [chkE] at h
    split at h
    · simp only [Bool.and_eq_true, decide_eq_true_eq] at h
      obtain ⟨⟨⟨⟨rfl, hv⟩, hline⟩, hn⟩, he⟩ := h
      have h1 := (chkE_ok e _ o he).pe
      have p : PEs X (fun e => tE X.K mg call e W) [e] [_] := ⟨hn, h1, trivial⟩
      exact .plain rfl (pe_dupdE (pe_bm F.plainAttrs_dict F.slot_dict_update F.type_dict_update mt_updK (o.var hv) p.paC rfl (few_one hn _ _) hline (starEach_cons hn [] X.env) rfl))
    · cases h
  | .fz e, a, c, X, W, o, h => by
    simp only [chkE] at h
    exact ⟨pe_fz (chkE_ok e a o h).pe, fun z => by simp [tstE] at z, fun z => by simp [tstE] at z⟩
  | .sortK n j ks, a, c, X, W, o, h => by
    simp only [chkE] at h
    split at h
    · rename_i y p z p1 ne p2 k params as kk tp sc lp kp pos
      simp only [Bool.and_eq_true, decide_eq_true_eq] at h
      obtain ⟨⟨⟨⟨⟨⟨⟨⟨⟨rfl, rfl⟩, rfl⟩, hg⟩, hg2⟩, hl⟩, hs⟩, hn⟩, hp⟩, hk⟩ := h
      obtain ⟨lc, hr⟩ := o.lam hl
      unfold lam1B at hp
      split at hp
      · rename_i x px
        simp only [Bool.and_eq_true, decide_eq_true_eq] at hp
        obtain ⟨⟨hj, hx⟩, hq⟩ := hp
        obtain ⟨LQ, hone⟩ := lamQB_ok o hq
        exact .plain rfl (pe_sortK o.calm o.nd hr lc (o.gl hg) (o.blt _ (.inl (.inr ⟨.sorted, rfl⟩))) (o.gl hg2) (o.blt _ (.inl (.inl (by decide)))) LQ (by rw [o.n]; exact hj) hx (fun y e => by simpa using hone y e) defs1 (fun _ _ _ _ _ => bind1) (starEach_cons hs [] X.env)
          (chkE_ok n ne o hn).pe fun A outer s H f c' r => pe_tupE (chkL_ok ks as (o.lamK hq A outer s H f c' r) hk).2)
      · cases hp
    · cases h
  | .dget2 i es, a, c, X, W, o, h => by
    simp only [chkE] at h
    split at h
    · simp only [Bool.and_eq_true, decide_eq_true_eq] at h
      obtain ⟨⟨⟨rfl, hv⟩, hline⟩, hl⟩ := h
      have p := (chkL_ok es _ o hl).2
      obtain ⟨e, f, rfl, h0, h0', h1, h2⟩ := p.two
      exact .plain rfl (pe_dget2E rfl (pe_dget2 (by have := o.units; omega) (o.var hv) h1 h2 ⟨rfl, by rw [starEach_cons h0, starEach_cons h0']; rfl, hline, by rw [starEach_cons h0, starEach_cons h0']; rfl⟩))
    · cases h
  | .lc el t k es cs own, a, c, X, W, o, h => by
    simp only [chkE] at h
    split at h
    · rename_i elt tg iter ifs sc pos
      simp only [Bool.and_eq_true] at h
      obtain ⟨⟨⟨⟨hb, hi⟩, ht⟩, he⟩, hl⟩ := h
      split at hi
      · rename_i as ha
        obtain ⟨h1, h2⟩ := it_ok o ha (chkL_ok es as o hi).2
        obtain ⟨ok, how⟩ := o.blkOk hb
        have bk := fun s H C cl fp => o.blk ok.kind s H C cl fp
        refine .plain rfl (pe_lcE how o.calm o.nd ok h1 (fun s H C cl fp => ?_) (fun s H C cl fp => ?_) (fun s H C cl fp => ?_) h2)
        · exact chkT_ok (bk s H C cl fp) t _ ht
        · exact chkLs_ok cs _ (bk s H C cl fp) hl
        · exact (chkE_ok el _ (bk s H C cl fp) he).pe
      · cases hi
    · cases h
theorem chkL_ok : ∀ (es : List E) (as : List Expr) {c : Ck} {X : Cx} {W : WX}, CkOk c X W mg call → chkL c es as = true → PEs X (tR X.K mg call W) es as ∧ PEs X (fun e => tE X.K mg call e W) es as
  | [], [], c, X, W, o, h => ⟨trivial, trivial⟩
  | e :: es, a :: as, c, X, W, o, h => by
    simp only [chkL, Bool.and_eq_true] at h
    obtain ⟨⟨h0, h1⟩, h2⟩ := h
    have e1 := (chkE_ok e a o h1).pe
    obtain ⟨l1, l2⟩ := chkL_ok es as o h2
    refine ⟨⟨h0, EOk.r e1 fun i ei => ?_, l1⟩, h0, e1, l2⟩
    subst ei
    cases a <;> simp only [chkE, Bool.false_eq_true] at h1
    exact o.var h1
  | [], _ :: _, c, X, W, o, h => by simp [chkL] at h
  | _ :: _, [], c, X, W, o, h => by simp [chkL] at h
theorem chkLs_ok : ∀ (es : List E) (as : List Expr) {c : Ck} {X : Cx}, CkOk c X W0 mg call → chkLs c es as = true → PTs X as (tTs X.K mg call es)
  | [], [], c, X, o, h => pts_nil
  | [e], [a], c, X, o, h => by
    simp only [chkLs, Bool.and_eq_true] at h
    exact pts_one ((chkE_ok e a o h.1.1.2).pt h.1.1.1)
  | e :: f :: es, as, c, X, o, h => by cases as <;> simp [chkLs] at h
  | [e], a :: b :: as, c, X, o, h => by simp [chkLs] at h
  | [], _ :: _, c, X, o, h => by simp [chkLs] at h
  | _ :: _, [], c, X, o, h => by simp [chkLs] at h
theorem chkA_ok : ∀ (es : List E) (as : List Expr) {c : Ck} {X : Cx} {W : WX}, CkOk c X W mg call → chkA c es as = true → as.all noStar = true ∧ PA X as (tAs X.K mg call W es)
  | [], [], c, X, W, o, h => ⟨rfl, pa_nil⟩
  | e :: es, a :: as, c, X, W, o, h => by
    simp only [chkA, Bool.and_eq_true] at h
    obtain ⟨⟨h0, h1⟩, h2⟩ := h
    obtain ⟨l1, l2⟩ := chkA_ok es as o h2
    refine ⟨by simp [h0, l1], ?_⟩
    refine pa_cons (t := tAs X.K mg call W es) ?_ l2 (starEach_cons h0 as X.env)
    split at h1
    · rename_i i hi
      cases a <;> simp only [Bool.false_eq_true] at h1
      first | (rw [hi]; exact o.var h1) | exact o.var h1
    · rename_i hi
      first | (rw [hi]; exact (chkE_ok e a o h1).pe) | exact (chkE_ok e a o h1).pe
  | [], _ :: _, c, X, W, o, h => by simp [chkA] at h
  | _ :: _, [], c, X, W, o, h => by simp [chkA] at h
end
end
end VI

namespace VI
variable [Tn]
open PySem PySem.Spec PyProof.Rows L2
def notComp : Expr → Bool
  | .ListComp .. => false
  | .SetComp .. => false
  | .DictComp .. => false
  | _ => true
def swB (c : Ck) (tg v : Expr) : Bool := match v with
  | .ListComp _ _ s vp => match tg with
    | .Name t pos => decide (c.names.lookup t = some .local) && (pos.line == vp.line) && !(s.names.any fun (n, k) => n == t && (k == .local || k == .cell))
    | _ => false
  | _ => false
def compOk : Expr → Bool
  | .SetComp .. => false
  | .DictComp .. => false
  | _ => true
def stB : Expr → Expr → Bool
  | .Tuple ts _ _, .Tuple vs _ _ => !(ts.length == 2 || ts.length == 3) || vs.all (foldedForSure 8)
  | _, _ => true
def parN (c : Ck) (line : Nat) : List Nat → List Expr → Bool
  | [], [] => true
  | i :: is, .Name x p :: ts => decide (c.N[i]? = some x) && decide (c.names.lookup x = some .local) && (p.line == line) && parN c line is ts
  | _, _ => false
def namesU (c : Ck) : List Nat → List Expr → Bool
  | [], [] => true
  | i :: is, .Name x _ :: ts => c.sto i x && namesU c is ts
  | _, _ => false
def cellN (c : Ck) : Expr → Bool
  | .Name x _ => decide (c.names.lookup x = some .cell)
  | _ => false
def sMultiU (c : Ck) (pr : Nat → Bool) (is : List Nat) (es : List E) : Stmt → Bool
  | .Assign [.Tuple ts _ _] (.Tuple vs _ _) _ => namesU c is ts && ts.any (cellN c) && is.all (fun i => !pr i) && chkL c es vs && decide (vs.length ≤ 100) && (vs.length == ts.length)
  | _ => false
def sMulti (c : Ck) (pr : Nat → Bool) (is : List Nat) (es : List E) : Stmt → Bool
  | .Assign [.Tuple [.Name x px, .Name y py] _ _] (.Tuple [a, b] _ _) pos => parN c px.line is [.Name x px, .Name y py] && decide (is.Nodup) && is.all (fun i => !pr i) && !(x == y) && !([a, b].all (foldedForSure 8)) && !([a, b].all (constantsAlone 8)) && chkL c es [a, b]
  | .Assign [.Tuple [.Name x px, .Name y py, .Name z pz] _ _] (.Tuple [a, b, d] _ _) pos => parN c px.line is [.Name x px, .Name y py, .Name z pz] && decide (is.Nodup) && is.all (fun i => !pr i) && !(x == y) && !(x == z) && !(y == z) && !([a, b, d].all (foldedForSure 8)) && !([a, b, d].all (constantsAlone 8)) && chkL c es [a, b, d]
  | _ => false
def sAug (c : Ck) (pr : Nat → Bool) (i : Nat) (o : Operator) (e : E) : Stmt → Bool
  | .AugAssign (.Name x _) o' a _ => decide (o = o') && augHas o && !pr i && c.sto i x && chkE c e a
  | _ => false
def sStore (c : Ck) (i : Nat) (ps : List E) (ix e : E) : Stmt → Bool
  | .Assign [.Subscript (.Name x _) k _] v _ => ps.isEmpty && notComp v && c.vis i x && plainIxB k && chkE c ix k && chkE c e v
  | .Assign [.Subscript (.Subscript (.Name x _) p _) k _] v _ => (ps.length == 1) && notComp v && c.vis i x && plainIxB k && plainIxB p && chkE c ix k && chkE c e v && chkL c ps [p]
  | _ => false
def sDst (c : Ck) (i : Nat) (k e : E) : Stmt → Bool
  | .Assign [.Subscript (.Name x _) kx _] v _ => notComp v && c.vis i x && plainIxB kx && chkE c k kx && chkE c e v
  | _ => false
def notK : E → Bool
  | .lcK .. => false
  | .lcO .. => false
  | .fz _ => false
  | _ => true
mutual
def chkS (c : Ck) (pr : Nat → Bool) : S → Stmt → Bool
  | .asg t e, a => match a with
    | .Assign [tg] v _ => chkT c pr t tg && compOk v && stB tg v && chkE c e v && notK e
    | _ => false
  | .multi is es, a => sMulti c pr is es a || sMultiU c pr is es a
  | .aug i o e, a => sAug c pr i o e a
  | .expr e, a => match a with | .Expr v _ => notComp v && chkE c e v | _ => false
  | .store i ps ix e, a => sStore c i ps ix e a
  | .dstore i k e, a => sDst c i k e a
  | .ifs k x y, a => match a with | .If b as bs _ => tstE k && chkE c k b && chkSs c pr x as && chkSs c pr y bs | _ => false
  | .whl _ k x, a => match a with | .While b as [] _ => tstE k && chkE c k b && chkSs c pr x as | _ => false
  | .fors t k es x, a => match a with
    | .For tg iter as [] _ => (match itArgs c k tg iter with | some bs => chkL c es bs | none => false) && chkT c pr t tg && chkSs c pr x as
    | _ => false
  | .forO x o b, a => match a with
    | .For (.Name y _) (.Name z _) as [] _ => c.sto x y && !pr x && c.vis o z && chkSs c (fun i => pr i || i == x || i == o) b as
    | _ => false
  | .ret e, a => match a with | .Return (some v) _ => chkE c e v | _ => false
  | .retN, a => match a with | .Return none _ => true | _ => false
  | .pass, a => match a with | .Pass _ => true | _ => false
  | .brk, a => match a with | .Break _ => true | _ => false
  | .cont, a => match a with | .Continue _ => true | _ => false
  | .frz _, _ => false
  | .bad, _ => true
def chkSs (c : Ck) (pr : Nat → Bool) : List S → List Stmt → Bool
  | [], as => as.isEmpty
  | s :: r, as => match isFrz s with
    | some _ => chkSs c pr r as
    | none => match as with
      | a :: as => chkS c pr s a && chkSs c pr r as
      | [] => false
def isFrz : S → Option Nat
  | .frz i => some i
  | _ => none
end
section
variable {c : Ck} {X : Cx} {W : WX} {mg : Str → Option Value} {call : CallT} {pr : Nat → Bool}
theorem swN {v : Expr} {t : Option Expr} {l : Nat} {env : Env} (h : notComp v = true) : swapsWith v t l env = pure false := by
  cases v <;> first | rfl | simp [notComp] at h
theorem swF (o : CkOk c X W mg call) {t : T} {tg v : Expr} {l : Nat} (ht : chkT c pr t tg = true) (hc : compOk v = true) (hs : swB c tg v = false) : swapsWithSole [tg] v l X.env = pure false := by
  show swapsWith v (some tg) l X.env = pure false
  cases v <;> first | (simp [compOk] at hc; done) | skip
  case ListComp elt gs s vp =>
    cases t with
    | slot i =>
      cases tg <;> simp only [chkT, Bool.false_eq_true] at ht
      rename_i x pos
      simp only [Bool.and_eq_true] at ht
      simp only [swB] at hs
      have hb : (X.env.blockKind == .function) = true := by unfold Env.blockKind; rw [o.kind]; rfl
      have hk : (X.env.kindOf x == some .local) = decide (c.names.lookup x = some .local) := by
        have h1 := ht.1
        simp only [Ck.sto, Bool.and_eq_true] at h1
        have h2 := h1.2
        split at h2
        · rename_i e
          have : X.env.kindOf x = some .local := o.look _ _ e (by decide)
          rw [this, e]; rfl
        · rename_i e
          have : X.env.kindOf x = some .cell := o.look _ _ e (by decide)
          rw [this, e]; rfl
        · cases h2
      unfold swapsWith
      simp only [hb, hk, Bool.true_and]
      show (pure (_ && _ && _) : Sem Bool) = pure false
      exact congrArg pure hs
    | tup ts => cases tg <;> first | (simp [chkT] at ht; done) | rfl
  all_goals first | rfl | (cases tg <;> rfl)
theorem stF {tg v : Expr} {env : Env} (ht : noStar tg = true) (h : stB tg v = true) (hn : ∀ ts p, tg ≠ .List ts p) : swappedStores [tg] v env = pure none := by
  cases tg <;> first | rfl | skip
  case List ts p => exact absurd rfl (hn ts p)
  case Tuple ts k p =>
    cases v <;> first | rfl | skip
    rename_i vs k2 p2
    simp only [stB, Bool.or_eq_true, Bool.not_eq_true'] at h
    rcases h with h | h
    · unfold swappedStores
      simp only [h, Bool.not_false, Bool.true_or]
      rfl
    · unfold swappedStores
      simp only [h, if_true]
      split
      · rfl
      · split
        · rfl
        · split
          · rfl
          · rfl
theorem chkT_noList {t : T} {tg : Expr} (ht : chkT c pr t tg = true) : ∀ ts p, tg ≠ .List ts p := fun ts p e => by
  subst e
  cases t <;> simp [chkT] at ht
theorem lc_of {e : E} {elt : Expr} {gs : List Comprehension} {s : Scope} {vp : Pos} (hk : notK e = true) (h : chkE c e (.ListComp elt gs s vp) = true) : (∃ el t k es cs own, e = .lc el t k es cs own) ∨ ∃ i0 el t cs own, e = .lcE i0 el t cs own := by
  cases e with
  | lc el t k es cs own => exact .inl ⟨el, t, k, es, cs, own, rfl⟩
  | cst d => cases d <;> simp [chkE, chkC] at h
  | lcK _ _ _ _ _ => simp [notK] at hk
  | lcO _ _ _ _ _ => simp [notK] at hk
  | fz _ => simp [notK] at hk
  | lcE i0 el t cs own => exact .inr ⟨i0, el, t, cs, own, rfl⟩
  | op o es =>
    simp only [chkE] at h
    have : opArgs c o (.ListComp elt gs s vp) = none := by
      unfold opArgs
      split <;> first | rfl | contradiction
    rw [this] at h
    cases h
  | _ => simp [chkE] at h
theorem asg_ok (o : CkOk c X W mg call) {t : T} {e : E} {tg v : Expr} {pos : Pos} (ht : chkT c pr t tg = true) (hc : compOk v = true) (hst : stB tg v = true) (he : chkE c e v = true) (hnk : notK e = true) : PS X (.Assign [tg] v pos) (tS X.K mg W pr (ex call (.asg t e))) := by
  by_cases hs : swB c tg v = true
  · -- a comprehension that is stored within its block
    unfold swB at hs
    split at hs
    · rename_i elt gs s vp
      split at hs
      · rename_i y py
        simp only [Bool.and_eq_true, decide_eq_true_eq, Bool.not_eq_true'] at hs
        obtain ⟨⟨hl, hline⟩, hany⟩ := hs
        have hX := o.look _ _ hl (by decide)
        have hsw := sw_true (elt := elt) (gs := gs) (scope := s) (pos := vp) (py := py) (y := y) (l := pos.line) (env := X.env) o.kind hX hline hany
        cases t with
        | tup ts => simp [chkT] at ht
        | slot i =>
        simp only [chkT, Bool.and_eq_true, Bool.not_eq_true'] at ht
        obtain ⟨hN, _, _⟩ := o.sto ht.1
        rcases lc_of hnk he with ⟨el, t', k, es, cs, own, rfl⟩ | ⟨i0, el, t', cs, own, rfl⟩
        · simp only [chkE] at he
          split at he
          · rename_i elt tg iter ifs sc pos' heq
            cases heq
            simp only [Bool.and_eq_true] at he
            obtain ⟨⟨⟨⟨hb, hi⟩, ht'⟩, he⟩, hl'⟩ := he
            split at hi
            · rename_i as ha
              obtain ⟨h1, h2⟩ := it_ok o ha (chkL_ok es as o hi).2
              obtain ⟨ok, how⟩ := o.blkOk hb
              have bk := fun s H C cl fp => o.blk ok.kind s H C cl fp
              refine psE_setLc how ht.2 o.calm o.nd ok hN hX hsw h1 (fun s H C cl fp => ?_) (fun s H C cl fp => ?_) (fun s H C cl fp => ?_) h2
              · exact chkT_ok (bk s H C cl fp) t' _ ht'
              · exact chkLs_ok cs _ (bk s H C cl fp) hl'
              · exact (chkE_ok el _ (bk s H C cl fp) he).pe
            · cases hi
          · cases he
        · simp only [chkE] at he
          split at he
          · rename_i elt tes tk tp y2 py2 x px p2 ifs sc pos' heq
            cases heq
            simp only [Bool.and_eq_true, decide_eq_true_eq] at he
            obtain ⟨⟨⟨⟨⟨⟨hb, rfl⟩, hg⟩, hv⟩, ht'⟩, he⟩, hl'⟩ := he
            obtain ⟨ok, how⟩ := o.blkOk hb
            have bk := fun s H C cl fp => o.blk ok.kind s H C cl fp
            refine psE_setLcE how ht.2 o.calm o.nd ok hN hX hsw (pi_ownE (o.gl hg) (o.blt _ (.inl (.inl (by decide)))) (o.var hv) rfl) (fun s H C cl fp => ?_) (fun s H C cl fp => ?_) (fun s H C cl fp => ?_) (fun x => rfl)
            · exact chkT_ok (bk s H C cl fp) t' _ ht'
            · exact chkLs_ok cs _ (bk s H C cl fp) hl'
            · exact (chkE_ok el _ (bk s H C cl fp) he).pe
          · cases he
      · cases hs
    · cases hs
  · have hs : swB c tg v = false := by simpa using hs
    exact psE_asg (ps_asg (chkE_ok e v o he).pe (chkT_ok o t tg ht) (swF o ht hc hs) (stF (chkT_noStar ht) hst (chkT_noList ht)) (by rw [noStarEach (chkT_noStar ht)]; rfl))
end
end VI

namespace VI
variable [Tn]
open PySem PySem.Spec PyProof.Rows L2
section
variable {c : Ck} {X : Cx} {W : WX} {mg : Str → Option Value} {call : CallT} {pr : Nat → Bool}
theorem aug_ok (o : CkOk c X W mg call) {i : Nat} {op : Operator} {e : E} {a : Stmt} (h : sAug c pr i op e a = true) : PS X a (tS X.K mg W pr (ex call (.aug i op e))) := by
  unfold sAug at h
  split at h
  · simp only [Bool.and_eq_true, decide_eq_true_eq, Bool.not_eq_true'] at h
    obtain ⟨⟨⟨⟨rfl, ha⟩, hp⟩, hs⟩, he⟩ := h
    obtain ⟨h1, h2, h3⟩ := o.sto hs
    exact psE_aug ha hp o.nd h1 h2 h3 (chkE_ok e _ o he).pe
  · cases h
theorem assign_sub {o k : Expr} {pos : Pos} {env : Env} (hk : plainIxB k = true) : ∀ v, assign (.Subscript o k pos) env v = (do
      let ov ← holding [v] (eval o env)
      let iv ← holding [v, ov] (eval k env)
      standAt pos
      holding [v, ov, iv] (setItem ov iv v)
      release [v, ov, iv] []) := by
  intro v
  cases k <;> first | rfl | simp [plainIxB] at hk
theorem swN' {v tg : Expr} {l : Nat} {env : Env} (h : notComp v = true) : swapsWithSole [tg] v l env = pure false := swN h
theorem store_ok' (o : CkOk c X W mg call) {i : Nat} {ps : List E} {ix e : E} {a : Stmt} (h : sStore c i ps ix e a = true) : PS X a (tS X.K mg W pr (ex call (.store i ps ix e))) := by
  unfold sStore at h
  split at h
  · simp only [Bool.and_eq_true, List.isEmpty_iff] at h
    obtain ⟨⟨⟨⟨⟨rfl, hn⟩, hv⟩, hk⟩, hx⟩, he⟩ := h
    exact psE_store0 (ps_asg (chkE_ok e _ o he).pe (pg_sub (o.var hv) (chkE_ok ix _ o hx).pe set_list (assign_sub hk)) (swN' hn) rfl rfl)
  · simp only [Bool.and_eq_true, beq_iff_eq] at h
    obtain ⟨⟨⟨⟨⟨⟨⟨hl, hn⟩, hv⟩, hk⟩, hp⟩, hx⟩, he⟩, hps⟩ := h
    match ps, hl with
    | [p], _ =>
    have := (chkL_ok [p] _ o hps).1
    exact psE_store1 (ps_asg (chkE_ok e _ o he).pe (pg_sub (pe_ix ix_list (o.var hv) this.2.1 (plainIx_of hp)) (chkE_ok ix _ o hx).pe set_list (assign_sub hk)) (swN' hn) rfl rfl)
  · cases h
theorem par_facts (o : CkOk c X W mg call) {line : Nat} : ∀ {is : List Nat} {ts : List Expr}, parN c line is ts = true → is.length = ts.length ∧ ∀ (k : Nat) (i : Nat) (x : Str) (p : Pos), is[k]? = some i → ts[k]? = some (Expr.Name x p) → X.N[i]? = some x ∧ X.env.scope.names.lookup x = some .local ∧ p.line = line
  | [], [], _ => ⟨rfl, fun k i x p h => by simp at h⟩
  | i :: is, t :: ts, h => by
    cases t <;> simp only [parN, Bool.false_eq_true] at h
    simp only [Bool.and_eq_true, decide_eq_true_eq, beq_iff_eq] at h
    obtain ⟨⟨⟨h1, h2⟩, h3⟩, h4⟩ := h
    obtain ⟨l, r⟩ := par_facts o h4
    refine ⟨by simp [l], fun k j x p hi ht => ?_⟩
    cases k with
    | zero =>
      simp at hi ht
      obtain ⟨rfl, rfl⟩ := ht
      subst hi
      exact ⟨by rw [o.n]; exact h1, o.look _ _ h2 (by decide), h3⟩
    | succ k => exact r k j x p (by simpa using hi) (by simpa using ht)
  | [], _ :: _, h => by simp [parN] at h
  | _ :: _, [], h => by simp [parN] at h
theorem blockF (o : CkOk c X W mg call) : (X.env.blockKind == .function) = true := by unfold Env.blockKind; rw [o.kind]; rfl
theorem sw2 {x y : Str} {px py pt pt2 : Pos} {kt k2 : Nat} {a b : Expr} {env : Env} (hb : (env.blockKind == .function) = true) (kx : (env.kindOf x == some .local) = true) (ky : (env.kindOf y == some .local) = true) (hl : py.line = px.line) (hxy : (x == y) = false)
    (hs : noStar a = true ∧ noStar b = true) (hf : [a, b].all (foldedForSure 8) = false) (hc : [a, b].all (constantsAlone 8) = false) : swappedStores [.Tuple [.Name x px, .Name y py] kt pt] (.Tuple [a, b] k2 pt2) env = pure (some [x, y]) := by
  have hyx : (y == x) = false := by
    rw [← hxy, Bool.eq_iff_iff]
    simp only [beq_iff_eq]
    exact ⟨Eq.symm, Eq.symm⟩
  have he : [x, y].eraseDups.length = 2 := by
    simp [List.eraseDups_cons, hyx]
  have kx := beq_iff_eq.mp kx
  have ky := beq_iff_eq.mp ky
  unfold swappedStores
  simp only [hf, hc, List.any_cons, List.any_nil, bne, hb]
  simp [Expr.pos]
  rw [if_neg (by obtain ⟨h1, h2⟩ := hs; rintro (h | h) <;> (split at h <;> first | (simp [noStar] at h1; done) | (simp [noStar] at h2; done) | cases h))]
  simp [kx, ky, hl, he, List.filterMap_cons]
theorem beq_symm_false {x y : Str} (h : (x == y) = false) : (y == x) = false := by
  rw [← h, Bool.eq_iff_iff]
  simp only [beq_iff_eq]
  exact ⟨Eq.symm, Eq.symm⟩
theorem sw3 {x y z : Str} {px py pz pt pt2 : Pos} {kt k2 : Nat} {a b d : Expr} {env : Env} (hb : (env.blockKind == .function) = true) (kx : (env.kindOf x == some .local) = true) (ky : (env.kindOf y == some .local) = true) (kz : (env.kindOf z == some .local) = true) (hl : py.line = px.line) (hl2 : pz.line = px.line) (hxy : (x == y) = false) (hxz : (x == z) = false) (hyz : (y == z) = false)
    (hs : noStar a = true ∧ noStar b = true ∧ noStar d = true) (hf : [a, b, d].all (foldedForSure 8) = false) (hc : [a, b, d].all (constantsAlone 8) = false) : swappedStores [.Tuple [.Name x px, .Name y py, .Name z pz] kt pt] (.Tuple [a, b, d] k2 pt2) env = pure (some [x, y, z]) := by
  have he : [x, y, z].eraseDups.length = 3 := by
    simp [List.eraseDups_cons, beq_symm_false hxy, beq_symm_false hxz, beq_symm_false hyz]
  have kx := beq_iff_eq.mp kx
  have ky := beq_iff_eq.mp ky
  have kz := beq_iff_eq.mp kz
  unfold swappedStores
  simp only [hf, hc, List.any_cons, List.any_nil, bne, hb]
  simp [Expr.pos]
  rw [if_neg (by obtain ⟨h1, h2, h3⟩ := hs; rintro (h | h | h) <;> (split at h <;> first | (simp [noStar] at h1; done) | (simp [noStar] at h2; done) | (simp [noStar] at h3; done) | cases h))]
  simp [kx, ky, kz, hl, hl2, he, List.filterMap_cons]
theorem tCs_mono : ∀ {es : List E} {σ : SG} {H : Hp} {G G' : List V → Hp → Prop}, (∀ vs H, G vs H → G' vs H) → tCs X.K mg call W es σ H G → tCs X.K mg call W es σ H G'
  | [], σ, H, G, G', h, t => h _ _ t
  | e :: es, σ, H, G, G', h, t => by
    obtain ⟨F, A, ρ, w, s, p⟩ := t
    exact ⟨F, A, ρ, w, s, p.imp fun v H1 q => tCs_mono (fun vs H2 => h _ _) q⟩
theorem multi_ok (o : CkOk c X W mg call) {is : List Nat} {es : List E} {a : Stmt} (h : sMulti c pr is es a = true) : PS X a (tS X.K mg W pr (ex call (.multi is es))) := by
  unfold sMulti at h
  split at h
  · rename_i x px y py _ _ a b _ _ pos
    simp only [Bool.and_eq_true, decide_eq_true_eq, Bool.not_eq_true', List.all_eq_true] at h
    obtain ⟨⟨⟨⟨⟨⟨hN, hnd⟩, hpr⟩, hxy⟩, hf⟩, hca⟩, hl⟩ := h
    obtain ⟨len, pf⟩ := par_facts o hN
    match is, len with
    | [i, j], _ =>
    obtain ⟨a1, a2, a3⟩ := pf 0 i x px rfl rfl
    obtain ⟨b1, b2, b3⟩ := pf 1 j y py rfl rfl
    have hij : i ≠ j := by simpa using hnd
    have p := (chkL_ok es _ o hl).2
    refine psE_multi hpr (PS.weak (ps_par o.calm o.nd a1 b1 hij a2 b2 p.paC ?_ rfl) fun D σ H h => ?_)
    · exact sw2 (blockF o) (by show (X.env.scope.names.lookup x == some .local) = true; rw [a2]; rfl) (by show (X.env.scope.names.lookup y == some .local) = true; rw [b2]; rfl) b3 hxy (by have := p.star; simpa using this) hf hca
    · refine tCs_mono (fun vs H1 hq => ?_) h
      match vs, hq with
      | [v, w], hq => exact ⟨v, w, rfl, hq.2⟩
      | [], hq => cases hq.1
      | [_], hq => cases hq.1
      | _ :: _ :: _ :: _, hq => cases hq.1
  · rename_i x px y py z pz _ _ a b d _ _ pos
    simp only [Bool.and_eq_true, decide_eq_true_eq, Bool.not_eq_true', List.all_eq_true] at h
    obtain ⟨⟨⟨⟨⟨⟨⟨⟨hN, hnd⟩, hpr⟩, hxy⟩, hxz⟩, hyz⟩, hf⟩, hca⟩, hl⟩ := h
    obtain ⟨len, pf⟩ := par_facts o hN
    match is, len with
    | [i, j, l], _ =>
    obtain ⟨a1, a2, a3⟩ := pf 0 i x px rfl rfl
    obtain ⟨b1, b2, b3⟩ := pf 1 j y py rfl rfl
    obtain ⟨d1, d2, d3⟩ := pf 2 l z pz rfl rfl
    have hij : i ≠ j ∧ i ≠ l ∧ j ≠ l := by simp at hnd; exact ⟨hnd.1.1, hnd.1.2, hnd.2⟩
    have p := (chkL_ok es _ o hl).2
    refine psE_multi hpr (PS.weak (ps_par3 o.calm o.nd a1 b1 d1 hij.1 hij.2.1 hij.2.2 a2 b2 d2 p.paC ?_ rfl) fun D σ H h => ?_)
    · exact sw3 (blockF o) (by show (X.env.scope.names.lookup x == some .local) = true; rw [a2]; rfl) (by show (X.env.scope.names.lookup y == some .local) = true; rw [b2]; rfl) (by show (X.env.scope.names.lookup z == some .local) = true; rw [d2]; rfl) b3 d3 hxy hxz hyz (by have := p.star; simpa using this) hf hca
    · refine tCs_mono (fun vs H1 hq => ?_) h
      match vs, hq with
      | [u, v, w], hq => exact ⟨u, v, w, rfl, hq.2⟩
      | [], hq => cases hq.1
      | [_], hq => cases hq.1
      | [_, _], hq => cases hq.1
      | _ :: _ :: _ :: _ :: _, hq => cases hq.1
  · cases h
def gN : List Nat → TGs
  | [] => gNil
  | i :: is => gCons (gName i) (gN is)
theorem gN_ok : ∀ {is : List Nat} {vs : List V} {σ : SG} {H : Hp} {Q : SG → Hp → Prop}, vs.length = is.length → Q ((is.zip vs).foldl (fun σ p => σ.set p.1 (some p.2)) σ) H → gN is vs σ H Q
  | [], [], _, _, _, _, q => ⟨rfl, q⟩
  | i :: is, v :: vs, _, _, _, h, q => ⟨v, vs, rfl, gN_ok (by simpa using h) q⟩
  | [], _ :: _, _, _, _, h, _ => by simp at h
  | _ :: _, [], _, _, _, h, _ => by simp at h
theorem gN_pgs (o : CkOk c X W mg call) : ∀ {is : List Nat} {ts : List Expr}, namesU c is ts = true → PGs X ts (gN is) ∧ (assignEach ts X.env).length = is.length ∧ (assignEach ts X.env).findIdx? (·.1) = none
  | [], [], _ => ⟨pgs_nil, rfl, rfl⟩
  | i :: is, t :: ts, h => by
    cases t <;> simp only [namesU, Bool.and_eq_true, Bool.false_eq_true] at h
    obtain ⟨h1, h2, h3⟩ := o.sto h.1
    obtain ⟨k1, k2, k3⟩ := gN_pgs o h.2
    refine ⟨pgs_cons (pg_name o.nd h1 h2 h3) k1, ?_, ?_⟩
    · rw [noStarEach rfl]; simp [k2]
    · rw [noStarEach rfl, List.findIdx?_cons]; simp [k3]
  | [], _ :: _, h => by simp [namesU] at h
  | _ :: _, [], h => by simp [namesU] at h
theorem namesU_len {c : Ck} : ∀ {is : List Nat} {ts : List Expr}, namesU c is ts = true → is.length = ts.length
  | [], [], _ => rfl
  | i :: is, t :: ts, h => by
    cases t <;> simp only [namesU, Bool.and_eq_true, Bool.false_eq_true] at h
    have := namesU_len h.2
    simp [this]
  | [], _ :: _, h => by simp [namesU] at h
  | _ :: _, [], h => by simp [namesU] at h
theorem filterMap_lt {α β : Type} {f : α → Option β} : ∀ {xs : List α}, (∃ x ∈ xs, f x = none) → (xs.filterMap f).length < xs.length
  | [], ⟨x, h, _⟩ => by cases h
  | y :: ys, ⟨x, h, hx⟩ => by
    have hle : ∀ zs : List α, (zs.filterMap f).length ≤ zs.length := fun zs => List.length_filterMap_le f zs
    rcases List.mem_cons.mp h with rfl | h
    · rw [List.filterMap_cons_none hx]
      have := hle ys
      simp only [List.length_cons]; omega
    · have ih := filterMap_lt (xs := ys) ⟨x, h, hx⟩
      cases hy : f y with
      | none => rw [List.filterMap_cons_none hy]; simp only [List.length_cons]; omega
      | some b => rw [List.filterMap_cons_some hy]; simp only [List.length_cons]; omega
theorem swU {ts vs : List Expr} {kt k2 : Nat} {pt pt2 : Pos} {env : Env} (h : ∃ x p, Expr.Name x p ∈ ts ∧ env.kindOf x = some .cell) : swappedStores [.Tuple ts kt pt] (.Tuple vs k2 pt2) env = pure none := by
  obtain ⟨x, p, hm, hk⟩ := h
  unfold swappedStores
  dsimp only
  split
  · rfl
  · split
    · rfl
    · split
      · rfl
      · rename_i h3
        exfalso
        simp only [Bool.or_eq_true, bne_iff_ne, ne_eq, not_or, Decidable.not_not] at h3
        have := filterMap_lt (f := fun (e : Expr) => match e with
          | Expr.Name id pos => if env.kindOf id == some .local && pos.line == (ts.head?.map (·.pos.line)).getD 0 then some id else none
          | _ => none) ⟨Expr.Name x p, hm, by simp [hk]⟩
        have h4 := h3.1
        exact absurd h4 (Nat.ne_of_lt this)
theorem ps_multiU (o : CkOk c X W mg call) {is : List Nat} {ts vs : List Expr} {ta : TA} {kt k2 : Nat} {pt pt2 pos : Pos} (hn : namesU c is ts = true) (hcell : ∃ x p, Expr.Name x p ∈ ts ∧ X.env.kindOf x = some .cell) (ha : PA X vs ta) (hl : is.length ≤ sizeLine) :
    PS X (.Assign [.Tuple ts kt pt] (.Tuple vs k2 pt2) pos) (fun D σ H => ta σ H fun us H1 => us.length = is.length ∧ D.nx ((is.zip us).foldl (fun σ p => σ.set p.1 (some p.2)) σ) H1) := by
  obtain ⟨g1, g2, g3⟩ := gN_pgs o hn
  refine ⟨fun pins s σ H D I h => ?_⟩
  refine wpAny_Assign_stores (Tuple_ (thn (ha.run _ pins s σ H _ I h) fun us s1 ⟨vs', H1, I1, r1, hlen, q1⟩ => ?_)) rfl (swU hcell)
  have hul : us.length = is.length := by rw [← r1.length]; exact hlen
  refine wpAny_newObj_type ?_ (by show us.toArray.size ≤ sizeLine; simp; omega)
  have I2 : Inv X pins σ H1 { s1 with heap := s1.heap.push { cls := .type "tuple", data := .seq us.toArray } } := I1.kept (t' := s1.toks) fun b o e => Heap.get?_push_of_some _ e
  rw [show (assignEach [Expr.Tuple ts kt pt] X.env).map (·.2) = [assign (.Tuple ts kt pt) X.env] from rfl]
  refine assign_Tuple_tuple (I.ok.hd o.calm) (IsTup.new s1.heap _) (by rw [g2]; simp [hul]) g3 fun h' hx => ?_
  have I3 := I2.kept (h' := h') (t' := s1.toks) fun b o e => hx b o (Nat.ne_of_lt (Heap.lt_size e)) e
  have run := g1.run pins _ σ H1 vs' us _ I3 r1 (gN_ok hlen q1)
  exact thn run fun _ s2 q => q
mutual
theorem chkS_ok (hp : PassesOwn (model X.prog X.w) X.A X.env X.xe) (o : CkOk c X W mg call) : ∀ (s : S) (a : Stmt) {pr : Nat → Bool}, chkS c pr s a = true → PS X a (tS X.K mg W pr (ex call s))
  | .asg t e, a, pr, h => by
    simp only [chkS] at h
    split at h
    · simp only [Bool.and_eq_true] at h
      exact asg_ok o h.1.1.1.1 h.1.1.1.2 h.1.1.2 h.1.2 h.2
    · cases h
  | .multi is es, a, pr, h => by
    simp only [chkS, Bool.or_eq_true] at h
    rcases h with h | h
    · exact multi_ok o h
    · unfold sMultiU at h
      split at h
      · simp only [Bool.and_eq_true, decide_eq_true_eq, Bool.not_eq_true', List.all_eq_true, List.any_eq_true, beq_iff_eq] at h
        obtain ⟨⟨⟨⟨⟨hN, ⟨e, he1, he2⟩⟩, hpr⟩, hl⟩, h100⟩, hlen⟩ := h
        have p := (chkL_ok es _ o hl).2
        refine psE_multi hpr (ps_multiU o hN ?_ p.paC ?_)
        · cases e <;> simp only [cellN, decide_eq_true_eq, Bool.false_eq_true] at he2
          exact ⟨_, _, he1, o.look _ _ he2 (by decide)⟩
        · have := namesU_len hN
          have h1 : (100 : Nat) ≤ sizeLine := by decide
          omega
      · cases h
  | .aug i op e, a, pr, h => aug_ok o (by simpa only [chkS] using h)
  | .expr e, a, pr, h => by
    simp only [chkS] at h
    split at h
    · simp only [Bool.and_eq_true] at h
      exact psE_expr (swN h.1) (chkE_ok e _ o h.2).pe
    · cases h
  | .store i ps ix e, a, pr, h => store_ok' o (by simpa only [chkS] using h)
  | .dstore i k e, a, pr, h => by
    simp only [chkS] at h
    unfold sDst at h
    split at h
    · simp only [Bool.and_eq_true] at h
      obtain ⟨⟨⟨⟨hn, hv⟩, hk⟩, hx⟩, he⟩ := h
      exact psE_dstore (ps_dput (by have := o.units; omega) (o.var hv) (chkE_ok k _ o hx).pe (chkE_ok e _ o he).pe (swN hn))
    · cases h
  | .ifs k x y, a, pr, h => by
    simp only [chkS] at h
    split at h
    · simp only [Bool.and_eq_true] at h
      exact psE_ifs ((chkE_ok k _ o h.1.1.2).pt h.1.1.1) (chkSs_ok hp o x _ h.1.2) (chkSs_ok hp o y _ h.2)
    · cases h
  | .whl n k x, a, pr, h => by
    simp only [chkS] at h
    split at h
    · simp only [Bool.and_eq_true] at h
      exact psE_whl hp ((chkE_ok k _ o h.1.2).pt h.1.1) (chkSs_ok hp o x _ h.2)
    · cases h
  | .fors t k es x, a, pr, h => by
    simp only [chkS] at h
    split at h
    · simp only [Bool.and_eq_true] at h
      obtain ⟨⟨hi, ht⟩, hs⟩ := h
      split at hi
      · rename_i bs hb
        obtain ⟨h1, h2⟩ := it_ok o hb (chkL_ok es bs o hi).2
        exact psE_for (ps_for hp o.calm h1 (chkT_ok o t _ ht) (chkSs_ok hp o x _ hs) h2)
      · cases hi
    · cases h
  | .forO x i b, a, pr, h => by
    simp only [chkS] at h
    split at h
    · simp only [Bool.and_eq_true, Bool.not_eq_true'] at h
      obtain ⟨⟨⟨hx, hpx⟩, hv⟩, hs⟩ := h
      obtain ⟨h1, h2, h3⟩ := o.sto hx
      exact psE_forO hpx (ps_for hp o.calm (pi_own (o.var hv)) (pg_name o.nd h1 h2 h3) (chkSs_ok hp o b _ hs) (fun x => rfl))
    · cases h
  | .ret e, a, pr, h => by
    simp only [chkS] at h
    split at h
    · exact psE_ret (chkE_ok e _ o h).pe
    · cases h
  | .retN, a, pr, h => by
    simp only [chkS] at h
    split at h
    · exact psE_retN
    · cases h
  | .pass, a, pr, h => by
    simp only [chkS] at h
    split at h
    · exact psE_pass
    · cases h
  | .brk, a, pr, h => by
    simp only [chkS] at h
    split at h
    · exact psE_brk
    · cases h
  | .cont, a, pr, h => by
    simp only [chkS] at h
    split at h
    · exact psE_cont
    · cases h
  | .frz i, a, pr, h => by simp [chkS] at h
  | .bad, a, pr, h => psE_bad
theorem chkSs_ok (hp : PassesOwn (model X.prog X.w) X.A X.env X.xe) (o : CkOk c X W mg call) : ∀ (s : List S) (as : List Stmt) {pr : Nat → Bool}, chkSs c pr s as = true → PSs X as (tS X.K mg W pr (exs call s))
  | [], as, pr, h => by
    simp only [chkSs, List.isEmpty_iff] at h
    subst h
    exact pssE_nil
  | s :: r, as, pr, h => by
    simp only [chkSs] at h
    cases hz : isFrz s with
    | some i =>
      rw [hz] at h
      have : s = .frz i := by
        cases s <;> simp [isFrz] at hz
        rw [hz]
      subst this
      exact pssE_frz (chkSs_ok hp o r as h)
    | none =>
      rw [hz] at h
      cases as with
      | nil => cases h
      | cons a as =>
        simp only [Bool.and_eq_true] at h
        exact pssE_cons (chkS_ok hp o s a h.1) (chkSs_ok hp o r as h.2)
end
end
/-! ### defs -/
structure DefT where
  st : Stmt
  N : List Str
  fd : FD
  lam : Bool
abbrev Tbl := List (Str × DefT)
def Tbl.fds (t : Tbl) : Str → Option FD := fun f => (t.lookup f).map (·.fd)
def Tbl.ck (t : Tbl) (gls : Str → D → Bool) (d : DefT) : Ck := ⟨d.N, (defScope d.st).names, fun f => (t.lookup f).map (·.fd.np), gls, d.lam⟩
def scopeB (N P : List Str) (sc : Scope) : Bool := (match sc.kind with | .function => true | _ => false) && !sc.isCoroutine && !sc.isGenerator && decide N.Nodup && decide (N.take P.length = P) && P.all (fun x => match sc.names.lookup x with | some .local => true | some .cell => true | _ => false) && sc.names.all (fun y => match y.2 with | .free => false | _ => true)
theorem scope_of {N P : List Str} {sc : Scope} (h : scopeB N P sc = true) : FnScope N P sc := by
  simp only [scopeB, Bool.and_eq_true, decide_eq_true_eq, Bool.not_eq_true', List.all_eq_true] at h
  obtain ⟨⟨⟨⟨⟨⟨h1, h2⟩, h3⟩, h4⟩, h5⟩, h6⟩, h7⟩ := h
  refine ⟨?_, h2, h3, h4, h5, fun x hx => ?_, fun y hy e => ?_⟩
  · split at h1
    · assumption
    · cases h1
  · have := h6 x hx
    split at this
    · exact .inl (by assumption)
    · exact .inr (by assumption)
    · cases this
  · have := h7 y hy
    rw [e] at this; cases this
def okDef (t : Tbl) (gls : Str → D → Bool) (d : DefT) : Bool :=
  scopeB d.N (d.N.take d.fd.np) (defScope d.st) && (d.fd.ns == d.N.length) && decide (d.fd.np ≤ d.N.length) && (d.fd.io.length == d.fd.np) && chkSs (t.ck gls d) (fun i => d.fd.io.getD i false) d.fd.body (defBody d.st)
section
variable {P : Program} {w : World} {K : PySem.W.Frag} {mg : Str → Option Value} {base : Heap}
/-- what the heap must bring -/
structure Facts (K : PySem.W.Frag) (mg : Str → Option Value) (t : Tbl) (gls : Str → D → Bool) : Prop where
  blt : ∀ x, (x ∈ (["isinstance", "range", "enumerate", "zip", "list"] : List Str) ∨ ∃ f, x = fnName f) ∨ (∃ t ∈ cNames, x = Str.ofString t) → mg x = none
  gls : ∀ x d, gls x d = true → ∃ u v, mg x = some u ∧ RelV v u ∧ Const K v d
  fns : ∀ f d, t.lookup f = some d → ∃ fa fd, L2.Fun K f f d.st fa fd ∧ mg f = some (.ref fa) ∧ Binds K fd (d.N.take d.fd.np) []
theorem slots_start {F H : Hp} : ∀ {vs : List V} {ds : List D} {A : AS} (n : Nat), OwnL K mg F H vs ds A → Slots K mg F H (vs.map some ++ List.replicate n none) (ds.map some ++ List.replicate n none) A
  | [], [], A, n, _ => by
    induction n with
    | zero => exact .nil
    | succ n ih => exact .skip ih
  | _ :: _, _ :: _, A, n, .cons o r d s1 s2 => .cons o (slots_start n r) d s1 s2
theorem outs_ok {F H : Hp} : ∀ {io : List Bool} {σ : SG} {ρ : Env'} {A : AS} {vs : List V}, Slots K mg F H σ ρ A → io.length = vs.length → (∀ (i : Nat) v, vs[i]? = some v → io[i]? = some true → σ[i]? = some (some v)) → Slots K mg F H (vs.map some) (outsOf ρ io) A
  | [], σ, ρ, A, vs, s, hl, h => by
    cases vs with
    | nil => cases ρ <;> exact .nil
    | cons _ _ => simp at hl
  | b :: io, σ, ρ, A, vs, s, hl, h => by
    cases vs with
    | nil => simp at hl
    | cons v vs =>
      have tail : ∀ {σ : SG}, (∀ (i : Nat) w, vs[i]? = some w → io[i]? = some true → σ[i]? = some (some w)) → ∀ {ρ : Env'} {A : AS}, Slots K mg F H σ ρ A → Slots K mg F H (vs.map some) (outsOf ρ io) A := fun k ρ A s => outs_ok s (by simpa using hl) k
      cases s with
      | nil => exact .skip (tail (σ := []) (fun i w h1 h2 => by simpa using h (i + 1) w (by simpa using h1) (by simpa using h2)) .nil)
      | skip s =>
        simp only [outsOf, ite_self]
        exact .skip (tail (fun i w h1 h2 => by simpa using h (i + 1) w (by simpa using h1) (by simpa using h2)) s)
      | cons o s d s1 s2 =>
        have k := tail (fun i w h1 h2 => by simpa using h (i + 1) w (by simpa using h1) (by simpa using h2)) s
        simp only [outsOf]
        cases b with
        | false => exact .skip (k.sub s2)
        | true =>
          have := h 0 v rfl rfl
          simp at this
          subst this
          exact .cons o k d s1 s2
/-- what is known of a maker of lambdas -/
def LamF (mg : Str → Option Value) (base : Heap) (f : Str) (fd : FuncData) : Prop := ∃ c P, fd.code = .ref c ∧ Tn.tn P (f ++ (".<locals>." : Str) ++ ("<lambda>" : Str)) ∧ LamX.TabB base mg c P
theorem fun_run {x qual : Str} {st : Stmt} {f : Addr} {fd : FuncData} {N ps : List Str} {k : Nat} {sp : Sp} (F : L2.Fun K x qual st f fd) (S : FnScope N ps (defScope st)) (len : ∀ vs H Q E, sp vs H Q E → vs.length = ps.length)
    (hb : ∀ (cdv : Value), fd.code = cdv → ∀ (A : Around) (outer : List Env) (s : Shared) (H : Hp) (vs : List V) (Q : VK) (E : XK), Room k (A.deeper (envOfC qual (defScope st) s.heap.objs.size f cdv)) → sp vs H Q E →
      ∃ t, PSs (cxOf (L2.CX P w) P w K mg base N qual (defScope st) f cdv A outer s H E) (defBody st) t ∧ t { nx := fun _ H' => Q .non H', rt := Q } (start N vs) H) : FnOk P w K mg base (L2.CX P w) (k + 1) f fd ps sp := by
  obtain ⟨oc, od, kV, doc, pm, an, cdv, ct, osl, rfl, lk, hcd⟩ := F.ex
  exact fn_of lk hcd S len fun A outer s H vs Q E hr z => hb cdv rfl A outer s H vs Q E hr z
theorem table_ok {t : Tbl} {gls : Str → D → Bool} (fx : Facts K mg t gls) (hlam : ∀ f d, t.lookup f = some d → d.lam = true → ∀ fa fd, mg f = some (.ref fa) → L2.Fun K f f d.st fa fd → LamF mg base f fd) (hok : ∀ f d, t.lookup f = some d → okDef t gls d = true) : ∀ (n : Nat) (f : Str) (d : DefT), t.lookup f = some d → ∀ fa fd, mg f = some (.ref fa) → L2.Fun K f f d.st fa fd → FnOk P w K mg base (L2.CX P w) (n + 4) fa fd (d.N.take d.fd.np) (spC K mg (run t.fds n) f d.fd.np) := by
  intro n
  induction n with
  | zero =>
    intro f d hf fa fd _ F
    have bad : ∀ {vs H Q E}, spC K mg (run t.fds 0) f d.fd.np vs H Q E → False := fun {vs H Q E} h => by
      obtain ⟨_, F, A, ds, _, _, p⟩ := h
      simp only [run] at p
      exact p
    exact ⟨fun vs H Q E h => (bad h).elim, fun A outer s H args us vs Q E hr e0 hb r hsp => (bad hsp).elim⟩
  | succ n ih =>
    intro f d hf fa fd hmg FN
    have ok := hok f d hf
    simp only [okDef, Bool.and_eq_true, decide_eq_true_eq, beq_iff_eq] at ok
    obtain ⟨⟨⟨⟨o1, o2⟩, o3⟩, o4⟩, o5⟩ := ok
    have S := scope_of o1
    refine fun_run (k := n + 4) FN S (fun vs H Q E h => by rw [h.1, List.length_take]; omega) fun cdv hcode A outer s H vs Q E hr h => ?_
    obtain ⟨hl, F, A0, ds, w0, ol, p⟩ := h
    have lds : ds.length = d.fd.np := by rw [← ol.len, hl]
    have cko : CkOk (t.ck gls d) (cxOf (L2.CX P w) P w K mg base d.N f (defScope d.st) fa cdv A outer s H E) (fun cls dx _ H => E cls dx H) mg (run t.fds n) :=
      { n := rfl, nd := S.nd, kind := S.kind, look := fun x k h _ => h, free := fun x h => .inr h, fn := fun x _ => rfl, calm := rfl
        units := by have := hr.un; show (A.deeper _).units + 65 < _; omega
        blt := fx.blt, gls := fx.gls
        fns := fun g m hg => by
          simp only [Tbl.ck, Option.map_eq_some_iff] at hg
          obtain ⟨d2, h1, rfl⟩ := hg
          obtain ⟨fa2, fd2, F2, m2, b2⟩ := fx.fns g d2 h1
          exact ⟨n + 4, fa2, fd2, _, ih g d2 h1 fa2 fd2 m2 F2, hr, m2, F2.kp, b2⟩
        takes := takes_of rfl rfl rfl rfl
        lam := fun hl => by
          obtain ⟨c, P', e1, e2, e3⟩ := hlam f d hf hl fa fd hmg FN
          exact ⟨⟨c, P', hcode.symm.trans e1, e2, e3⟩, hr.mono (Nat.le_add_left 4 n)⟩ }
    refine ⟨_, chkSs_ok (passes_of rfl) cko _ _ o5, ?_⟩
    have hst : L2.start d.N vs = vs.map some ++ List.replicate (d.fd.ns - ds.length) none := by
      unfold L2.start; rw [o2, hl, lds]
    refine ⟨F, A0, ds.map some ++ List.replicate (d.fd.ns - ds.length) none, w0, by rw [hst]; exact slots_start _ ol, ?_⟩
    simp only [run, Tbl.fds, hf, Option.map_some, lds, if_true] at p
    rw [lds]
    have outs : ∀ {σ' : SG} {ρ : Env'} {F' H' : Hp} {A' : AS}, Slots K mg F' H' σ' ρ A' → SK (fun i => d.fd.io.getD i false) (L2.start d.N vs) σ' → Slots K mg F' H' (vs.map some) (outsOf ρ d.fd.io) A' := fun {σ' ρ F' H' A'} s k => by
      refine outs_ok s (by rw [o4, hl]) fun i v h1 h2 => ?_
      rw [k i (by simp [h2]), hst]
      have hi : i < vs.length := (List.getElem?_eq_some_iff.mp h1).1
      rw [List.getElem?_append_left (by simpa using hi), List.getElem?_map, h1]
      rfl
    cases hr : exs (run t.fds n) d.fd.body (ds.map some ++ List.replicate (d.fd.ns - d.fd.np) none) with
    | nx ρ =>
      rw [hr] at p
      exact fun σ' F' H' A' x s k => p .non F' H' A' no (by rw [cup_no']; exact x) (outs s k) (.fz .non) Dj.no_r
    | ret dd ρ =>
      rw [hr] at p
      exact fun v σ' F' H' A' B x s k o dj => p v F' H' A' B x (outs s k) o dj
    | err x ρ =>
      rw [hr] at p
      exact fun σ' k cls dx F' H' A' e s y => p cls dx F' H' A' e (outs s k) y
    | brk ρ => rw [hr] at p; exact p.elim
    | cont ρ => rw [hr] at p; exact p.elim
    | bad => rw [hr] at p; exact p.elim
/-- a law's promise -/
def spLaw (K : PySem.W.Frag) (m : Nat) : Sp := fun vs H Q _ => ∃ (a : Addr) (ns : List Int), vs = [.ref a] ∧ SqL K H a (ns.map V.int) ∧ ns.length ≤ m ∧ (∀ P q, Tn.tn P q → H P = some (.tbl #[])) ∧ ∀ H', Q (.bl true) H'
/-- all but the tables -/
def noTbl (H : Hp) : Hp := fun a => match H a with
  | some (.tbl _) => none
  | o => o
theorem noTbl_of {H : Hp} {a : Addr} {u : HO} (h : H a = some u) (n : ∀ ps, u ≠ .tbl ps) : noTbl H a = some u := by
  unfold noTbl
  rw [h]
  cases u <;> first | rfl | exact (n _ rfl).elim
theorem noTbl_same {H : Hp} : Same (noTbl H) H := fun a u e => by
  unfold noTbl at e
  cases h : H a with
  | none => rw [h] at e; cases e
  | some o => rw [h] at e; cases o <;> first | exact e | cases e
theorem noTbl_not {H : Hp} (a : Addr) (ps : Array Value) : noTbl H a ≠ some (.tbl ps) := fun e => by
  unfold noTbl at e
  cases h : H a with
  | none => rw [h] at e; cases e
  | some o => rw [h] at e; cases o <;> cases e
theorem law_ok {t : Tbl} {gls : Str → D → Bool} (fx : Facts K mg t gls) (hlam : ∀ f d, t.lookup f = some d → d.lam = true → ∀ fa fd, mg f = some (.ref fa) → L2.Fun K f f d.st fa fd → LamF mg base f fd) (hok : ∀ f d, t.lookup f = some d → okDef t gls d = true) {n m : Nat} {f : Str} {d : DefT} (hf : t.lookup f = some d) (h1 : d.fd.np = 1) {fa : Addr} {fd : FuncData} (hmg : mg f = some (.ref fa)) (F : L2.Fun K f f d.st fa fd)
    (hrun : ∀ ns : List Int, ns.length ≤ m → ∃ outs, run t.fds n f [.scr ns] = .ok (.bl true) outs) : FnOk P w K mg base (L2.CX P w) (n + 4) fa fd (d.N.take d.fd.np) (spLaw K m) := by
  refine (table_ok fx hlam hok n f d hf fa fd hmg F).imp fun vs H Q E h => ?_
  obtain ⟨a, ns, rfl, hs, hl, ht, q⟩ := h
  obtain ⟨outs, hr⟩ := hrun ns hl
  have hs' : SqL K (noTbl H) a (ns.map V.int) := by
    rcases hs with (h | ⟨o, h⟩) | h
    · exact .inl (.inl (noTbl_of h fun _ z => nomatch z))
    · exact .inl (.inr ⟨o, noTbl_of h fun _ z => nomatch z⟩)
    · exact .inr h
  refine ⟨by rw [h1]; rfl, noTbl H, no, [.scr ns], ⟨noTbl_same, fun _ h => h.elim, fun P q t => .nil (ht P q t), noTbl_not⟩, .cons (.fz (.scr hs')) .nil Dj.no_r Sb.rfl' Sb.rfl', ?_⟩
  rw [hr]
  intro v F' H' A' B e s o dj
  rw [o.bl]
  exact q H'
end
abbrev noTn : Tn := ⟨[], fun _ h => by simp at h⟩
end VI

namespace VI
/-- for what asks nothing of tables -/
instance (priority := low) dfltTn : Tn := noTn
open PySem PySem.Spec PyProof.Rows L2
inductive GV where
  | int (i : Int) | str (l : List Nat)
def GV.v : GV → V
  | .int i => .int i
  | .str l => .str ⟨l.toArray⟩
def GV.is : GV → D → Bool
  | .int i, .int j => i == j
  | .str l, .str k => decide (l = k) && okCs l
  | _, _ => false
def glB (cs : List (Str × GV)) : Str → D → Bool := fun x d => match cs.lookup x with
  | some v => v.is d
  | none => false
theorem glB_ok {K : PySem.W.Frag} {mg : Str → Option Value} {cs : List (Str × GV)} (h : ∀ x v, cs.lookup x = some v → ∃ u, mg x = some u ∧ RelV v.v u) : ∀ x d, glB cs x d = true → ∃ u v, mg x = some u ∧ RelV v u ∧ Const K v d := fun x d hd => by
  unfold glB at hd
  split at hd
  · rename_i v hv
    obtain ⟨u, h1, h2⟩ := h x v hv
    refine ⟨u, v.v, h1, h2, ?_⟩
    cases v with
    | int i =>
      cases d <;> simp only [GV.is, Bool.false_eq_true] at hd
      rw [beq_iff_eq.mp hd]
      exact fun F => .int _
    | str l =>
      cases d <;> simp only [GV.is, Bool.false_eq_true] at hd
      simp only [Bool.and_eq_true, decide_eq_true_eq] at hd
      rw [← hd.1]
      exact fun F => .str l hd.2
  · cases hd
end VI
namespace VI
open PySem PySem.Spec PyProof.Rows L2
def bltL : List Str := ["isinstance", "range", "enumerate", "zip", "list", "len", "abs", "max", "min", "sum", "sorted", "tuple", "int", "str", "all", "any", "dict", "set", "bool"]
theorem blt_ok {mg : Str → Option Value} (h : ∀ x ∈ bltL, mg x = none) : ∀ x, (x ∈ (["isinstance", "range", "enumerate", "zip", "list"] : List Str) ∨ ∃ f, x = fnName f) ∨ (∃ t ∈ cNames, x = Str.ofString t) → mg x = none := fun x hx => by
  refine h x ?_
  rcases hx with (hx | ⟨f, rfl⟩) | ⟨t, ht, rfl⟩
  · simp only [List.mem_cons, List.not_mem_nil, or_false] at hx
    rcases hx with rfl | rfl | rfl | rfl | rfl <;> decide +kernel
  · cases f <;> decide +kernel
  · simp only [cNames, List.mem_cons, List.not_mem_nil, or_false] at ht
    rcases ht with rfl | rfl | rfl | rfl | rfl | rfl <;> decide +kernel
theorem lk_nil {α : Type} {Pp : Str → α → Prop} : ∀ f d, List.lookup f ([] : List (Str × α)) = some d → Pp f d := fun f d h => by simp at h
theorem lk_cons {α : Type} {Pp : Str → α → Prop} {f0 : Str} {d0 : α} {r : List (Str × α)} (h : Pp f0 d0) (hr : ∀ f d, List.lookup f r = some d → Pp f d) : ∀ f d, List.lookup f ((f0, d0) :: r) = some d → Pp f d := fun f d hf => by
  rw [List.lookup_cons] at hf
  cases hb : f == f0 with
  | true => rw [hb] at hf; cases hf; rw [beq_iff_eq.mp hb]; exact h
  | false => rw [hb] at hf; exact hr f d hf
theorem cx_false {P : Program} {w : World} {outer : List Env} {H : Hp} {s : Shared} {u : Value} {s' : Shared} (h : L2.CX P w outer H s (fun _ _ _ => False) u s') : False := by
  obtain ⟨_, _, _, _, _, _, _, _, _, _, _, _, z⟩ := h
  exact z
end VI
namespace VI
open PySem PySem.Spec PyProof.Rows L2
theorem hok_of {t : Tbl} {gls : Str → D → Bool} (h : (t.all fun p => okDef t gls p.2) = true) : ∀ f d, t.lookup f = some d → okDef t gls d = true := fun f d hf =>
  List.all_eq_true.mp h (f, d) (PySem.mem_of_lookup hf)
end VI

namespace VI
open PySem L2
def finR (io : List Bool) : SR → FR
  | .ret d ρ => .ok d (outsOf ρ io)
  | .nx ρ => .ok .non (outsOf ρ io)
  | .err x ρ => .err x (outsOf ρ io)
  | _ => .bad
theorem run_eq {t : Str → Option FD} {n : Nat} {f : Str} {fd : FD} {ds : List D} (h : t f = some fd) (hl : ds.length = fd.np) :
    run t (n + 1) f ds = finR fd.io (exs (run t n) fd.body (ds.map some ++ List.replicate (fd.ns - ds.length) none)) := by
  simp only [run, h, hl, if_true]
  cases exs (run t n) fd.body (ds.map some ++ List.replicate (fd.ns - fd.np) none) <;> rfl
theorem sIx_none' (n d : Nat) : HT.sIx n d none = d := HT.sIx_none _ _
theorem sIx_nat' (n d k : Nat) : HT.sIx n d (some (k : Int)) = min k n := HT.sIx_nat n d k
theorem cut_to {α : Type} (xs : List α) (k : Nat) : cutD xs none (some (k : Int)) = xs.take k := by
  unfold cutD
  rw [sIx_none', sIx_nat']
  simp
theorem cut_from {α : Type} (xs : List α) (k : Nat) : cutD xs (some (k : Int)) none = xs.drop k := by
  unfold cutD
  rw [sIx_none', sIx_nat']
  rw [List.take_of_length_le (by simp)]
  by_cases h : k ≤ xs.length
  · rw [Nat.min_eq_left h]
  · rw [Nat.min_eq_right (by omega), List.drop_length, List.drop_of_length_le (by omega)]
theorem cut_mid {α : Type} (xs : List α) (k l : Nat) (h : l ≤ xs.length) : cutD xs (some (k : Int)) (some (l : Int)) = (xs.drop k).take (l - k) := by
  unfold cutD
  rw [sIx_nat', sIx_nat', Nat.min_eq_left h]
  by_cases hk : k ≤ xs.length
  · rw [Nat.min_eq_left hk]
  · rw [Nat.min_eq_right (by omega), List.drop_length, List.drop_of_length_le (by omega)]; simp
theorem ixN_nat {n k : Nat} (h : k < n) : ixN n (k : Int) = some k := by
  unfold ixN
  split <;> first | (simp_all; done) | skip
  all_goals (simp_all <;> omega)
theorem atD_nat {α : Type} {xs : List α} {k : Nat} (h : k < xs.length) : atI xs (k : Int) = xs[k]? := by
  unfold atI
  rw [ixN_nat h]; rfl
theorem pure_ints : ∀ ns : List Int, pureL (ns.map .int) = true
  | [] => rfl
  | n :: r => by simp [pureL, D.pure, pure_ints r]
theorem frz_ints : ∀ ns : List Int, frzL (ns.map .int) = ns.map .int := fun ns => frzL_of_pure (pure_ints ns)
theorem frz_int (n : Int) : (D.int n).frz = .int n := by simp [D.frz]
theorem frz_str (n : List Nat) : (D.str n).frz = .str n := by simp [D.frz]
theorem frz_bl (n : Bool) : (D.bl n).frz = .bl n := by simp [D.frz]
theorem can_int (n : Int) : (D.int n).can = true := by simp [D.can]
theorem can_str (n : List Nat) : (D.str n).can = true := by simp [D.can]
theorem eq_int (a b : Int) : eqO (.int a) (.int b) = some (a == b) := by simp [eqO, okD, deq, deep]
theorem eq_str (a b : List Nat) : eqO (.str a) (.str b) = some (decide (a = b)) := by simp [eqO, okD, deq, deep]
end VI

namespace VI
open PySem L2
section
variable {call : CallT}
structure WR {α : Type} (r : R α) (Q : α → Env' → Prop) : Prop where
  ex : ∃ a ρ, r = .ok a ρ ∧ Q a ρ
structure WO (o : Option D) (Q : D → Prop) : Prop where
  ex : ∃ d, o = some d ∧ Q d
structure KS where
  nx : Env' → Prop
  rt : D → Env' → Prop
  bk : Env' → Prop := fun _ => False
  ct : Env' → Prop := fun _ => False
def WXd (r : SR) (k : KS) : Prop := match r with
  | .nx ρ => k.nx ρ
  | .ret d ρ => k.rt d ρ
  | .brk ρ => k.bk ρ
  | .cont ρ => k.ct ρ
  | _ => False
structure WX (r : SR) (k : KS) : Prop where
  out : WXd r k
theorem WR.imp {α : Type} {r : R α} {Q Q' : α → Env' → Prop} (h : WR r Q) (f : ∀ a ρ, Q a ρ → Q' a ρ) : WR r Q' := let ⟨⟨a, ρ, e, q⟩⟩ := h; ⟨a, ρ, e, f a ρ q⟩
variable {ρ : Env'} {Q : D → Env' → Prop} {QL : List D → Env' → Prop} {k : KS}
/-! expressions -/
theorem W_var {i : Nat} {d : D} (h : ρ[i]? = some (some d)) (q : Q d ρ) : WR (ev call (.var i) ρ) Q := ⟨d, ρ, by simp only [ev, h], q⟩
theorem W_use {i : Nat} {d : D} (h : ρ[i]? = some (some d)) (c : d.can = true) (q : Q d.frz (ρ.set i (some d.frz))) : WR (ev call (.use i) ρ) Q := ⟨d.frz, _, by simp only [ev, h, D.can_cand c, if_true], q⟩
theorem W_useC {i : Nat} {d : D} (h : ρ[i]? = some (some d)) (c : d.cand = true) (q : Q d.frz (ρ.set i (some d.frz))) : WR (ev call (.use i) ρ) Q := ⟨d.frz, _, by simp only [ev, h, c, if_true], q⟩
theorem W_take {i : Nat} {d : D} (h : ρ[i]? = some (some d)) (q : Q d (ρ.set i none)) : WR (ev call (.take i) ρ) Q := ⟨d, _, by simp only [ev, h], q⟩
theorem W_cst {d : D} (q : Q d ρ) : WR (ev call (.cst d) ρ) Q := ⟨d, ρ, by simp only [ev], q⟩
theorem W_glob {x : Str} {d : D} (q : Q d ρ) : WR (ev call (.glob x d) ρ) Q := ⟨d, ρ, by simp only [ev], q⟩
theorem W_op {o : Op} {es : List E} (h : WR (evR call es ρ) fun ds ρ' => WO (opD o ds) fun d => (o != .ix || d.pure || sharesL es) = true ∧ Q d ρ') : WR (ev call (.op o es) ρ) Q := by
  obtain ⟨ds, ρ', e, d, h1, h2, q⟩ := h
  exact ⟨d, ρ', by simp only [ev, e, R.bind, h1, h2, if_true], q⟩
theorem W_rnil (q : QL [] ρ) : WR (evR call [] ρ) QL := ⟨[], ρ, by simp only [evR], q⟩
theorem W_rvar {i : Nat} {d0 : D} {es : List E} (h : ρ[i]? = some (some d0)) (q : WR (evR call es ρ) fun ds ρ2 => ∃ d, ρ2[i]? = some (some d) ∧ QL (d :: ds) ρ2) : WR (evR call (.var i :: es) ρ) QL := by
  obtain ⟨ds, ρ2, e, d, h2, q⟩ := q
  exact ⟨d :: ds, ρ2, by simp only [evR, varOf, h, e, R.bind, h2], q⟩
theorem W_rcons {e : E} {es : List E} (hv : varOf e = none) (q : WR (ev call e ρ) fun d ρ1 => WR (evR call es ρ1) fun ds ρ2 => (!shares e || d.pure || quietL es) = true ∧ QL (d :: ds) ρ2) : WR (evR call (e :: es) ρ) QL := by
  obtain ⟨d, ρ1, e1, ds, ρ2, e2, c, q⟩ := q
  exact ⟨d :: ds, ρ2, by simp only [evR, hv, e1, R.bind, e2, c, if_true], q⟩
theorem W_cnil (q : QL [] ρ) : WR (evC call [] ρ) QL := ⟨[], ρ, by simp only [evC], q⟩
theorem W_ccons {e : E} {es : List E} (q : WR (ev call e ρ) fun d ρ1 => WR (evC call es ρ1) fun ds ρ2 => (!shares e || d.pure) = true ∧ QL (d :: ds) ρ2) : WR (evC call (e :: es) ρ) QL := by
  obtain ⟨d, ρ1, e1, ds, ρ2, e2, c, q⟩ := q
  exact ⟨d :: ds, ρ2, by simp only [evC, e1, R.bind, e2, c, if_true], q⟩
theorem W_anil {QA : List Ar → Env' → Prop} (q : QA [] ρ) : WR (evA call [] ρ) QA := ⟨[], ρ, by simp only [evA], q⟩
theorem W_alend {QA : List Ar → Env' → Prop} {i : Nat} {d0 : D} {es : List E} (h : ρ[i]? = some (some d0)) (q : WR (evA call es ρ) fun ds ρ2 => QA (.lnt i :: ds) ρ2) : WR (evA call (.lend i :: es) ρ) QA := by
  obtain ⟨ds, ρ2, e, q⟩ := q
  exact ⟨_, ρ2, by simp only [evA, lendOf, h, e, R.bind], q⟩
theorem W_acons {QA : List Ar → Env' → Prop} {e : E} {es : List E} (hv : lendOf e = none) (q : WR (ev call e ρ) fun d ρ1 => WR (evA call es ρ1) fun ds ρ2 => (!shares e || d.pure) = true ∧ QA (.val d :: ds) ρ2) : WR (evA call (e :: es) ρ) QA := by
  obtain ⟨d, ρ1, e1, ds, ρ2, e2, c, q⟩ := q
  exact ⟨_, ρ2, by simp only [evA, hv, e1, R.bind, e2, c, if_true], q⟩
theorem W_call {f : Str} {as : List E} (q : WR (evA call as ρ) fun rs ρ1 => ∃ ds ρ2, fetch rs ρ1 = some (ds, ρ2) ∧ ∃ d outs, call f ds = .ok d outs ∧ Q d (back rs outs ρ2)) : WR (ev call (.call f as) ρ) Q := by
  obtain ⟨rs, ρ1, e1, ds, ρ2, e2, d, outs, e3, q⟩ := q
  exact ⟨d, _, by simp only [ev, e1, R.bind, e2, e3], q⟩
theorem W_chain {o1 o2 : CmpOp} {a b c : E} (q : WR (ev call a ρ) fun x ρ1 => WR (ev call b ρ1) fun y ρ2 => (x.pure && y.pure) = true ∧ ∃ t, cmpB o1 x y = some t ∧ (t = true → WR (ev call c ρ2) fun z ρ3 => z.pure = true ∧ WO (cmpO o2 y z) fun d => Q d ρ3) ∧ (t = false → Q (.bl false) ρ2)) : WR (ev call (.chain o1 o2 a b c) ρ) Q := by
  obtain ⟨x, ρ1, e1, y, ρ2, e2, hp, t, ht, h1, h2⟩ := q
  cases t with
  | true =>
    obtain ⟨z, ρ3, e3, hz, d, hd, q⟩ := h1 rfl
    exact ⟨d, ρ3, by simp only [ev, e1, R.bind, e2, hp, if_true, ht, e3, hz, hd, R.of], q⟩
  | false => exact ⟨_, ρ2, by simp only [ev, e1, R.bind, e2, hp, if_true, ht], h2 rfl⟩
theorem W_chain3 {o1 o2 o3 : CmpOp} {a b c d : E} (q : WR (ev call a ρ) fun x ρ1 => WR (ev call b ρ1) fun y ρ2 => (x.pure && y.pure) = true ∧ ∃ t, cmpB o1 x y = some t ∧ (t = true → WR (ev call c ρ2) fun z ρ3 => z.pure = true ∧ ∃ u, cmpB o2 y z = some u ∧ (u = true → WR (ev call d ρ3) fun w ρ4 => w.pure = true ∧ WO (cmpO o3 z w) fun d => Q d ρ4) ∧ (u = false → Q (.bl false) ρ3)) ∧ (t = false → Q (.bl false) ρ2)) : WR (ev call (.chain3 o1 o2 o3 a b c d) ρ) Q := by
  obtain ⟨x, ρ1, e1, y, ρ2, e2, hp, t, ht, h1, h2⟩ := q
  cases t with
  | true =>
    obtain ⟨z, ρ3, e3, hz, u, hu, h3, h4⟩ := h1 rfl
    cases u with
    | true =>
      obtain ⟨w, ρ4, e4, hw, d, hd, q⟩ := h3 rfl
      exact ⟨d, ρ4, by simp only [ev, e1, R.bind, e2, hp, if_true, ht, e3, hz, hu, e4, hw, hd, R.of], q⟩
    | false => exact ⟨_, ρ3, by simp only [ev, e1, R.bind, e2, hp, if_true, ht, e3, hz, hu], h4 rfl⟩
  | false => exact ⟨_, ρ2, by simp only [ev, e1, R.bind, e2, hp, if_true, ht], h2 rfl⟩
theorem W_and {a b : E} (q : WR (ev call a ρ) fun x ρ1 => ∃ t, x = .bl t ∧ (t = true → WR (ev call b ρ1) fun y ρ2 => ∃ u, y = .bl u ∧ Q (.bl u) ρ2) ∧ (t = false → Q (.bl false) ρ1)) : WR (ev call (.and a b) ρ) Q := by
  obtain ⟨x, ρ1, e1, t, rfl, h1, h2⟩ := q
  cases t with
  | true =>
    obtain ⟨y, ρ2, e2, u, rfl, q⟩ := h1 rfl
    exact ⟨_, ρ2, by simp only [ev, e1, R.bind, e2], q⟩
  | false => exact ⟨_, ρ1, by simp only [ev, e1, R.bind], h2 rfl⟩
theorem W_or {a b : E} (q : WR (ev call a ρ) fun x ρ1 => ∃ t, x = .bl t ∧ (t = false → WR (ev call b ρ1) fun y ρ2 => ∃ u, y = .bl u ∧ Q (.bl u) ρ2) ∧ (t = true → Q (.bl true) ρ1)) : WR (ev call (.or a b) ρ) Q := by
  obtain ⟨x, ρ1, e1, t, rfl, h1, h2⟩ := q
  cases t with
  | false =>
    obtain ⟨y, ρ2, e2, u, rfl, q⟩ := h1 rfl
    exact ⟨_, ρ2, by simp only [ev, e1, R.bind, e2], q⟩
  | true => exact ⟨_, ρ1, by simp only [ev, e1, R.bind], h2 rfl⟩
theorem W_not {a : E} (q : WR (ev call a ρ) fun x ρ1 => ∃ t, x = .bl t ∧ Q (.bl (!t)) ρ1) : WR (ev call (.not a) ρ) Q := by
  obtain ⟨x, ρ1, e1, t, rfl, q⟩ := q
  exact ⟨_, ρ1, by simp only [ev, e1, R.bind], q⟩
theorem W_ifx {c a b : E} (q : WR (ev call c ρ) fun x ρ1 => ∃ t, truD x = some t ∧ (t = true → WR (ev call a ρ1) fun y ρ2 => (!shares a || y.pure) = true ∧ Q y ρ2) ∧ (t = false → WR (ev call b ρ1) fun y ρ2 => (!shares b || y.pure) = true ∧ Q y ρ2)) : WR (ev call (.ifx c a b) ρ) Q := by
  obtain ⟨x, ρ1, e1, t, ht, h1, h2⟩ := q
  cases t with
  | true =>
    obtain ⟨y, ρ2, e2, c, q⟩ := h1 rfl
    exact ⟨y, ρ2, by simp only [ev, e1, R.bind, ht, e2, c, if_true], q⟩
  | false =>
    obtain ⟨y, ρ2, e2, c, q⟩ := h2 rfl
    exact ⟨y, ρ2, by simp only [ev, e1, R.bind, ht, e2, c, if_true], q⟩
theorem W_tup {es : List E} (q : WR (evC call es ρ) fun ds ρ' => (pureL ds && decide (ds.length ≤ lim)) = true ∧ Q (.tup ds) ρ') : WR (ev call (.tup es) ρ) Q := by
  obtain ⟨ds, ρ', e, c, q⟩ := q
  exact ⟨_, ρ', by simp only [ev, e, R.bind, c, if_true], q⟩
theorem W_lst {es : List E} (q : WR (evC call es ρ) fun ds ρ' => ds.length ≤ lim ∧ Q (.lst true ds) ρ') : WR (ev call (.lst es) ρ) Q := by
  obtain ⟨ds, ρ', e, c, q⟩ := q
  exact ⟨_, ρ', by simp only [ev, e, R.bind, c, if_true], q⟩
theorem W_mut0 {o : Mo} {i : Nat} {as : List E} {xs : List D} (h : ρ[i]? = some (some (.lst true xs))) (q : WR (evC call as ρ) fun ds ρ2 => ∃ d, ρ2[i]? = some (some d) ∧ ∃ d' r, moD o d ds = some (d', r) ∧ Q r (ρ2.set i (some d'))) : WR (ev call (.mut o i [] as) ρ) Q := by
  obtain ⟨ds, ρ2, e, d, h2, d', r, hm, q⟩ := q
  exact ⟨r, _, by simp [ev, evR, R.bind, intsO, h, isPath, e, h2, atPath, hm], q⟩
theorem W_idx {i : Nat} {as : List E} {m : Bool} {xs : List D} (h : ρ[i]? = some (some (.lst m xs))) (q : WR (evC call as ρ) fun ds ρ2 => ∃ d, ρ2[i]? = some (some d) ∧ WO (idxO d ds) fun r => Q r ρ2) : WR (ev call (.idx i as) ρ) Q := by
  obtain ⟨ds, ρ2, e, d, h2, r, hr, q⟩ := q
  exact ⟨r, ρ2, by simp only [ev, h, isLst, if_true, e, R.bind, h2, hr, R.of], q⟩
theorem W_lc {el : E} {t : T} {kk : ItK} {es cs : List E} {own : List Nat} (q : WR (evC call es ρ) fun ds ρ1 => canL ds = true ∧ ∃ xs, itD kk (frzL ds) = some xs ∧ WR (lcLoop (lcF call el t cs) own xs [] (wipeD ρ1 own)) fun acc ρ2 => Q (.lst true acc) ρ2) : WR (ev call (.lc el t kk es cs own) ρ) Q := by
  obtain ⟨ds, ρ1, e1, c, xs, hx, acc, ρ2, e2, q⟩ := q
  refine ⟨_, ρ2, ?_, q⟩
  simp only [ev, e1, R.bind, c, if_true, hx]
  show ((lcLoop (lcF call el t cs) own xs [] (wipeD ρ1 own)).bind fun acc ρ2 => R.ok (D.lst true acc) ρ2) = R.ok (D.lst true acc) ρ2
  rw [e2]; rfl
/-- a comprehension's turns: J by the number of turns, what was gathered, the slots -/
theorem W_lcloop {f : D → Env' → R (Option D)} {own : List Nat} {xs : List D} {QA : List D → Env' → Prop} {ρ0 : Env'} (J : Nat → List D → Env' → Prop) (h0 : J 0 [] ρ0)
    (hs : ∀ i x acc ρ, xs[i]? = some x → acc.length ≤ i → J i acc ρ → WR (f x ρ) fun o ρ1 => match o with | some d => J (i + 1) (acc ++ [d]) (wipeD ρ1 own) | none => J (i + 1) acc (wipeD ρ1 own)) (hl : xs.length ≤ lim)
    (hd : ∀ acc ρ, acc.length ≤ xs.length → J xs.length acc ρ → QA acc ρ) : WR (lcLoop f own xs [] ρ0) QA := by
  have go : ∀ (ys : List D) (i : Nat) (acc : List D) (ρ : Env'), xs.drop i = ys → i ≤ xs.length → acc.length ≤ i → J i acc ρ → WR (lcLoop f own ys acc ρ) QA := by
    intro ys
    induction ys with
    | nil =>
      intro i acc ρ hy hi ha hj
      have : i = xs.length := by
        have := congrArg List.length hy
        simp at this; omega
      subst this
      exact ⟨acc, ρ, by simp only [lcLoop], hd acc ρ ha hj⟩
    | cons y ys ih =>
      intro i acc ρ hy hi ha hj
      have hlt : i < xs.length := by
        have := congrArg List.length hy
        simp at this; omega
      have hx : xs[i]? = some y ∧ xs.drop (i + 1) = ys := by
        rw [List.drop_eq_getElem_cons hlt] at hy
        cases hy
        exact ⟨List.getElem?_eq_getElem hlt, rfl⟩
      obtain ⟨o, ρ1, e, q⟩ := hs i y acc ρ hx.1 ha hj
      cases o with
      | some d =>
        obtain ⟨a, ρ2, e2, q2⟩ := ih (i + 1) (acc ++ [d]) _ hx.2 hlt (by simp; omega) q
        exact ⟨a, ρ2, by simp only [lcLoop, e, show acc.length < lim from by omega, if_true, e2], q2⟩
      | none =>
        obtain ⟨a, ρ2, e2, q2⟩ := ih (i + 1) acc _ hx.2 hlt (by omega) q
        exact ⟨a, ρ2, by simp only [lcLoop, e, e2], q2⟩
  exact go xs 0 [] ρ0 rfl (Nat.zero_le _) (Nat.zero_le _) h0
theorem W_lcF {el : E} {t : T} {x : D} {ρ' : Env'} {QO : Option D → Env' → Prop} (hp : t.put x ρ = some ρ') (q : WR (ev call el ρ') fun d ρ3 => (!shares el || d.pure) = true ∧ QO (some d) ρ3) : WR (lcF call el t [] x ρ) QO := by
  obtain ⟨d, ρ3, e, c, q⟩ := q
  exact ⟨some d, ρ3, by simp only [lcF, hp, lcTests, R.bind, if_true, e, c], q⟩
theorem W_lcF1 {el c : E} {t : T} {x : D} {ρ' : Env'} {QO : Option D → Env' → Prop} (hp : t.put x ρ = some ρ') (q : WR (ev call c ρ') fun b ρ2 => ∃ u, truD b = some u ∧ (u = true → WR (ev call el ρ2) fun d ρ3 => (!shares el || d.pure) = true ∧ QO (some d) ρ3) ∧ (u = false → QO none ρ2)) : WR (lcF call el t [c] x ρ) QO := by
  obtain ⟨b, ρ2, e, u, hu, h1, h2⟩ := q
  cases u with
  | true =>
    obtain ⟨d, ρ3, e3, cc, q⟩ := h1 rfl
    exact ⟨some d, ρ3, by simp only [lcF, hp, lcTests, e, R.bind, hu, R.of, if_true, e3, cc], q⟩
  | false => exact ⟨none, ρ2, by simp [lcF, hp, lcTests, e, R.bind, hu, R.of], h2 rfl⟩
/-! operations -/
theorem O_any {o : Option D} {Qd : D → Prop} {d : D} (h : o = some d) (q : Qd d) : WO o Qd := ⟨d, h, q⟩
variable {Qd : D → Prop}
theorem O_mod {i j : Int} (h : 0 < j) (q : Qd (.int (i % j))) : WO (opD (.bin .Mod) [.int i, .int j]) Qd := ⟨_, by simp only [opD, binO, modO, h, if_true], q⟩
theorem O_div {i j : Int} (h : 0 < j ∧ j < 1073741824) (q : Qd (.int (i / j))) : WO (opD (.bin .FloorDiv) [.int i, .int j]) Qd := ⟨_, by simp only [opD, binO, divO, h, and_self, if_true], q⟩
theorem O_mulR {i j : Int} (h : -(2 ^ 64) < j ∧ j < 2 ^ 64) (q : Qd (.int (i * j))) : WO (opD (.bin .Mult) [.int i, .int j]) Qd := ⟨_, by simp only [opD, binO, mulO]; rw [if_pos]; simp only [Bool.or_eq_true, decide_eq_true_eq]; exact .inr h, q⟩
theorem O_addS {x y : List Nat} (h : x.length + y.length ≤ lim) (q : Qd (.str (x ++ y))) : WO (opD (.bin .Add) [.str x, .str y]) Qd := ⟨_, by simp only [opD, binO, addO, h, if_true], q⟩
theorem O_addL {m m' : Bool} {x y : List D} (h1 : pureL x = true) (h2 : pureL y = true) (h : x.length + y.length ≤ lim) (q : Qd (.lst true (x ++ y))) : WO (opD (.bin .Add) [.lst m x, .lst m' y]) Qd := ⟨_, by simp only [opD, binO, addO, h1, h2, h, decide_true, Bool.and_self, if_true], q⟩
theorem O_ixL {m : Bool} {xs : List D} {i : Int} {d : D} (h : atI xs i = some d) (q : Qd d) : WO (opD .ix [.lst m xs, .int i]) Qd := ⟨d, by simp only [opD]; exact h, q⟩
theorem O_ixT {xs : List D} {i : Int} {d : D} (h : atI xs i = some d) (q : Qd d) : WO (opD .ix [.tup xs, .int i]) Qd := ⟨d, by simp only [opD]; exact h, q⟩
theorem O_ixS {x : List Nat} {i : Int} {c : Nat} (hl : x.length ≤ lim) (h : atI x i = some c) (q : Qd (.str [c])) : WO (opD .ix [.str x, .int i]) Qd := ⟨_, by simp only [opD, hl, if_true, atD, h, Option.map_some], q⟩
theorem O_lenS {x : List Nat} (hl : x.length ≤ lim) (q : Qd (.int x.length)) : WO (opD (.fn .len) [.str x]) Qd := ⟨_, by simp only [opD, fnO, lenO, hl, if_true], q⟩
theorem O_slToS {x : List Nat} {k : Nat} (hl : x.length ≤ lim) (q : Qd (.str (x.take k))) : WO (opD (.sl false true) [.str x, .int (k : Int)]) Qd := ⟨_, by simp only [opD, slO, hl, if_true, cut_to], q⟩
theorem O_slFromS {x : List Nat} {k : Nat} (hl : x.length ≤ lim) (q : Qd (.str (x.drop k))) : WO (opD (.sl true false) [.str x, .int (k : Int)]) Qd := ⟨_, by simp only [opD, slO, hl, if_true, cut_from], q⟩
theorem O_slMidS {x : List Nat} {k l : Nat} (hl : x.length ≤ lim) (h : l ≤ x.length) (q : Qd (.str ((x.drop k).take (l - k)))) : WO (opD (.sl true true) [.str x, .int (k : Int), .int (l : Int)]) Qd := ⟨_, by simp only [opD, slO, hl, if_true, cut_mid _ _ _ h], q⟩
theorem O_slToL {m : Bool} {x : List D} {k : Nat} (hp : pureL x = true) (q : Qd (.lst true (x.take k))) : WO (opD (.sl false true) [.lst m x, .int (k : Int)]) Qd := ⟨_, by simp only [opD, slO, hp, if_true, cut_to], q⟩
theorem O_slFromL {m : Bool} {x : List D} {k : Nat} (hp : pureL x = true) (q : Qd (.lst true (x.drop k))) : WO (opD (.sl true false) [.lst m x, .int (k : Int)]) Qd := ⟨_, by simp only [opD, slO, hp, if_true, cut_from], q⟩
theorem O_eqI {i j : Int} (q : Qd (.bl (i == j))) : WO (opD (.cmp .Eq) [.int i, .int j]) Qd := ⟨_, by simp only [opD, cmpO, cmpB, eq_int, Option.map_some], q⟩
theorem O_neI {i j : Int} (q : Qd (.bl (!(i == j)))) : WO (opD (.cmp .NotEq) [.int i, .int j]) Qd := ⟨_, by simp only [opD, cmpO, cmpB, eq_int, Option.map_some], q⟩
theorem O_eqS {i j : List Nat} (q : Qd (.bl (decide (i = j)))) : WO (opD (.cmp .Eq) [.str i, .str j]) Qd := ⟨_, by simp only [opD, cmpO, cmpB, eq_str, Option.map_some], q⟩
theorem O_neS {i j : List Nat} (q : Qd (.bl (!decide (i = j)))) : WO (opD (.cmp .NotEq) [.str i, .str j]) Qd := ⟨_, by simp only [opD, cmpO, cmpB, eq_str, Option.map_some], q⟩
/-! statements -/
theorem X_nil (q : k.nx ρ) : WX (exs call [] ρ) k := ⟨by simpa only [exs, WXd] using q⟩
theorem X_cons {s : S} {r : List S} (q : WX (ex call s ρ) { k with nx := fun ρ' => WX (exs call r ρ') k }) : WX (exs call (s :: r) ρ) k := by
  simp only [exs]
  cases h : ex call s ρ with
  | nx ρ' => rw [h] at q; exact q.out
  | ret d ρ' => rw [h] at q; exact ⟨q.out⟩
  | brk ρ' => rw [h] at q; exact ⟨q.out⟩
  | cont ρ' => rw [h] at q; exact ⟨q.out⟩
  | err x ρ' => rw [h] at q; exact q.out.elim
  | bad => rw [h] at q; exact q.out.elim
theorem X_asg {t : T} {e : E} (q : WR (ev call e ρ) fun d ρ1 => (!shares e || d.pure) = true ∧ ∃ ρ2, t.put d ρ1 = some ρ2 ∧ k.nx ρ2) : WX (ex call (.asg t e) ρ) k := by
  obtain ⟨d, ρ1, e1, c, ρ2, hp, q⟩ := q
  simp only [ex, e1, R.sbind, c, if_true, hp]; exact ⟨q⟩
theorem X_multi {is : List Nat} {es : List E} (q : WR (evC call es ρ) fun ds ρ1 => ∃ ρ2, putAll is ds ρ1 = some ρ2 ∧ k.nx ρ2) : WX (ex call (.multi is es) ρ) k := by
  obtain ⟨ds, ρ1, e1, ρ2, hp, q⟩ := q
  simp only [ex, e1, R.sbind, hp]; exact ⟨q⟩
theorem X_aug {i : Nat} {o : Operator} {e : E} {d0 : D} (h0 : ρ[i]? = some (some d0)) (q : WR (ev call e ρ) fun d ρ1 => ∃ x, ρ1[i]? = some (some x) ∧ flat2 x = true ∧ WO (binO o x d) fun y => k.nx (ρ1.set i (some y))) : WX (ex call (.aug i o e) ρ) k := by
  obtain ⟨d, ρ1, e1, x, h1, hf, y, hy, q⟩ := q
  simp only [ex, h0, e1, R.sbind, h1, hf, if_true, hy]; exact ⟨q⟩
theorem X_expr {e : E} (q : WR (ev call e ρ) fun _ ρ1 => k.nx ρ1) : WX (ex call (.expr e) ρ) k := by
  obtain ⟨d, ρ1, e1, q⟩ := q
  simp only [ex, e1, R.sbind]; exact ⟨q⟩
theorem X_store {i : Nat} {ps : List E} {ix e : E} (q : WR (ev call e ρ) fun d ρ1 => ∃ x, ρ1[i]? = some (some x) ∧ ((!shares e || d.pure) && quietL ps && quiet ix) = true ∧ WR (evR call ps ρ1) fun is ρ2 => ∃ js, intsO is = some js ∧ isPath js x = true ∧ WR (ev call ix ρ2) fun kk ρ3 => ∃ j, kk = .int j ∧ ∃ x' r, atPath (setO j d) js x = some (x', r) ∧ k.nx (ρ3.set i (some x'))) : WX (ex call (.store i ps ix e) ρ) k := by
  obtain ⟨d, ρ1, e1, x, h1, c, is, ρ2, e2, js, hj, hp, kk, ρ3, e3, j, rfl, x', r, hs, q⟩ := q
  simp only [ex, e1, R.sbind, h1, c, if_true, e2, hj, hp, e3, hs]; exact ⟨q⟩
theorem X_ifs {c : E} {a b : List S} (q : WR (ev call c ρ) fun d ρ1 => ∃ t, truD d = some t ∧ (t = true → WX (exs call a ρ1) k) ∧ (t = false → WX (exs call b ρ1) k)) : WX (ex call (.ifs c a b) ρ) k := by
  obtain ⟨d, ρ1, e1, t, ht, h1, h2⟩ := q
  simp only [ex, e1, R.sbind, ht]
  cases t with
  | true => exact h1 rfl
  | false => exact h2 rfl
theorem X_ret {e : E} (q : WR (ev call e ρ) fun d ρ1 => (!shares e || d.pure) = true ∧ k.rt d ρ1) : WX (ex call (.ret e) ρ) k := by
  obtain ⟨d, ρ1, e1, c, q⟩ := q
  simp only [ex, e1, R.sbind, c, if_true]; exact ⟨q⟩
theorem X_for {t : T} {kk : ItK} {es : List E} {b : List S} (q : WR (evC call es ρ) fun ds ρ1 => canL ds = true ∧ ∃ xs, itD kk (frzL ds) = some xs ∧ ∃ J : Nat → Env' → Prop, J 0 ρ1 ∧ (∀ i x ρ, xs[i]? = some x → J i ρ → ∃ ρ', t.put x ρ = some ρ' ∧ WX (exs call b ρ') { k with nx := J (i + 1), ct := J (i + 1), bk := k.nx }) ∧ ∀ ρ, J xs.length ρ → k.nx ρ) : WX (ex call (.fors t kk es b) ρ) k := by
  obtain ⟨ds, ρ1, e1, c, xs, hx, J, h0, hs, hd⟩ := q
  simp only [ex, e1, R.sbind, c, if_true, hx]
  have go : ∀ (ys : List D) (i : Nat) (ρ : Env'), xs.drop i = ys → i ≤ xs.length → J i ρ → WX (forLoop (fun x ρ => match t.put x ρ with
      | some ρ' => exs call b ρ'
      | none => .bad) ys ρ) k := by
    intro ys
    induction ys with
    | nil =>
      intro i ρ hy hi hj
      have : i = xs.length := by
        have := congrArg List.length hy
        simp at this; omega
      subst this
      simp only [forLoop]; exact ⟨hd ρ hj⟩
    | cons y ys ih =>
      intro i ρ hy hi hj
      have hlt : i < xs.length := by
        have := congrArg List.length hy
        simp at this; omega
      have hx : xs[i]? = some y ∧ xs.drop (i + 1) = ys := by
        rw [List.drop_eq_getElem_cons hlt] at hy
        cases hy
        exact ⟨List.getElem?_eq_getElem hlt, rfl⟩
      obtain ⟨ρ', hp, w⟩ := hs i y ρ hx.1 hj
      simp only [forLoop, hp]
      cases hb : exs call b ρ' with
      | nx ρ2 => rw [hb] at w; exact ih (i + 1) ρ2 hx.2 hlt w.out
      | cont ρ2 => rw [hb] at w; exact ih (i + 1) ρ2 hx.2 hlt w.out
      | brk ρ2 => rw [hb] at w; exact ⟨w.out⟩
      | ret d ρ2 => rw [hb] at w; exact ⟨w.out⟩
      | err x ρ2 => rw [hb] at w; exact w.out.elim
      | bad => rw [hb] at w; exact w.out.elim
  exact go xs 0 ρ1 rfl (Nat.zero_le _) h0
end
theorem and_le {a b : Nat} {q : Prop} (h : a ≤ b) (hq : q) : a ≤ b ∧ q := ⟨h, hq⟩
theorem and_bt {b : Bool} {q : Prop} (h : b = true) (hq : q) : b = true ∧ q := ⟨h, hq⟩
/-- a def's run by its body's -/
theorem F_run {t : Str → Option FD} {n : Nat} {f : Str} {fd : FD} {ds : List D} {Q : D → List (Option D) → Prop} (h : t f = some fd) (hl : ds.length = fd.np)
    (q : WX (exs (run t n) fd.body (ds.map some ++ List.replicate (fd.ns - ds.length) none)) { nx := fun ρ => Q .non (outsOf ρ fd.io), rt := fun d ρ => Q d (outsOf ρ fd.io) }) : ∃ d outs, run t (n + 1) f ds = .ok d outs ∧ Q d outs := by
  rw [run_eq h hl]
  cases hr : exs (run t n) fd.body (ds.map some ++ List.replicate (fd.ns - ds.length) none) with
  | nx ρ => rw [hr] at q; exact ⟨_, _, rfl, q.out⟩
  | ret d ρ => rw [hr] at q; exact ⟨_, _, rfl, q.out⟩
  | brk ρ => rw [hr] at q; exact q.out.elim
  | cont ρ => rw [hr] at q; exact q.out.elim
  | err x ρ => rw [hr] at q; exact q.out.elim
  | bad => rw [hr] at q; exact q.out.elim
end VI

namespace VI
open PySem L2
section
variable {call : CallT} {ρ : Env'} {Q : D → Env' → Prop}
theorem W_useI {i : Nat} {d : Int} (h : ρ[i]? = some (some (.int d))) (q : Q (.int d) (ρ.set i (some (.int d)))) : WR (ev call (.use i) ρ) Q := by
  refine W_use h rfl ?_
  rw [frz_int]; exact q
theorem W_useS {i : Nat} {d : List Nat} (h : ρ[i]? = some (some (.str d))) (q : Q (.str d) (ρ.set i (some (.str d)))) : WR (ev call (.use i) ρ) Q := by
  refine W_use h rfl ?_
  rw [frz_str]; exact q
theorem W_useL {i : Nat} {m : Bool} {d : List D} (h : ρ[i]? = some (some (.lst m d))) (hp : pureL d = true) (q : Q (.lst false d) (ρ.set i (some (.lst false d)))) : WR (ev call (.use i) ρ) Q := by
  refine W_use h (by simp only [D.can]; exact pureL_can hp) ?_
  have : (D.lst m d).frz = .lst false d := by simp only [D.frz, frzL_of_pure hp]
  rw [this]; exact q
theorem W_useT {i : Nat} {d : List D} (h : ρ[i]? = some (some (.tup d))) (hp : pureL d = true) (q : Q (.tup d) (ρ.set i (some (.tup d)))) : WR (ev call (.use i) ρ) Q := by
  have hp' : (D.tup d).pure = true := by simp only [D.pure]; exact hp
  refine W_use h (D.pure_can hp') ?_
  rw [D.frz_of_pure hp']; exact q
end
inductive Ed where
  | cut (a n : Nat) | put (a : Nat) (w : List Nat)
def Ed.d : Ed → D
  | .cut a n => .tup [.str [99, 117, 116], .int (a : Int), .int (n : Int)]
  | .put a w => .tup [.str [112, 117, 116], .int (a : Int), .str w]
def gd (s : List Nat) : Prop := ∀ c ∈ s, 32 ≤ c ∧ c ≤ 126
def Ed.ok : Ed → List Nat → Prop
  | .cut a n, s => 1 ≤ n ∧ a + n ≤ s.length
  | .put a w, s => a ≤ s.length ∧ w ≠ [] ∧ s.length + w.length ≤ 80 ∧ gd w
def Ed.app : Ed → List Nat → List Nat
  | .cut a n, s => s.take a ++ s.drop (a + n)
  | .put a w, s => s.take a ++ w ++ s.drop a
def Ed.inv : Ed → List Nat → Ed
  | .cut a n, s => .put a ((s.drop a).take n)
  | .put a w, s => .cut a w.length
def apps : List Ed → List Nat → List Nat
  | [], s => s
  | e :: es, s => apps es (e.app s)
def okAll : List Ed → List Nat → Prop
  | [], _ => True
  | e :: es, s => e.ok s ∧ okAll es (e.app s)
def steps : List Ed → List Nat → List (List Nat)
  | [], s => [s]
  | e :: es, s => s :: steps es (e.app s)
def invs : List Ed → List Nat → List Ed
  | [], _ => []
  | e :: es, s => invs es (e.app s) ++ [e.inv s]
def amt : Ed → Nat
  | .cut _ n => n
  | .put _ w => w.length
theorem pure_ed (e : Ed) : e.d.pure = true := by cases e <;> simp [Ed.d, D.pure, pureL]
theorem pure_es : ∀ es : List Ed, pureL (es.map Ed.d) = true
  | [] => rfl
  | e :: es => by simp only [List.map_cons, pureL, pure_ed, pure_es es, Bool.and_self]
theorem pure_strs : ∀ es : List (List Nat), pureL (es.map D.str) = true
  | [] => rfl
  | e :: es => by simp only [List.map_cons, pureL, D.pure, pure_strs es, Bool.and_self]
theorem gd_app {a b : List Nat} (h : gd a) (h' : gd b) : gd (a ++ b) := fun c hc => (List.mem_append.mp hc).elim (h c) (h' c)
theorem gd_take {a : List Nat} (h : gd a) (n : Nat) : gd (a.take n) := fun c hc => h c (List.mem_of_mem_take hc)
theorem gd_drop {a : List Nat} (h : gd a) (n : Nat) : gd (a.drop n) := fun c hc => h c (List.mem_of_mem_drop hc)
theorem app_good {e : Ed} {s : List Nat} (h : e.ok s) (hs : s.length ≤ 80) (g : gd s) : (e.app s).length ≤ 80 ∧ gd (e.app s) := by
  cases e with
  | cut a n =>
    obtain ⟨h1, h2⟩ := h
    refine ⟨?_, gd_app (gd_take g _) (gd_drop g _)⟩
    simp only [Ed.app, List.length_append, List.length_take, List.length_drop]; omega
  | put a w =>
    obtain ⟨h1, h2, h3, h4⟩ := h
    refine ⟨?_, gd_app (gd_app (gd_take g _) h4) (gd_drop g _)⟩
    simp only [Ed.app, List.length_append, List.length_take, List.length_drop]; omega
theorem apps_app : ∀ (es fs : List Ed) (s : List Nat), apps (es ++ fs) s = apps fs (apps es s)
  | [], _, _ => rfl
  | e :: es, fs, s => apps_app es fs _
theorem okAll_app : ∀ (es fs : List Ed) (s : List Nat), okAll (es ++ fs) s ↔ okAll es s ∧ okAll fs (apps es s)
  | [], _, _ => by simp [okAll, apps]
  | e :: es, fs, s => by simp only [List.cons_append, okAll, okAll_app es fs, apps, and_assoc]
theorem apps_good : ∀ {es : List Ed} {s : List Nat}, okAll es s → s.length ≤ 80 → gd s → (apps es s).length ≤ 80 ∧ gd (apps es s)
  | [], s, _, h, g => ⟨h, g⟩
  | e :: es, s, ho, h, g => apps_good (es := es) (s := e.app s) ho.2 (app_good ho.1 h g).1 (app_good ho.1 h g).2
/-- back -/
theorem inv_app {e : Ed} {s : List Nat} (h : e.ok s) : (e.inv s).app (e.app s) = s := by
  cases e with
  | cut a n =>
    obtain ⟨h1, h2⟩ := h
    simp only [Ed.inv, Ed.app]
    rw [List.take_append_of_le_length (by simp; omega), List.take_take, Nat.min_self, List.drop_append_of_le_length (by simp; omega)]
    have : (s.take a).drop a = [] := List.drop_of_length_le (by simp; omega)
    rw [this, List.nil_append, List.append_assoc]
    have h3 : (s.drop a).take n ++ s.drop (a + n) = s.drop a := by rw [← List.drop_drop]; exact List.take_append_drop n _
    rw [h3]; exact List.take_append_drop a s
  | put a w =>
    obtain ⟨h1, h2, h3, h4⟩ := h
    simp only [Ed.inv, Ed.app]
    have l1 : (s.take a).length = a := by simp; omega
    rw [List.append_assoc, List.take_append_of_le_length (by omega), List.take_take, Nat.min_self]
    have : (s.take a ++ (w ++ s.drop a)).drop (a + w.length) = s.drop a := by
      rw [← List.append_assoc, List.drop_append_of_le_length (by simp; omega)]
      have : (s.take a ++ w).drop (a + w.length) = [] := List.drop_of_length_le (by simp; omega)
      rw [this]; rfl
    rw [this]; exact List.take_append_drop a s
theorem inv_ok {e : Ed} {s : List Nat} (h : e.ok s) (hs : s.length ≤ 80) (g : gd s) : (e.inv s).ok (e.app s) := by
  cases e with
  | cut a n =>
    obtain ⟨h1, h2⟩ := h
    refine ⟨?_, ?_, ?_, gd_take (gd_drop g _) _⟩
    · simp only [Ed.app, List.length_append, List.length_take, List.length_drop]; omega
    · intro z
      have := congrArg List.length z
      simp at this; omega
    · simp only [Ed.app, List.length_append, List.length_take, List.length_drop]; omega
  | put a w =>
    obtain ⟨h1, h2, h3, h4⟩ := h
    have : w.length ≠ 0 := fun z => h2 (List.length_eq_zero_iff.mp z)
    refine ⟨by omega, ?_⟩
    simp only [Ed.app, List.length_append, List.length_take, List.length_drop]; omega
theorem inv_inv {e : Ed} {s : List Nat} (h : e.ok s) : (e.inv s).inv (e.app s) = e := by
  cases e with
  | cut a n =>
    obtain ⟨h1, h2⟩ := h
    simp only [Ed.inv]
    congr 1
    simp; omega
  | put a w =>
    obtain ⟨h1, h2, h3, h4⟩ := h
    simp only [Ed.inv, Ed.app]
    congr 1
    have l1 : (s.take a).length = a := by simp; omega
    rw [List.append_assoc, List.drop_append_of_le_length (by omega)]
    have : (s.take a).drop a = [] := List.drop_of_length_le (by omega)
    rw [this, List.nil_append, List.take_append_of_le_length (Nat.le_refl _), List.take_length]
theorem invs_ok : ∀ {es : List Ed} {s : List Nat}, okAll es s → s.length ≤ 80 → gd s → okAll (invs es s) (apps es s) ∧ apps (invs es s) (apps es s) = s
  | [], s, _, _, _ => ⟨trivial, rfl⟩
  | e :: es, s, h, hs, g => by
    obtain ⟨g1, g2⟩ := app_good h.1 hs g
    obtain ⟨i1, i2⟩ := invs_ok h.2 g1 g2
    simp only [invs, apps]
    refine ⟨(okAll_app _ _ _).mpr ⟨i1, ?_⟩, ?_⟩
    · rw [i2]; exact ⟨inv_ok h.1 hs g, trivial⟩
    · rw [apps_app, i2]; exact inv_app h.1
theorem invs_app : ∀ (es fs : List Ed) (s : List Nat), invs (es ++ fs) s = invs fs (apps es s) ++ invs es s
  | [], fs, s => by simp [invs, apps]
  | e :: es, fs, s => by simp only [List.cons_append, invs, invs_app es fs, apps, List.append_assoc]
theorem invs_invs : ∀ {es : List Ed} {s : List Nat}, okAll es s → s.length ≤ 80 → gd s → invs (invs es s) (apps es s) = es
  | [], s, _, _, _ => rfl
  | e :: es, s, h, hs, g => by
    obtain ⟨g1, g2⟩ := app_good h.1 hs g
    have ih := invs_invs h.2 g1 g2
    obtain ⟨i1, i2⟩ := invs_ok h.2 g1 g2
    simp only [invs, apps]
    rw [invs_app, ih, i2]
    simp only [invs, inv_inv h.1, List.nil_append, List.singleton_append]
theorem invs_len : ∀ (es : List Ed) (s : List Nat), (invs es s).length = es.length
  | [], _ => rfl
  | e :: es, s => by simp [invs, invs_len es]
theorem amt_inv {e : Ed} {s : List Nat} (h : e.ok s) : amt (e.inv s) = amt e := by
  cases e with
  | cut a n => obtain ⟨h1, h2⟩ := h; simp [Ed.inv, amt]; omega
  | put a w => rfl
theorem amt_invs : ∀ {es : List Ed} {s : List Nat}, okAll es s → ((invs es s).map amt).sum = (es.map amt).sum
  | [], _, _ => rfl
  | e :: es, s, h => by simp only [invs, List.map_append, List.sum_append, amt_invs h.2, List.map_cons, List.map_nil, List.sum_cons, List.sum_nil, amt_inv h.1]; omega
theorem steps_last : ∀ (es : List Ed) (s : List Nat), (steps es s)[(steps es s).length - 1]? = some (apps es s) ∧ (steps es s).length = es.length + 1
  | [], s => ⟨rfl, rfl⟩
  | e :: es, s => by
    obtain ⟨h1, h2⟩ := steps_last es (e.app s)
    refine ⟨?_, by simp [steps, h2]⟩
    simp only [steps, List.length_cons, h2, Nat.add_sub_cancel] at h1 ⊢
    rw [List.getElem?_cons_succ]; exact h1
theorem steps_snoc : ∀ (es : List Ed) (e : Ed) (s : List Nat), steps (es ++ [e]) s = steps es s ++ [e.app (apps es s)]
  | [], _, _ => rfl
  | f :: es, e, s => by simp only [List.cons_append, steps, steps_snoc es, apps]
theorem at_last {α : Type} {xs : List α} {x : α} (h : xs[xs.length - 1]? = some x) : atI xs (-1) = some x := by
  have hl : xs.length - 1 < xs.length := (List.getElem?_eq_some_iff.mp h).1
  unfold atI ixN
  rw [if_neg (by decide), if_pos (by omega)]
  have : (-1 + (xs.length : Int)).toNat = xs.length - 1 := by omega
  rw [this]; exact h
theorem strs_one : ∀ cs : List Nat, strsO (cs.map fun c => D.str [c]) = some (cs.map fun c => [c])
  | [] => rfl
  | c :: cs => by simp [strsO, strs_one cs]
theorem join_one : ∀ cs : List Nat, joinS [] (cs.map fun c => [c]) = cs
  | [] => rfl
  | [c] => rfl
  | c :: d :: cs => by
    have := join_one (d :: cs)
    simp only [List.map_cons, joinS] at this ⊢
    rw [this]; rfl
theorem sum_one : ∀ cs : List Nat, ((cs.map fun c => [c]).map (·.length)).sum = cs.length
  | [] => rfl
  | c :: cs => by simp only [List.map_cons, List.sum_cons, sum_one cs, List.length_cons, List.length_nil]; omega
theorem rng_nat (k : Nat) (h : k ≤ 1000) : itD .rng (frzL [.int (k : Int)]) = some (rngO 0 k) := by
  have h1 : frzL [D.int (k : Int)] = [D.int (k : Int)] := by simp [frzL, D.frz]
  rw [h1]
  have h2 : in62 (k : Int) = true := by
    unfold in62
    simp only [Bool.and_eq_true, decide_eq_true_eq]
    omega
  simp only [itD, rngs, h2, if_true]
theorem I_rng {k : Nat} {P : List D → Prop} (h : k ≤ 1000) (q : P (rngO 0 (k : Int))) : ∃ xs, itD .rng (frzL [.int (k : Int)]) = some xs ∧ P xs := ⟨_, rng_nat k h, q⟩
theorem I_rngC {k : Nat} {P : List D → Prop} (h : Nat.ble k 1000 = true) (q : P (rngO 0 (OfNat.ofNat k))) : ∃ xs, itD .rng (frzL [.int (OfNat.ofNat k)]) = some xs ∧ P xs := ⟨_, rng_nat k (Nat.le_of_ble_eq_true h), q⟩
theorem pure_chars : ∀ cs : List Nat, pureL (cs.map fun c => D.str [c]) = true
  | [] => rfl
  | c :: cs => by simp [pureL, D.pure, pure_chars cs]
end VI
namespace VI
open PySem L2
theorem O_slFromS2 {x : List Nat} {a n : Nat} {Qd : D → Prop} (hl : x.length ≤ lim) (q : Qd (.str (x.drop (a + n)))) : WO (opD (.sl true false) [.str x, .int ((a : Int) + (n : Int))]) Qd := by
  have : (a : Int) + (n : Int) = ((a + n : Nat) : Int) := by omega
  rw [this]; exact O_slFromS hl q
theorem O_slMidS2 {x : List Nat} {a n : Nat} {Qd : D → Prop} (hl : x.length ≤ lim) (h : a + n ≤ x.length) (q : Qd (.str ((x.drop a).take n))) : WO (opD (.sl true true) [.str x, .int (a : Int), .int ((a : Int) + (n : Int))]) Qd := by
  have : (a : Int) + (n : Int) = ((a + n : Nat) : Int) := by omega
  rw [this]
  refine O_slMidS hl h ?_
  rw [Nat.add_sub_cancel_left]; exact q
theorem I_app {xs : List D} {d : D} {P : D → D → Prop} (h : xs.length < lim) (q : P (.lst true (xs ++ [d])) .non) : ∃ d' r, moD .append (.lst true xs) [d] = some (d', r) ∧ P d' r := ⟨_, _, by simp only [moD, h, if_true], q⟩
theorem O_slToS2 {x : List Nat} {n : Nat} {Qd : D → Prop} (hl : x.length ≤ lim) (q : Qd (.str (x.take (1 + n)))) : WO (opD (.sl false true) [.str x, .int ((1 : Int) + (n : Int))]) Qd := by
  have : (1 : Int) + (n : Int) = ((1 + n : Nat) : Int) := by omega
  rw [this]; exact O_slToS hl q
theorem lt1p (a b : Nat) : ([a] < [b]) = (a < b) := by
  rw [eq_iff_iff]
  simp [List.cons_lt_cons_iff]
end VI

namespace VI
/-- how many signs can be kept at the most -/
def lcs : List Nat → List Nat → Nat
  | [], _ => 0
  | _ :: _, [] => 0
  | x :: xs, y :: ys => if x = y then lcs xs ys + 1 else Nat.max (lcs xs (y :: ys)) (lcs (x :: xs) ys)
termination_by a b => a.length + b.length
theorem lcs_nil (b : List Nat) : lcs [] b = 0 := by simp [lcs]
theorem lcs_nil' (b : List Nat) : lcs b [] = 0 := by cases b <;> simp [lcs]
theorem lcs_eq (x : Nat) (xs ys : List Nat) : lcs (x :: xs) (x :: ys) = lcs xs ys + 1 := by rw [lcs]; simp
theorem lcs_ne {x y : Nat} (h : x ≠ y) (xs ys : List Nat) : lcs (x :: xs) (y :: ys) = max (lcs xs (y :: ys)) (lcs (x :: xs) ys) := by rw [lcs]; simp [h, Nat.max_def]
theorem lcs_has : ∀ (a b : List Nat), ∃ c : List Nat, c.Sublist a ∧ c.Sublist b ∧ c.length = lcs a b
  | [], b => ⟨[], List.nil_sublist _, List.nil_sublist _, (lcs_nil b).symm⟩
  | x :: xs, [] => ⟨[], List.nil_sublist _, List.nil_sublist _, (lcs_nil' _).symm⟩
  | x :: xs, y :: ys => by
    by_cases h : x = y
    · subst h
      obtain ⟨c, h1, h2, h3⟩ := lcs_has xs ys
      exact ⟨x :: c, h1.cons_cons x, h2.cons_cons x, by rw [lcs_eq]; simp [h3]⟩
    · rw [lcs_ne h]
      rcases Nat.le_total (lcs xs (y :: ys)) (lcs (x :: xs) ys) with k | k
      · rw [Nat.max_eq_right k]
        obtain ⟨c, h1, h2, h3⟩ := lcs_has (x :: xs) ys
        exact ⟨c, h1, h2.cons y, h3⟩
      · rw [Nat.max_eq_left k]
        obtain ⟨c, h1, h2, h3⟩ := lcs_has xs (y :: ys)
        exact ⟨c, h1.cons x, h2, h3⟩
termination_by a b => a.length + b.length
theorem lcs_ub : ∀ (a b c : List Nat), c.Sublist a → c.Sublist b → c.length ≤ lcs a b
  | [], b, c, h, _ => by cases h; simp
  | x :: xs, [], c, _, h => by cases h; simp
  | x :: xs, y :: ys, c, h1, h2 => by
    by_cases h : x = y
    · subst h
      rw [lcs_eq]
      cases c with
      | nil => simp
      | cons z zs =>
        have a1 : zs.Sublist xs := by
          cases h1 with
          | cons _ h => exact (List.sublist_cons_self z zs).trans h
          | cons_cons _ h => exact h
        have a2 : zs.Sublist ys := by
          cases h2 with
          | cons _ h => exact (List.sublist_cons_self z zs).trans h
          | cons_cons _ h => exact h
        have := lcs_ub xs ys zs a1 a2
        simp; omega
    · rw [lcs_ne h]
      cases h1 with
      | cons _ k =>
        exact Nat.le_trans (lcs_ub xs (y :: ys) c k h2) (Nat.le_max_left _ _)
      | cons_cons _ k =>
        cases h2 with
        | cons _ k2 => exact Nat.le_trans (lcs_ub (x :: xs) ys _ (k.cons_cons _) k2) (Nat.le_max_right _ _)
        | cons_cons _ k2 => exact absurd rfl h
termination_by a b => a.length + b.length
theorem lcs_le_l (a b : List Nat) : lcs a b ≤ a.length := let ⟨c, h1, h2, h3⟩ := lcs_has a b; h3 ▸ h1.length_le
theorem lcs_le_r (a b : List Nat) : lcs a b ≤ b.length := let ⟨c, h1, h2, h3⟩ := lcs_has a b; h3 ▸ h2.length_le
theorem lcs_le_symm (a b : List Nat) : lcs a b ≤ lcs b a := let ⟨c, h1, h2, h3⟩ := lcs_has a b; h3 ▸ lcs_ub b a c h2 h1
theorem lcs_symm (a b : List Nat) : lcs a b = lcs b a := Nat.le_antisymm (lcs_le_symm a b) (lcs_le_symm b a)
theorem lcs_le_rev (a b : List Nat) : lcs a b ≤ lcs a.reverse b.reverse := let ⟨c, h1, h2, h3⟩ := lcs_has a b; by
  have := lcs_ub a.reverse b.reverse c.reverse h1.reverse h2.reverse
  simp at this; omega
theorem lcs_rev (a b : List Nat) : lcs a.reverse b.reverse = lcs a b := by
  have h1 := lcs_le_rev a b
  have h2 := lcs_le_rev a.reverse b.reverse
  simp only [List.reverse_reverse] at h2
  omega
theorem lcs_self (a : List Nat) : lcs a a = a.length := by
  have h1 := lcs_le_l a a
  have h2 := lcs_ub a a a (List.Sublist.refl _) (List.Sublist.refl _)
  omega
theorem lcs_pre : ∀ (a b c : List Nat), lcs (a ++ b) (a ++ c) = a.length + lcs b c
  | [], b, c => by simp
  | x :: a, b, c => by simp only [List.cons_append, lcs_eq, lcs_pre a b c, List.length_cons]; omega
theorem lcs_suf (a b c : List Nat) : lcs (b ++ a) (c ++ a) = a.length + lcs b c := by
  rw [← lcs_rev (b ++ a), List.reverse_append, List.reverse_append, lcs_pre, lcs_rev, List.length_reverse]
theorem lcs_app (a b : List Nat) : lcs a (a ++ b) = a.length := by
  have := lcs_pre a [] b
  rw [List.append_nil, lcs_nil] at this; omega
theorem sub_meet : ∀ (b c d : List Nat), c.Sublist b → d.Sublist b → ∃ e : List Nat, e.Sublist c ∧ e.Sublist d ∧ c.length + d.length ≤ b.length + e.length
  | [], c, d, h, k => by cases h; cases k; exact ⟨[], List.nil_sublist _, List.nil_sublist _, by simp⟩
  | x :: b, c, d, h, k => by
    cases h with
    | cons _ h =>
      cases k with
      | cons _ k =>
        obtain ⟨e, h1, h2, h3⟩ := sub_meet b c d h k
        exact ⟨e, h1, h2, by simp; omega⟩
      | cons_cons _ k =>
        rename_i d
        obtain ⟨e, h1, h2, h3⟩ := sub_meet b c d h k
        exact ⟨e, h1, h2.cons _, by simp; omega⟩
    | cons_cons _ h =>
      rename_i c
      cases k with
      | cons _ k =>
        obtain ⟨e, h1, h2, h3⟩ := sub_meet b c d h k
        exact ⟨e, h1.cons _, h2, by simp; omega⟩
      | cons_cons _ k =>
        rename_i d
        obtain ⟨e, h1, h2, h3⟩ := sub_meet b c d h k
        exact ⟨x :: e, h1.cons_cons _, h2.cons_cons _, by simp; omega⟩
theorem lcs_tri (a b c : List Nat) : lcs a b + lcs b c ≤ b.length + lcs a c := by
  obtain ⟨p, p1, p2, p3⟩ := lcs_has a b
  obtain ⟨q, q1, q2, q3⟩ := lcs_has b c
  obtain ⟨e, e1, e2, e3⟩ := sub_meet b p q p2 q1
  have := lcs_ub a c e (e1.trans p1) (e2.trans q2)
  omega
theorem lcs_full {a b : List Nat} (h : lcs a b = a.length) (k : lcs a b = b.length) : a = b := by
  obtain ⟨c, h1, h2, h3⟩ := lcs_has a b
  rw [← h1.eq_of_length (by omega), ← h2.eq_of_length (by omega)]
/-- how far two texts are -/
def far (a b : List Nat) : Nat := a.length + b.length - 2 * lcs a b
theorem far_eq (a b : List Nat) : far a b + 2 * lcs a b = a.length + b.length := by
  have h1 := lcs_le_l a b
  have h2 := lcs_le_r a b
  unfold far; omega
end VI
namespace VI
open PySem L2
/-- a stretch's edits -/
def closedE (b c : Nat) (p : List Nat) : List Ed := (if 0 < c then [Ed.cut b c] else []) ++ (if p = [] then [] else [Ed.put b p])
/-- the walk's edits -/
def wk : List Nat → List Nat → Nat → Nat → List Nat → List Ed
  | [], [], b, c, p => closedE b c p
  | [], y :: ys, b, c, p => wk [] ys b c (p ++ [y])
  | _ :: xs, [], b, c, p => wk xs [] b (c + 1) p
  | x :: xs, y :: ys, b, c, p => if x = y then closedE b c p ++ wk xs ys (b + p.length + 1) 0 []
      else if lcs (x :: xs) ys ≤ lcs xs (y :: ys) then wk xs (y :: ys) b (c + 1) p else wk (x :: xs) ys b c (p ++ [y])
termination_by a b => a.length + b.length
def few (a b : List Nat) : List Ed := wk a b 0 0 []
theorem wk_nn (b c : Nat) (p : List Nat) : wk [] [] b c p = closedE b c p := by rw [wk]
theorem wk_nc (y : Nat) (ys : List Nat) (b c : Nat) (p : List Nat) : wk [] (y :: ys) b c p = wk [] ys b c (p ++ [y]) := by rw [wk]
theorem wk_cn (x : Nat) (xs : List Nat) (b c : Nat) (p : List Nat) : wk (x :: xs) [] b c p = wk xs [] b (c + 1) p := by rw [wk]
theorem wk_eq (x : Nat) (xs ys : List Nat) (b c : Nat) (p : List Nat) : wk (x :: xs) (x :: ys) b c p = closedE b c p ++ wk xs ys (b + p.length + 1) 0 [] := by rw [wk]; simp
theorem wk_cut {x y : Nat} (h : x ≠ y) {xs ys : List Nat} (k : lcs (x :: xs) ys ≤ lcs xs (y :: ys)) (b c : Nat) (p : List Nat) : wk (x :: xs) (y :: ys) b c p = wk xs (y :: ys) b (c + 1) p := by rw [wk]; simp [h, k]
theorem wk_put {x y : Nat} (h : x ≠ y) {xs ys : List Nat} (k : ¬ lcs (x :: xs) ys ≤ lcs xs (y :: ys)) (b c : Nat) (p : List Nat) : wk (x :: xs) (y :: ys) b c p = wk (x :: xs) ys b c (p ++ [y]) := by rw [wk]; simp [h, k]
/-- what is true of the walk's edits -/
theorem wk_ind {M : List Nat → List Nat → Nat → Nat → List Nat → Prop}
    (h1 : ∀ b c p, M [] [] b c p) (h2 : ∀ y ys b c p, M [] ys b c (p ++ [y]) → M [] (y :: ys) b c p) (h3 : ∀ x xs b c p, M xs [] b (c + 1) p → M (x :: xs) [] b c p)
    (h4 : ∀ x xs ys b c p, M xs ys (b + p.length + 1) 0 [] → M (x :: xs) (x :: ys) b c p)
    (h5 : ∀ x xs y ys b c p, x ≠ y → lcs (x :: xs) ys ≤ lcs xs (y :: ys) → M xs (y :: ys) b (c + 1) p → M (x :: xs) (y :: ys) b c p)
    (h6 : ∀ x xs y ys b c p, x ≠ y → ¬ lcs (x :: xs) ys ≤ lcs xs (y :: ys) → M (x :: xs) ys b c (p ++ [y]) → M (x :: xs) (y :: ys) b c p) : ∀ (a d : List Nat) b c p, M a d b c p
  | [], [], b, c, p => h1 b c p
  | [], y :: ys, b, c, p => h2 y ys b c p (wk_ind h1 h2 h3 h4 h5 h6 [] ys b c (p ++ [y]))
  | x :: xs, [], b, c, p => h3 x xs b c p (wk_ind h1 h2 h3 h4 h5 h6 xs [] b (c + 1) p)
  | x :: xs, y :: ys, b, c, p => by
    by_cases h : x = y
    · subst h; exact h4 x xs ys b c p (wk_ind h1 h2 h3 h4 h5 h6 xs ys _ _ _)
    · by_cases k : lcs (x :: xs) ys ≤ lcs xs (y :: ys)
      · exact h5 x xs y ys b c p h k (wk_ind h1 h2 h3 h4 h5 h6 xs (y :: ys) _ _ _)
      · exact h6 x xs y ys b c p h k (wk_ind h1 h2 h3 h4 h5 h6 (x :: xs) ys _ _ _)
termination_by a d => a.length + d.length
theorem clos_ok {pre q xs p : List Nat} (hp : gd p) (hl : pre.length + p.length + xs.length ≤ 80) :
    okAll (closedE pre.length q.length p) (pre ++ q ++ xs) ∧ apps (closedE pre.length q.length p) (pre ++ q ++ xs) = pre ++ p ++ xs := by
  have key : ∀ (s : List Nat), s = pre ++ xs → okAll (if p = [] then [] else [Ed.put pre.length p]) s ∧ apps (if p = [] then [] else [Ed.put pre.length p]) s = pre ++ p ++ xs := by
    rintro s rfl
    by_cases h : p = []
    · subst h; simp [okAll, apps]
    · rw [if_neg h]
      refine ⟨⟨⟨by simp, h, by simp; omega, hp⟩, trivial⟩, ?_⟩
      simp [apps, Ed.app]
  unfold closedE
  rw [okAll_app, apps_app]
  by_cases hc : 0 < q.length
  · rw [if_pos hc]
    have h1 : apps [Ed.cut pre.length q.length] (pre ++ q ++ xs) = pre ++ xs := by
      simp [apps, Ed.app]
    obtain ⟨k1, k2⟩ := key _ h1
    refine ⟨⟨⟨⟨hc, by simp⟩, trivial⟩, k1⟩, k2⟩
  · rw [if_neg hc]
    have : q = [] := List.length_eq_zero_iff.mp (by omega)
    subst this
    obtain ⟨k1, k2⟩ := key (pre ++ [] ++ xs) (by simp)
    exact ⟨⟨trivial, k1⟩, k2⟩
theorem gd_cons {x : Nat} {xs : List Nat} (h : gd (x :: xs)) : gd xs := fun c hc => h c (List.mem_cons_of_mem _ hc)
theorem gd_snoc {p : List Nat} {y : Nat} {ys : List Nat} (h : gd p) (g : gd (y :: ys)) : gd (p ++ [y]) := gd_app h fun c hc => g c (by simp at hc; simp [hc])
theorem wk_ok : ∀ (xs ys : List Nat) (b c : Nat) (p : List Nat), ∀ pre q : List Nat, pre.length = b → q.length = c → gd p → gd ys → pre.length + p.length + ys.length + xs.length ≤ 80 →
    okAll (wk xs ys b c p) (pre ++ q ++ xs) ∧ apps (wk xs ys b c p) (pre ++ q ++ xs) = pre ++ p ++ ys := by
  refine wk_ind ?_ ?_ ?_ ?_ ?_ ?_
  · rintro b c p pre q rfl rfl hp hy hl
    rw [wk_nn]
    have := clos_ok (pre := pre) (q := q) (xs := []) hp (by simpa using hl)
    simpa using this
  · rintro y ys b c p ih pre q rfl rfl hp hy hl
    rw [wk_nc]
    have := ih pre q rfl rfl (gd_snoc hp hy) (gd_cons hy) (by simp at hl ⊢; omega)
    simpa using this
  · rintro x xs b c p ih pre q rfl rfl hp hy hl
    rw [wk_cn]
    have := ih pre (q ++ [x]) rfl (by simp) hp hy (by simp at hl ⊢; omega)
    simpa using this
  · rintro x xs ys b c p ih pre q rfl rfl hp hy hl
    rw [wk_eq, okAll_app, apps_app]
    obtain ⟨c1, c2⟩ := clos_ok (pre := pre) (q := q) (xs := x :: xs) hp (by simp at hl ⊢; omega)
    rw [c2]
    obtain ⟨d1, d2⟩ := ih (pre ++ p ++ [x]) [] (by simp; omega) rfl (fun c hc => by cases hc) (gd_cons hy) (by simp at hl ⊢; omega)
    have e : pre ++ p ++ [x] ++ [] ++ xs = pre ++ p ++ x :: xs := by simp
    rw [e] at d1 d2
    refine ⟨⟨c1, d1⟩, ?_⟩
    rw [d2]; simp
  · rintro x xs y ys b c p h k ih pre q rfl rfl hp hy hl
    rw [wk_cut h k]
    have := ih pre (q ++ [x]) rfl (by simp) hp hy (by simp at hl ⊢; omega)
    simpa using this
  · rintro x xs y ys b c p h k ih pre q rfl rfl hp hy hl
    rw [wk_put h k]
    have := ih pre q rfl rfl (gd_snoc hp hy) (gd_cons hy) (by simp at hl ⊢; omega)
    simpa using this
def sumE (es : List Ed) : Nat := (es.map amt).sum
theorem sumE_app (a b : List Ed) : sumE (a ++ b) = sumE a + sumE b := by simp [sumE]
theorem clos_sum (b c : Nat) (p : List Nat) : sumE (closedE b c p) = c + p.length := by
  unfold closedE
  rw [sumE_app]
  by_cases hc : 0 < c <;> by_cases hp : p = [] <;> simp [hc, hp, sumE, amt] <;> omega
theorem wk_sum : ∀ (xs ys : List Nat) (b c : Nat) (p : List Nat), sumE (wk xs ys b c p) + 2 * lcs xs ys = c + p.length + xs.length + ys.length := by
  refine wk_ind ?_ ?_ ?_ ?_ ?_ ?_
  · intro b c p; rw [wk_nn, clos_sum, lcs_nil]; simp
  · intro y ys b c p ih; rw [wk_nc]; simp only [lcs_nil, lcs_nil', List.length_append, List.length_cons, List.length_nil] at ih ⊢; omega
  · intro x xs b c p ih; rw [wk_cn]; simp only [lcs_nil, lcs_nil', List.length_append, List.length_cons, List.length_nil] at ih ⊢; omega
  · intro x xs ys b c p ih; rw [wk_eq, sumE_app, clos_sum, lcs_eq]; simp only [List.length_append, List.length_cons, List.length_nil] at ih ⊢; omega
  · intro x xs y ys b c p h k ih; rw [wk_cut h k, lcs_ne h, Nat.max_eq_left k]; simp only [List.length_append, List.length_cons, List.length_nil] at ih ⊢; omega
  · intro x xs y ys b c p h k ih; rw [wk_put h k, lcs_ne h, Nat.max_eq_right (by omega)]; simp only [List.length_append, List.length_cons, List.length_nil] at ih ⊢; omega
def isCut : Ed → Bool
  | .cut _ _ => true
  | .put _ _ => false
def cutsE (es : List Ed) : List Nat := es.filterMap fun e => match e with | .cut _ n => some n | .put _ _ => none
theorem cutsE_app (a b : List Ed) : cutsE (a ++ b) = cutsE a ++ cutsE b := by simp [cutsE]
theorem clos_cuts (b c : Nat) (p : List Nat) : (cutsE (closedE b c p)).sum = c := by
  unfold closedE
  by_cases hc : 0 < c <;> by_cases hp : p = [] <;> simp [hc, hp, cutsE] <;> omega
theorem wk_cuts : ∀ (xs ys : List Nat) (b c : Nat) (p : List Nat), (cutsE (wk xs ys b c p)).sum + lcs xs ys = c + xs.length := by
  refine wk_ind ?_ ?_ ?_ ?_ ?_ ?_
  · intro b c p; rw [wk_nn, clos_cuts, lcs_nil]; simp
  · intro y ys b c p ih; rw [wk_nc]; simp only [lcs_nil, lcs_nil', List.length_append, List.length_cons, List.length_nil] at ih ⊢; omega
  · intro x xs b c p ih; rw [wk_cn]; simp only [lcs_nil, lcs_nil', List.length_append, List.length_cons, List.length_nil] at ih ⊢; omega
  · intro x xs ys b c p ih; rw [wk_eq, cutsE_app, List.sum_append, clos_cuts, lcs_eq]; simp only [List.length_append, List.length_cons, List.length_nil] at ih ⊢; omega
  · intro x xs y ys b c p h k ih; rw [wk_cut h k, lcs_ne h, Nat.max_eq_left k]; simp only [List.length_append, List.length_cons, List.length_nil] at ih ⊢; omega
  · intro x xs y ys b c p h k ih; rw [wk_put h k, lcs_ne h, Nat.max_eq_right (by omega)]; simp only [List.length_append, List.length_cons, List.length_nil] at ih ⊢; omega
def nC (es : List Ed) : Nat := es.countP isCut
def nP (es : List Ed) : Nat := es.countP fun e => !isCut e
theorem nC_app (a b : List Ed) : nC (a ++ b) = nC a + nC b := by simp [nC]
theorem nP_app (a b : List Ed) : nP (a ++ b) = nP a + nP b := by simp [nP]
theorem isC (a n : Nat) : isCut (.cut a n) = true := rfl
theorem isP (a : Nat) (n : List Nat) : isCut (.put a n) = false := rfl
theorem nCP (es : List Ed) : nC es + nP es = es.length := by
  induction es with
  | nil => rfl
  | cons e es ih => simp only [nC, nP, List.countP_cons, List.length_cons] at ih ⊢; cases e <;> simp only [isC, isP, Bool.not_true, Bool.not_false, if_true, Bool.false_eq_true, if_false] <;> omega
theorem clos_nC (b c : Nat) (p : List Nat) : nC (closedE b c p) = if 0 < c then 1 else 0 := by
  unfold closedE
  by_cases hc : 0 < c <;> by_cases hp : p = [] <;> simp [hc, hp, nC, isCut, List.countP_cons]
theorem clos_nP (b c : Nat) (p : List Nat) : nP (closedE b c p) = if p = [] then 0 else 1 := by
  unfold closedE
  by_cases hc : 0 < c <;> by_cases hp : p = [] <;> simp [hc, hp, nP, isCut, List.countP_cons]
theorem wk_nC : ∀ (xs ys : List Nat) (b c : Nat) (p : List Nat), 2 * nC (wk xs ys b c p) ≤ xs.length + 1 + (if 0 < c then 1 else 0) := by
  refine wk_ind ?_ ?_ ?_ ?_ ?_ ?_
  · intro b c p; rw [wk_nn, clos_nC]; by_cases hc : 0 < c <;> simp [hc]
  · intro y ys b c p ih; rw [wk_nc]; revert ih; by_cases hc : 0 < c <;> simp [hc] <;> omega
  · intro x xs b c p ih; rw [wk_cn]; revert ih; by_cases hc : 0 < c <;> simp [hc] <;> omega
  · intro x xs ys b c p ih; rw [wk_eq, nC_app, clos_nC]; revert ih; by_cases hc : 0 < c <;> simp [hc] <;> omega
  · intro x xs y ys b c p h k ih; rw [wk_cut h k]; revert ih; by_cases hc : 0 < c <;> simp [hc] <;> omega
  · intro x xs y ys b c p h k ih; rw [wk_put h k]; revert ih; by_cases hc : 0 < c <;> simp [hc] <;> omega
theorem wk_nP : ∀ (xs ys : List Nat) (b c : Nat) (p : List Nat), 2 * nP (wk xs ys b c p) ≤ ys.length + 1 + (if p = [] then 0 else 1) := by
  refine wk_ind ?_ ?_ ?_ ?_ ?_ ?_
  · intro b c p; rw [wk_nn, clos_nP]; by_cases hp : p = [] <;> simp [hp]
  · intro y ys b c p ih; rw [wk_nc]; revert ih; by_cases hp : p = [] <;> simp [hp] <;> omega
  · intro x xs b c p ih; rw [wk_cn]; revert ih; by_cases hp : p = [] <;> simp [hp] <;> omega
  · intro x xs ys b c p ih; rw [wk_eq, nP_app, clos_nP]; revert ih; by_cases hp : p = [] <;> simp [hp] <;> omega
  · intro x xs y ys b c p h k ih; rw [wk_cut h k]; revert ih; by_cases hp : p = [] <;> simp [hp] <;> omega
  · intro x xs y ys b c p h k ih; rw [wk_put h k]; revert ih; by_cases hp : p = [] <;> simp [hp] <;> omega
/-- from left to right -/
def ordE : Int → Bool → List Ed → Prop
  | _, _, [] => True
  | at', w, .cut a n :: r => at' < (a : Int) ∧ ordE (a : Int) true r
  | at', w, .put a p :: r => (at' < (a : Int) ∨ ((a : Int) = at' ∧ w = true)) ∧ ordE ((a : Int) + (p.length : Int)) false r
theorem clos_ord {b c : Nat} {p : List Nat} {r : List Ed} {at' : Int} {w : Bool} (h : at' < (b : Int)) (hr : ∀ (a : Int) (w : Bool), a ≤ (b : Int) + (p.length : Int) → ordE a w r) : ordE at' w (closedE b c p ++ r) := by
  unfold closedE
  by_cases hc : 0 < c <;> by_cases hp : p = []
  · subst hp; simp [hc, ordE, h]; exact hr _ _ (by simp)
  · simp [hc, hp, ordE, h]; exact hr _ _ (Int.le_refl _)
  · subst hp; simp [hc]; exact hr _ _ (by simp; omega)
  · simp [hc, hp, ordE, h]; exact hr _ _ (Int.le_refl _)
theorem wk_ord : ∀ (xs ys : List Nat) (b c : Nat) (p : List Nat), ∀ (at' : Int) (w : Bool), at' < (b : Int) → ordE at' w (wk xs ys b c p) := by
  refine wk_ind ?_ ?_ ?_ ?_ ?_ ?_
  · intro b c p at' w h; rw [wk_nn]
    have := clos_ord (c := c) (p := p) (r := []) (w := w) h fun _ _ _ => trivial
    simpa using this
  · intro y ys b c p ih; rw [wk_nc]; exact ih
  · intro x xs b c p ih; rw [wk_cn]; exact ih
  · intro x xs ys b c p ih at' w h; rw [wk_eq]
    exact clos_ord h fun a w ha => ih a w (by omega)
  · intro x xs y ys b c p h k ih; rw [wk_cut h k]; exact ih
  · intro x xs y ys b c p h k ih; rw [wk_put h k]; exact ih
theorem amt_pos {es : List Ed} {s : List Nat} (h : okAll es s) (z : sumE es = 0) : es = [] := by
  cases es with
  | nil => rfl
  | cons e es =>
    exfalso
    have o := h.1
    cases e with
    | cut a n => have := o.1; simp [sumE, amt] at z; omega
    | put a w => have := o.2.1; simp [sumE, amt] at z; exact this z.1
theorem few_ok {a b : List Nat} (hl : a.length + b.length ≤ 80) (g : gd b) : okAll (few a b) a ∧ apps (few a b) a = b := by
  have := wk_ok a b 0 0 [] [] [] rfl rfl (fun c hc => by cases hc) g (by simp; omega)
  simpa [few] using this
theorem few_len {a b : List Nat} (h1 : a.length ≤ 40) (h2 : b.length ≤ 40) : (few a b).length ≤ 40 := by
  have k1 := wk_nC a b 0 0 []
  have k2 := wk_nP a b 0 0 []
  simp at k1 k2
  unfold few; rw [← nCP]; omega
theorem few_sum (a b : List Nat) : sumE (few a b) = far a b := by
  have := wk_sum a b 0 0 []
  simp at this
  have h := far_eq a b
  unfold few; omega
theorem few_cuts (a b : List Nat) : (cutsE (few a b)).sum + lcs a b = a.length := by
  have := wk_cuts a b 0 0 []
  simpa [few] using this
theorem few_ord (a b : List Nat) (w : Bool) : ordE (-1) w (few a b) := wk_ord a b 0 0 [] (-1) w (by omega)
theorem few_self {a : List Nat} (hl : a.length + a.length ≤ 80) (g : gd a) : few a a = [] := by
  refine amt_pos (few_ok hl g).1 ?_
  rw [few_sum, far, lcs_self]; omega
theorem wk_nil : ∀ (ys : List Nat) (p : List Nat), wk [] ys 0 0 p = if p ++ ys = [] then [] else [.put 0 (p ++ ys)]
  | [], p => by rw [wk_nn]; simp [closedE]
  | y :: ys, p => by rw [wk_nc, wk_nil ys (p ++ [y])]; simp
theorem few_nil (b : List Nat) : few [] b = if b = [] then [] else [.put 0 b] := by
  have := wk_nil b []
  simpa [few] using this
end VI

namespace VI
open PySem L2
def rowD (B : Nat) (g : Nat → Int) : D := .lst true ((List.range B).map fun j => .int (g j))
def tabD (A B : Nat) (f : Nat → Nat → Int) : D := .lst true ((List.range A).map fun i => rowD B (f i))
def updF (f : Nat → Nat → Int) (a b : Nat) (v : Int) : Nat → Nat → Int := fun i j => if i = a ∧ j = b then v else f i j
theorem map_rng_at {α : Type} {n i : Nat} {g : Nat → α} (h : i < n) : atI ((List.range n).map g) (i : Int) = some (g i) := by
  rw [atD_nat (by simpa using h), List.getElem?_map, List.getElem?_range h]; rfl
theorem set_rng {α : Type} {n i : Nat} {g : Nat → α} {v : α} : ((List.range n).map g).set i v = (List.range n).map fun j => if j = i then v else g j := by
  apply List.ext_getElem?
  intro j
  rw [List.getElem?_set]
  by_cases hj : i = j
  · subst hj
    by_cases hn : i < n
    · simp [hn]
    · simp [hn]
  · simp only [if_neg hj, List.getElem?_map]
    by_cases hn : j < n
    · rw [List.getElem?_range hn]; simp [show j ≠ i from fun z => hj z.symm]
    · rw [List.getElem?_eq_none (by simpa using hn)]; rfl
section
variable {Qd : D → Prop}
theorem O_ixTab {A B i : Nat} {f : Nat → Nat → Int} (h : i < A) (q : Qd (rowD B (f i))) : WO (opD .ix [tabD A B f, .int (i : Int)]) Qd := O_ixL (map_rng_at h) q
theorem O_ixTab1 {A B i : Nat} {f : Nat → Nat → Int} (h : i + 1 < A) (q : Qd (rowD B (f (i + 1)))) : WO (opD .ix [tabD A B f, .int ((i : Int) + 1)]) Qd := O_ixTab h q
theorem O_ixRow {B j : Nat} {g : Nat → Int} (h : j < B) (q : Qd (.int (g j))) : WO (opD .ix [rowD B g, .int (j : Int)]) Qd := O_ixL (map_rng_at h) q
theorem O_ixRow1 {B j : Nat} {g : Nat → Int} (h : j + 1 < B) (q : Qd (.int (g (j + 1)))) : WO (opD .ix [rowD B g, .int ((j : Int) + 1)]) Qd := O_ixRow h q
end
theorem setAt_rng {n i : Nat} {g : Nat → D} {v : D} (h : i < n) : setAt ((List.range n).map g) (i : Int) v = some ((List.range n).map fun j => if j = i then v else g j) := by
  unfold setAt
  rw [List.length_map, List.length_range, ixN_nat h, Option.map_some, set_rng]
theorem tab_path {A B i : Nat} {f : Nat → Nat → Int} (h : i < A) : isPath [(i : Int)] (tabD A B f) = true := by
  unfold tabD
  simp only [isPath, atD, map_rng_at h, rowD]
theorem tab_set {A B i j : Nat} {f : Nat → Nat → Int} {v : Int} (hi : i < A) (hj : j < B) : atPath (setO (j : Int) (.int v)) [(i : Int)] (tabD A B f) = some (tabD A B (updF f i j v), .non) := by
  have e1 : setO (j : Int) (.int v) (rowD B (f i)) = some (rowD B (updF f i j v i), .non) := by
    unfold rowD
    simp only [setO, setAt_rng hj, Option.map_some]
    congr 4
    funext k
    unfold updF
    by_cases hk : k = j <;> simp [hk]
  unfold tabD
  simp only [atPath, atD, map_rng_at hi, Option.bind_some]
  rw [e1]
  simp only [Option.bind_some, setAt_rng hi, Option.map_some]
  congr 4
  funext k
  by_cases hk : k = i
  · subst hk; simp
  · simp only [if_neg hk]
    congr 1
    funext z
    unfold updF; simp [hk]
theorem I_rngD {k : Nat} {P : List D → Prop} (h : k ≤ 1000) (q : P ((List.range k).map fun i => D.int ((k : Int) - 1 - (i : Nat)))) : ∃ xs, itD .rng (frzL [.int ((k : Int) - 1), .int (-1), .int (-1)]) = some xs ∧ P xs := by
  refine ⟨_, ?_, q⟩
  have h1 : frzL [D.int ((k : Int) - 1), .int (-1), .int (-1)] = [D.int ((k : Int) - 1), .int (-1), .int (-1)] := by simp [frzL, D.frz]
  rw [h1]
  have h2 : in62 ((k : Int) - 1) = true := by
    unfold in62
    simp only [Bool.and_eq_true, decide_eq_true_eq]
    omega
  have h3 : in62 (-1) = true := by decide
  have h4 : ((k : Int) - 1 - -1).toNat = k := by omega
  simp only [itD, rngs, h2, h3, Bool.and_self, if_true, h4]
theorem rngD_at {k i : Nat} {x : D} (h : ((List.range k).map fun i => D.int ((k : Int) - 1 - (i : Nat)))[i]? = some x) : i < k ∧ x = .int (((k - 1 - i : Nat)) : Int) := by
  rw [List.getElem?_map] at h
  by_cases hi : i < k
  · rw [List.getElem?_range hi] at h
    refine ⟨hi, ?_⟩
    simp only [Option.map_some, Option.some.injEq] at h
    rw [← h]
    congr 1
    omega
  · rw [List.getElem?_eq_none (by simpa using hi)] at h; cases h
theorem flat_one {x : D} : ∀ n : Nat, (List.replicate n [x]).flatten = (List.range n).map fun _ => x
  | 0 => rfl
  | n + 1 => by rw [List.replicate_succ', List.flatten_append, flat_one n, List.range_succ, List.map_append]; rfl
theorem O_mul0 {m : Bool} {k : Nat} {Qd : D → Prop} (h : k ≤ 1000) (q : Qd (rowD (k + 1) fun _ => 0)) : WO (opD (.bin .Mult) [.lst m [.int 0], .int ((k : Int) + 1)]) Qd := by
  refine ⟨_, ?_, q⟩
  have h1 : (pureL [D.int 0] && decide (-(2 ^ 63) ≤ (k : Int) + 1) && decide ((k : Int) + 1 < 2 ^ 63) && decide ([D.int 0].length * ((k : Int) + 1).toNat ≤ lim)) = true := by
    simp only [Bool.and_eq_true, decide_eq_true_eq]
    refine ⟨⟨⟨by simp [pureL, D.pure], by omega⟩, by omega⟩, ?_⟩
    simp [lim]; omega
  have h2 : ((k : Int) + 1).toNat = k + 1 := by omega
  have h3 := flat_one (x := D.int 0) (k + 1)
  unfold rowD
  rw [h2] at h1
  simp only [opD, binO, mulO, h2, h3, h1, if_true]
theorem I_rng1 {k : Nat} {P : List D → Prop} (h : k < 1000) (q : P (rngO 0 ((k + 1 : Nat) : Int))) : ∃ xs, itD .rng (frzL [.int ((k : Int) + 1)]) = some xs ∧ P xs := ⟨_, rng_nat (k + 1) h, q⟩
section
variable {call : CallT} {ρ : Env'} {k : KS}
/-- a loop while: J by how many turns are left at the most -/
theorem X_whl {n : Nat} {c : E} {b : List S} (J : Nat → Env' → Prop) (m : Nat) (hm : m < n) (h0 : J m ρ)
    (hs : ∀ i ρ, J i ρ → WR (ev call c ρ) fun d ρ1 => ∃ t, truD d = some t ∧ (t = true → ∃ j, i = j + 1 ∧ WX (exs call b ρ1) { k with nx := J j, ct := J j, bk := k.nx }) ∧ (t = false → k.nx ρ1)) : WX (ex call (.whl n c b) ρ) k := by
  simp only [ex]
  have go : ∀ (n m : Nat) (ρ : Env'), m < n → J m ρ → WX (whlLoop (ev call c) (exs call b) n ρ) k := by
    intro n
    induction n with
    | zero => intro m ρ h; omega
    | succ n ih =>
      intro m ρ h hj
      obtain ⟨d, ρ1, e1, t, ht, h1, h2⟩ := hs m ρ hj
      simp only [whlLoop, e1, R.sbind, ht]
      cases t with
      | false => exact ⟨h2 rfl⟩
      | true =>
        obtain ⟨j, rfl, w⟩ := h1 rfl
        cases hb : exs call b ρ1 with
        | nx ρ2 => rw [hb] at w; exact ih j ρ2 (by omega) w.out
        | cont ρ2 => rw [hb] at w; exact ih j ρ2 (by omega) w.out
        | brk ρ2 => rw [hb] at w; exact ⟨w.out⟩
        | ret d ρ2 => rw [hb] at w; exact ⟨w.out⟩
        | err x ρ2 => rw [hb] at w; exact w.out.elim
        | bad => rw [hb] at w; exact w.out.elim
  exact go n m ρ hm h0
theorem I_ext {xs : List D} {m : Bool} {ys : List D} {P : D → D → Prop} (hp : pureL ys = true) (h : xs.length + ys.length ≤ lim) (q : P (.lst true (xs ++ ys)) .non) : ∃ d' r, moD .extend (.lst true xs) [.lst m ys] = some (d', r) ∧ P d' r := ⟨_, _, by simp only [moD, hp, h, decide_true, Bool.and_self, if_true], q⟩
end
section
theorem WX_nx {r : SR} {k : KS} (N : Env' → Prop) (h : WX r { k with nx := N }) (f : ∀ ρ, N ρ → k.nx ρ) : WX r k := by
  cases r with
  | nx ρ => exact ⟨f ρ h.out⟩
  | ret d ρ => exact ⟨h.out⟩
  | brk ρ => exact ⟨h.out⟩
  | cont ρ => exact ⟨h.out⟩
  | err x ρ => exact h.out.elim
  | bad => exact h.out.elim
theorem O_tupE {m : Bool} {es : List Ed} {Qd : D → Prop} (q : Qd (.tup (es.map Ed.d))) : WO (opD (.fn .tuple) [.lst m (es.map Ed.d)]) Qd := ⟨_, by simp only [opD, fnO, tupleO, pure_es, if_true], q⟩
theorem O_listE {m : Bool} {es : List Ed} {Qd : D → Prop} (q : Qd (.lst true (es.map Ed.d))) : WO (opD (.fn .list) [.lst m (es.map Ed.d)]) Qd := ⟨_, by simp only [opD, fnO, listO, pure_es, if_true], q⟩
theorem O_slToE {m : Bool} {es : List Ed} {k : Nat} {Qd : D → Prop} (q : Qd (.lst true ((es.take k).map Ed.d))) : WO (opD (.sl false true) [.lst m (es.map Ed.d), .int (k : Int)]) Qd :=
  O_slToL (pure_es es) (by rw [← List.map_take]; exact q)
theorem O_slFromE {m : Bool} {es : List Ed} {k : Nat} {Qd : D → Prop} (q : Qd (.lst true ((es.drop k).map Ed.d))) : WO (opD (.sl true false) [.lst m (es.map Ed.d), .int (k : Int)]) Qd :=
  O_slFromL (pure_es es) (by rw [← List.map_drop]; exact q)
theorem deq_ed (e : Ed) : deq e.d e.d = true := by cases e <;> simp [Ed.d, deq, deqL]
theorem deq_es : ∀ es : List Ed, deqL (es.map Ed.d) (es.map Ed.d) = true
  | [] => rfl
  | e :: es => by simp only [List.map_cons, deqL, deq_ed, deq_es es, Bool.and_self]
theorem okD_es (m : Bool) (es : List Ed) : okD deep (.lst m (es.map Ed.d)) = true := by
  unfold deep
  simp only [okD, List.all_eq_true]
  intro x hx
  obtain ⟨e, _, rfl⟩ := List.mem_map.mp hx
  cases e <;> simp [Ed.d, okD]
theorem O_neE {m m' : Bool} {es : List Ed} {Qd : D → Prop} (q : Qd (.bl false)) : WO (opD (.cmp .NotEq) [.lst m (es.map Ed.d), .lst m' (es.map Ed.d)]) Qd :=
  ⟨.bl false, by simp only [opD, cmpO, cmpB, eqO, okD_es, Bool.and_self, if_true, deq, deq_es, Option.map_some, Bool.not_true], q⟩
def rowM (m : Bool) (B : Nat) (g : Nat → Int) : D := .lst m ((List.range B).map fun j => .int (g j))
theorem pure_rng : ∀ (B : Nat) (g : Nat → Int), pureL ((List.range B).map fun j => D.int (g j)) = true := fun B g => by
  have : (List.range B).map (fun j => D.int (g j)) = ((List.range B).map g).map D.int := by rw [List.map_map]; rfl
  rw [this]; exact pure_ints _
theorem O_ixRM {m : Bool} {B j : Nat} {g : Nat → Int} {Qd : D → Prop} (h : j < B) (q : Qd (.int (g j))) : WO (opD .ix [rowM m B g, .int (j : Int)]) Qd := O_ixL (map_rng_at h) q
theorem O_ixRM1 {m : Bool} {B j : Nat} {g : Nat → Int} {Qd : D → Prop} (h : j + 1 < B) (q : Qd (.int (g (j + 1)))) : WO (opD .ix [rowM m B g, .int ((j : Int) + 1)]) Qd := O_ixRM h q
theorem O_lrng1 {k : Nat} {Qd : D → Prop} (h : k < 1000) (q : Qd (rowM true (k + 1) fun j => 0 + (j : Int))) : WO (opD .lrng [.int ((k : Int) + 1)]) Qd := by
  refine ⟨_, ?_, q⟩
  have h2 : in62 ((k : Int) + 1) = true := by
    unfold in62
    simp only [Bool.and_eq_true, decide_eq_true_eq]
    omega
  have h3 : ((k : Int) + 1 - 0).toNat = k + 1 := by omega
  have h4 : (rngO 0 ((k : Int) + 1)).length ≤ lim := by unfold rngO lim; rw [h3]; simp; omega
  simp only [opD, rngs, h2, if_true, Option.bind_some, h4]
  unfold rngO rowM
  rw [h3]
theorem rowM_congr {m : Bool} {B : Nat} {g g' : Nat → Int} (h : ∀ j, j < B → g j = g' j) : rowM m B g = rowM m B g' := by
  unfold rowM
  congr 1
  apply List.map_congr_left
  intro j hj
  rw [List.mem_range] at hj
  rw [h j hj]
theorem rngO_at {k i : Nat} {x : D} (h : (rngO 0 (k : Int))[i]? = some x) : i < k ∧ x = .int (i : Int) := by
  unfold rngO at h
  rw [List.getElem?_map] at h
  have : ((k : Int) - 0).toNat = k := by omega
  rw [this] at h
  by_cases hi : i < k
  · rw [List.getElem?_range hi] at h
    refine ⟨hi, ?_⟩
    simp only [Option.map_some, Option.some.injEq] at h
    rw [← h]
    congr 1
    omega
  · rw [List.getElem?_eq_none (by simpa using hi)] at h; cases h
theorem far_nil (b : List Nat) : far [] b = b.length := by unfold far; rw [lcs_nil]; simp
theorem far_nil' (b : List Nat) : far b [] = b.length := by unfold far; rw [lcs_nil']; simp
theorem far_snoc_eq (p q : List Nat) (x : Nat) : far (p ++ [x]) (q ++ [x]) = far p q := by
  have h1 := far_eq (p ++ [x]) (q ++ [x])
  have h2 := far_eq p q
  rw [lcs_suf] at h1
  simp at h1; omega
theorem far_snoc_ne (p q : List Nat) {x y : Nat} (h : x ≠ y) : far (p ++ [x]) (q ++ [y]) = 1 + min (far p (q ++ [y])) (far (p ++ [x]) q) := by
  have h1 := far_eq (p ++ [x]) (q ++ [y])
  have h2 := far_eq p (q ++ [y])
  have h3 := far_eq (p ++ [x]) q
  have e1 : lcs (p ++ [x]) (q ++ [y]) = max (lcs p (q ++ [y])) (lcs (p ++ [x]) q) := by
    rw [← lcs_rev (p ++ [x]) (q ++ [y]), List.reverse_append, List.reverse_append]
    show lcs (x :: p.reverse) (y :: q.reverse) = _
    rw [lcs_ne h, ← lcs_rev p (q ++ [y]), ← lcs_rev (p ++ [x]) q, List.reverse_append, List.reverse_append]; rfl
  rw [e1] at h1
  simp only [List.length_append, List.length_cons, List.length_nil] at h1 h2 h3
  omega
end
end VI

namespace VI
open PySem L2
structure Mk where
  hand : List Nat
  layer : List Nat
  first : Nat
  past : Nat
  word : List Nat
def Mk.d (m : Mk) : D := .tup [.str m.hand, .str m.layer, .int (m.first : Int), .int (m.past : Int), .str m.word]
abbrev abc : List Nat := [97, 98, 99, 100, 101, 102, 103, 104, 105, 106, 107, 108, 109, 110, 111, 112, 113, 114, 115, 116, 117, 118, 119, 120, 121, 122]
def nm (s : List Nat) : Prop := 1 ≤ s.length ∧ s.length ≤ 6 ∧ ∀ c ∈ s, c ∈ abc
def Mk.ok (m : Mk) (n : Nat) : Prop := nm m.hand ∧ nm m.layer ∧ nm m.word ∧ m.first < m.past ∧ m.past ≤ n
theorem pure_mk (m : Mk) : m.d.pure = true := by simp [Mk.d, D.pure, pureL]
theorem pure_ms : ∀ ms : List Mk, pureL (ms.map Mk.d) = true
  | [] => rfl
  | m :: ms => by simp only [List.map_cons, pureL, pure_mk, pure_ms ms, Bool.and_self]
/-- a list or a tuple -/
def seqL (b : Option Bool) (xs : List D) : D := match b with
  | some m => .lst m xs
  | none => .tup xs
def frzB (b : Option Bool) : Option Bool := b.map fun _ => false
theorem walk_seqL (b : Option Bool) (xs : List D) : walkD (seqL b xs) = some xs := by cases b <;> rfl
theorem can_seqL {xs : List D} (hp : pureL xs = true) (b : Option Bool) : (seqL b xs).can = true := by
  cases b with
  | some m => simp only [seqL, D.can]; exact pureL_can hp
  | none => exact D.pure_can (by simp only [seqL, D.pure]; exact hp)
theorem frz_seqL {xs : List D} (hp : pureL xs = true) (b : Option Bool) : (seqL b xs).frz = seqL (frzB b) xs := by
  cases b with
  | some m => simp only [seqL, D.frz, frzL_of_pure hp, frzB, Option.map]
  | none => exact D.frz_of_pure (by simp only [seqL, D.pure]; exact hp)
theorem frzB2 (b : Option Bool) : frzB (frzB b) = frzB b := by cases b <;> rfl
section
variable {call : CallT} {ρ : Env'} {Q : D → Env' → Prop}
theorem W_useQ {i : Nat} {b : Option Bool} {xs : List D} (h : ρ[i]? = some (some (seqL b xs))) (hp : pureL xs = true) (q : Q (seqL (frzB b) xs) (ρ.set i (some (seqL (frzB b) xs)))) : WR (ev call (.use i) ρ) Q := by
  refine W_use h (can_seqL hp b) ?_
  rw [frz_seqL hp]; exact q
theorem W_useP {i : Nat} {d : D} (h : ρ[i]? = some (some d)) (hp : d.pure = true) (q : Q d (ρ.set i (some d))) : WR (ev call (.use i) ρ) Q := by
  refine W_use h (D.pure_can hp) ?_
  rw [D.frz_of_pure hp]; exact q
end
theorem I_seq {b : Option Bool} {xs : List D} {P : List D → Prop} (hp : pureL xs = true) (q : P xs) : canL [seqL (frzB b) xs] = true ∧ ∃ ys, itD .seq (frzL [seqL (frzB b) xs]) = some ys ∧ P ys := by
  refine ⟨by simp only [canL, can_seqL hp, Bool.and_self], xs, ?_, q⟩
  simp only [frzL, frz_seqL hp, itD, walk_seqL]
theorem I_enum {b : Option Bool} {xs : List D} {P : List D → Prop} (hp : pureL xs = true) (q : P (enumD 0 xs)) : canL [seqL (frzB b) xs] = true ∧ ∃ ys, itD .enum (frzL [seqL (frzB b) xs]) = some ys ∧ P ys := by
  refine ⟨by simp only [canL, can_seqL hp, Bool.and_self], enumD 0 xs, ?_, q⟩
  simp only [frzL, frz_seqL hp, itD, walk_seqL, Option.map_some]
/-! ### led over -/
def led1 : Ed → Nat × Nat → Option (Nat × Nat)
  | .cut a n, q => if q.1 - min n (q.1 - a) < q.2 - min n (q.2 - a) then some (q.1 - min n (q.1 - a), q.2 - min n (q.2 - a)) else none
  | .put a w, q => some (q.1 + (if a ≤ q.1 then w.length else 0), q.2 + (if a < q.2 then w.length else 0))
def ledE : List Ed → Option (Nat × Nat) → Option (Nat × Nat)
  | [], o => o
  | e :: es, o => ledE es (o.bind (led1 e))
theorem ledE_app : ∀ (es fs : List Ed) (o : Option (Nat × Nat)), ledE (es ++ fs) o = ledE fs (ledE es o)
  | [], _, _ => rfl
  | e :: es, fs, o => ledE_app es fs _
theorem ledE_none : ∀ es : List Ed, ledE es none = none
  | [] => rfl
  | e :: es => ledE_none es
theorem led1_ok {e : Ed} {s : List Nat} {q q' : Nat × Nat} (ho : e.ok s) (h1 : q.1 < q.2) (h2 : q.2 ≤ s.length) (h : led1 e q = some q') : q'.1 < q'.2 ∧ q'.2 ≤ (e.app s).length := by
  cases e with
  | cut a n =>
    obtain ⟨o1, o2⟩ := ho
    simp only [led1] at h
    split at h
    · cases h
      refine ⟨by assumption, ?_⟩
      simp only [Ed.app, List.length_append, List.length_take, List.length_drop]
      omega
    · cases h
  | put a w =>
    obtain ⟨o1, o2, o3, o4⟩ := ho
    simp only [led1, Option.some.injEq] at h
    subst h
    simp only [Ed.app, List.length_append, List.length_take, List.length_drop]
    constructor
    · split <;> split <;> omega
    · split <;> omega
theorem ledE_ok : ∀ {es : List Ed} {s : List Nat} {q q' : Nat × Nat}, okAll es s → q.1 < q.2 → q.2 ≤ s.length → ledE es (some q) = some q' → q'.1 < q'.2 ∧ q'.2 ≤ (apps es s).length
  | [], s, q, q', _, h1, h2, h => by cases h; exact ⟨h1, h2⟩
  | e :: es, s, q, q', ho, h1, h2, h => by
    simp only [ledE, Option.bind_some] at h
    cases hq : led1 e q with
    | none => rw [hq, ledE_none] at h; cases h
    | some r =>
      rw [hq] at h
      obtain ⟨k1, k2⟩ := led1_ok ho.1 h1 h2 hq
      exact ledE_ok (es := es) (s := e.app s) ho.2 k1 k2 h
def Mk.at' (m : Mk) (q : Nat × Nat) : Mk := { m with first := q.1, past := q.2 }
def overM (es : List Ed) (m : Mk) : Option Mk := (ledE es (some (m.first, m.past))).map m.at'
def oD : Option Mk → D
  | none => .non
  | some m => m.d
theorem pure_oD (o : Option Mk) : (oD o).pure = true := by
  cases o with
  | none => rfl
  | some m => exact pure_mk m
theorem pure_os : ∀ ms : List (Option Mk), pureL (ms.map oD) = true
  | [] => rfl
  | m :: ms => by simp only [List.map_cons, pureL, pure_oD, pure_os ms, Bool.and_self]
theorem overM_ok {es : List Ed} {s : List Nat} {m m' : Mk} (ho : okAll es s) (h : m.ok s.length) (e : overM es m = some m') : m'.ok (apps es s).length := by
  obtain ⟨a1, a2, a3, a4, a5⟩ := h
  unfold overM at e
  rw [Option.map_eq_some_iff] at e
  obtain ⟨q, e1, rfl⟩ := e
  obtain ⟨k1, k2⟩ := ledE_ok (q := (m.first, m.past)) ho a4 a5 e1
  exact ⟨a1, a2, a3, k1, k2⟩
theorem overM_nil (m : Mk) : overM [] m = some m := rfl
theorem overM_app (es fs : List Ed) (m : Mk) : overM (es ++ fs) m = (overM es m).bind (overM fs) := by
  unfold overM
  rw [ledE_app]
  cases h : ledE es (some (m.first, m.past)) with
  | none => rw [ledE_none]; rfl
  | some q => rfl
theorem deq_mk (m : Mk) : deq m.d m.d = true := by simp [Mk.d, deq, deqL]
theorem deq_ms : ∀ ms : List Mk, deqL (ms.map Mk.d) (ms.map Mk.d) = true
  | [] => rfl
  | m :: ms => by simp only [List.map_cons, deqL, deq_mk, deq_ms ms, Bool.and_self]
theorem okD_ms (m : Bool) (ms : List Mk) : okD deep (.lst m (ms.map Mk.d)) = true := by
  unfold deep
  simp only [okD, List.all_eq_true]
  intro x hx
  obtain ⟨e, _, rfl⟩ := List.mem_map.mp hx
  simp [Mk.d, okD]
theorem O_neM {m m' : Bool} {ms : List Mk} {Qd : D → Prop} (q : Qd (.bl false)) : WO (opD (.cmp .NotEq) [.lst m (ms.map Mk.d), .lst m' (ms.map Mk.d)]) Qd :=
  ⟨.bl false, by simp only [opD, cmpO, cmpB, eqO, okD_ms, Bool.and_self, if_true, deq, deq_ms, Option.map_some, Bool.not_true], q⟩
theorem bls_rep : ∀ k : Nat, blsO (List.replicate k (D.bl true)) = some (List.replicate k true)
  | 0 => rfl
  | k + 1 => by rw [List.replicate_succ, List.replicate_succ]; simp only [blsO, bls_rep k, Option.map_some]
theorem O_allT {m : Bool} {k : Nat} {Qd : D → Prop} (q : Qd (.bl true)) : WO (opD (.fn .all) [.lst m (List.replicate k (.bl true))]) Qd :=
  ⟨_, by simp only [opD, fnO, allO, bls_rep, Option.map_some]; rw [show (List.replicate k true).all id = true by simp], q⟩
def pD : Option (Nat × Nat) → D
  | none => .non
  | some q => .tup [.int (q.1 : Int), .int (q.2 : Int)]
theorem pure_pD (o : Option (Nat × Nat)) : (pD o).pure = true := by cases o <;> rfl
theorem oD_over (es : List Ed) (m : Mk) : oD (overM es m) = match ledE es (some (m.first, m.past)) with
  | none => .non
  | some q => .tup [.str m.hand, .str m.layer, .int (q.1 : Int), .int (q.2 : Int), .str m.word] := by
  unfold overM
  cases ledE es (some (m.first, m.past)) <;> rfl
theorem ledE_snoc (es : List Ed) (e : Ed) (o : Option (Nat × Nat)) : ledE (es ++ [e]) o = (ledE es o).bind (led1 e) := by
  rw [ledE_app]; rfl
theorem cut_nat (f a k : Nat) : (f : Int) - (if (if (f : Int) - (a : Int) > 0 then (f : Int) - (a : Int) else 0) < (k : Int) then (if (f : Int) - (a : Int) > 0 then (f : Int) - (a : Int) else 0) else (k : Int)) = ((f - min k (f - a) : Nat) : Int) := by
  split <;> split <;> (try split at *) <;> omega
end VI

namespace VI
open PySem L2
def ksF (L : List (Option Mk)) (n : Nat) : List Nat := (List.range n).filter fun k => (L.getD k none).isSome
theorem ksF_succ (L : List (Option Mk)) (n : Nat) : ksF L (n + 1) = ksF L n ++ if (L.getD n none).isSome then [n] else [] := by
  unfold ksF
  rw [List.range_succ, List.filter_append]
  congr 1
  rw [List.filter_cons, List.filter_nil]
theorem ksF_lt {L : List (Option Mk)} {n k : Nat} (h : k ∈ ksF L n) : k < n := by
  unfold ksF at h
  exact List.mem_range.mp (List.mem_filter.mp h).1
theorem ksF_mem {L : List (Option Mk)} {n k : Nat} (hk : k < n) : k ∈ ksF L n ↔ (L.getD k none).isSome = true := by
  unfold ksF
  rw [List.mem_filter, List.mem_range]
  simp [hk]
theorem ksF_len (L : List (Option Mk)) (n : Nat) : (ksF L n).length ≤ n := by
  unfold ksF
  have := List.length_filter_le (fun k => (L.getD k none).isSome) (List.range n)
  simpa using this
def keptF (L : List (Option Mk)) : List Mk := L.filterMap id
theorem ks_kept (L : List (Option Mk)) : ∀ n, n ≤ L.length → (ksF L n).map (fun k => L.getD k none) = ((L.take n).filterMap id).map some := by
  intro n
  induction n with
  | zero => intro _; rfl
  | succ n ih =>
    intro h
    have hn : n < L.length := h
    rw [ksF_succ, List.map_append, ih (by omega), List.take_succ_eq_append_getElem hn, List.filterMap_append, List.map_append]
    congr 1
    have hd : L.getD n none = L[n] := by simp [List.getD, hn]
    rw [hd]
    cases hx : L[n] with
    | none => rfl
    | some m =>
      show [L.getD n none] = [some m]
      rw [hd, hx]
theorem kept_map (L : List (Option Mk)) : (ksF L L.length).map (fun k => L.getD k none) = (keptF L).map some := by
  have := ks_kept L L.length (Nat.le_refl _)
  rwa [List.take_length] at this
theorem kept_len (L : List (Option Mk)) : (keptF L).length = (ksF L L.length).length := by
  have := congrArg List.length (kept_map L)
  simpa using this.symm
theorem kept_at (L : List (Option Mk)) {i : Nat} (h1 : i < (ksF L L.length).length) (h2 : i < (keptF L).length) : L.getD (ksF L L.length)[i] none = some (keptF L)[i] := by
  have := congrArg (·[i]?) (kept_map L)
  simp only [List.getElem?_map, List.getElem?_eq_getElem h1, List.getElem?_eq_getElem h2, Option.map_some, Option.some.injEq] at this
  exact this
theorem kept_ok {L : List (Option Mk)} {n : Nat} (h : ∀ m m', m ∈ L → m = some m' → m'.ok n) : ∀ m ∈ keptF L, m.ok n := by
  intro m hm
  unfold keptF at hm
  rw [List.mem_filterMap] at hm
  obtain ⟨o, h1, h2⟩ := hm
  exact h o m h1 h2
def nat' (ks : List Nat) : List D := ks.map fun k : Nat => D.int (k : Int)
theorem pure_nats : ∀ ks : List Nat, pureL (nat' ks) = true
  | [] => rfl
  | k :: ks => by simp only [nat', List.map_cons, pureL, D.pure, Bool.true_and]; exact pure_nats ks
theorem nats_at {ks : List Nat} {i : Nat} (h : i < ks.length) : atI (nat' ks) (i : Int) = some (.int ((ks[i] : Nat) : Int)) := by
  rw [atD_nat (by simpa [nat'] using h)]
  simp [nat', h]
theorem os_at {L : List (Option Mk)} {i : Nat} (h : i < L.length) : atI (L.map oD) (i : Int) = some (oD (L.getD i none)) := by
  rw [atD_nat (by simpa using h), List.getElem?_map, List.getElem?_eq_getElem h]
  simp [List.getD, h]
theorem flat_non : ∀ n : Nat, (List.replicate n [D.non]).flatten = List.replicate n D.non
  | 0 => rfl
  | n + 1 => by rw [List.replicate_succ, List.flatten_cons, flat_non n]; rfl
theorem O_mulN {m : Bool} {k : Nat} {Qd : D → Prop} (h : k ≤ 1000) (q : Qd (.lst true (List.replicate k .non))) : WO (opD (.bin .Mult) [.lst m [.non], .int (k : Int)]) Qd := by
  refine ⟨_, ?_, q⟩
  have h2 : ((k : Int)).toNat = k := by omega
  have h1 : (pureL [D.non] && decide (-(2 ^ 63) ≤ (k : Int)) && decide ((k : Int) < 2 ^ 63) && decide ([D.non].length * k ≤ lim)) = true := by
    simp only [Bool.and_eq_true, decide_eq_true_eq]
    refine ⟨⟨⟨by simp [pureL, D.pure], by omega⟩, by omega⟩, ?_⟩
    simp [lim]; omega
  have h3 := flat_non k
  simp only [opD, binO, mulO, h2, h3, h1, if_true]
/-- what is due, filled up to i -/
def dueF (L : List (Option Mk)) (v : Nat → D) (n i : Nat) : List D := (List.range n).map fun r => if r ∈ (ksF L L.length).take i then v r else .non
theorem due0 (L : List (Option Mk)) (v : Nat → D) (n : Nat) : dueF L v n 0 = List.replicate n .non := by
  unfold dueF
  simp only [List.take_zero, List.not_mem_nil, if_false]
  apply List.ext_getElem <;> simp
theorem due_succ {L : List (Option Mk)} {v : Nat → D} {n i k : Nat} (hi : i < (ksF L L.length).length) (hk : (ksF L L.length)[i] = k) (hn : k < n) : setAt (dueF L v n i) (k : Int) (v k) = some (dueF L v n (i + 1)) := by
  unfold dueF
  rw [setAt_rng hn]
  congr 2
  funext r
  rw [List.take_succ_eq_append_getElem hi, hk]
  by_cases e : r = k
  · subst e; simp
  · simp [e]
theorem due_all {L : List (Option Mk)} {f : Mk → Option Mk} : dueF L (fun r => oD ((L.getD r none).bind f)) L.length (ksF L L.length).length = (L.map fun o => o.bind f).map oD := by
  unfold dueF
  rw [List.take_length]
  apply List.ext_getElem
  · simp
  · intro r h1 h2
    simp only [List.getElem_map, List.getElem_range]
    have hr : r < L.length := by simpa using h1
    have hd : L.getD r none = L[r] := by simp [List.getD, hr]
    by_cases hm : r ∈ ksF L L.length
    · rw [if_pos hm, hd]
    · rw [if_neg hm]
      have : ¬ (L.getD r none).isSome = true := fun z => hm ((ksF_mem hr).mpr z)
      rw [hd] at this
      cases hx : L[r] with
      | none => rfl
      | some m => rw [hx] at this; exact absurd rfl this
theorem rngO_n (k : Nat) : (rngO 0 (k : Int)).length = k := by rw [rngO_len]; omega
theorem nat_len (ks : List Nat) : (nat' ks).length = ks.length := by simp [nat']
end VI

namespace VI
open PySem L2
def small (es : List Ed) (k : Nat) : Prop := ∀ a w, Ed.put a w ∈ es → w.length ≤ k
def puts (es : List Ed) : Prop := ∀ a n, Ed.cut a n ∉ es
theorem puts_cons {e : Ed} {es : List Ed} (h : puts (e :: es)) : ∃ a w, e = .put a w ∧ puts es := by
  cases e with
  | cut a n => exact absurd (List.mem_cons_self) (h a n)
  | put a w => exact ⟨a, w, rfl, fun b n z => h b n (List.mem_cons_of_mem _ z)⟩
theorem puts_snoc {es : List Ed} {a : Nat} {w : List Nat} (h : puts es) : puts (es ++ [.put a w]) := by
  intro b n z
  rcases List.mem_append.mp z with z | z
  · exact h b n z
  · simp at z
theorem small_snoc {es : List Ed} {k a : Nat} {w : List Nat} (h : small es k) (hw : w.length ≤ k) : small (es ++ [.put a w]) k := by
  intro b v z
  rcases List.mem_append.mp z with z | z
  · exact h b v z
  · simp at z; rw [z.2]; exact hw
theorem small_cut {es : List Ed} {k a n : Nat} (h : small es k) : small (es ++ [.cut a n]) k := by
  intro b v z
  rcases List.mem_append.mp z with z | z
  · exact h b v z
  · simp at z
theorem small_tail {e : Ed} {es : List Ed} {k : Nat} (h : small (e :: es) k) : small es k := fun a w z => h a w (List.mem_cons_of_mem _ z)
theorem apps_small : ∀ {es : List Ed} {s : List Nat} {k : Nat}, okAll es s → small es k → (apps es s).length ≤ s.length + k * es.length
  | [], s, k, _, _ => by simp [apps]
  | e :: es, s, k, ho, hs => by
    have ih := apps_small (es := es) (s := e.app s) ho.2 (small_tail hs)
    have o1 := ho.1
    have : (e.app s).length ≤ s.length + k := by
      cases e with
      | cut a n =>
        obtain ⟨q1, q2⟩ := o1
        simp only [Ed.app, List.length_append, List.length_take, List.length_drop]; omega
      | put a w =>
        obtain ⟨q1, q2, q3, q4⟩ := o1
        have := hs a w List.mem_cons_self
        simp only [Ed.app, List.length_append, List.length_take, List.length_drop]; omega
    simp only [apps, List.length_cons, Nat.mul_add, Nat.mul_one]; omega
/-- where a stretch comes to by puts -/
theorem ledE_puts : ∀ {es : List Ed} {q : Nat × Nat}, puts es → q.1 < q.2 → ∃ q' : Nat × Nat, ledE es (some q) = some q' ∧ q'.1 < q'.2 ∧ q.1 ≤ q'.1 ∧ q.2 - q.1 ≤ q'.2 - q'.1
  | [], q, _, h => ⟨q, rfl, h, Nat.le_refl _, Nat.le_refl _⟩
  | e :: es, q, hp, h => by
    obtain ⟨a, w, rfl, hp2⟩ := puts_cons hp
    obtain ⟨f, p⟩ := q
    have hq : (f + (if a ≤ f then w.length else 0)) < (p + (if a < p then w.length else 0)) ∧ p - f ≤ (p + (if a < p then w.length else 0)) - (f + (if a ≤ f then w.length else 0)) := by
      dsimp only at h
      split <;> split <;> omega
    obtain ⟨q', e1, e2, e3, e4⟩ := ledE_puts (es := es) (q := (f + (if a ≤ f then w.length else 0), p + (if a < p then w.length else 0))) hp2 hq.1
    refine ⟨q', e1, e2, ?_, ?_⟩
    · dsimp only at e3 ⊢; omega
    · dsimp only at e4 ⊢; omega
theorem led1_back {a : Nat} {w s : List Nat} {q q' : Nat × Nat} (h : q.1 < q.2) (e : led1 (.put a w) q = some q') : led1 ((Ed.put a w).inv s) q' = some q := by
  obtain ⟨f, p⟩ := q
  simp only [led1, Option.some.injEq] at e
  subst e
  simp only [Ed.inv, led1]
  dsimp only at h
  have h1 : (f + (if a ≤ f then w.length else 0)) - min w.length ((f + (if a ≤ f then w.length else 0)) - a) = f := by split <;> omega
  have h2 : (p + (if a < p then w.length else 0)) - min w.length ((p + (if a < p then w.length else 0)) - a) = p := by split <;> omega
  rw [h1, h2, if_pos h]
theorem ledE_back : ∀ {es : List Ed} {s : List Nat} {q q' : Nat × Nat}, puts es → q.1 < q.2 → ledE es (some q) = some q' → ledE (invs es s) (some q') = some q
  | [], s, q, q', _, _, h => by cases h; rfl
  | e :: es, s, q, q', hp, hq, h => by
    obtain ⟨a, w, rfl, hp2⟩ := puts_cons hp
    simp only [ledE, Option.bind_some] at h
    cases hr : led1 (.put a w) q with
    | none => rw [hr, ledE_none] at h; cases h
    | some r =>
      rw [hr] at h
      have hr2 : r.1 < r.2 := by
        obtain ⟨f, p⟩ := q
        simp only [led1, Option.some.injEq] at hr
        subst hr
        dsimp only at hq ⊢
        split <;> split <;> omega
      have ih := ledE_back (es := es) (s := (Ed.put a w).app s) hp2 hr2 h
      simp only [invs]
      rw [ledE_app, ih]
      simp only [ledE, Option.bind_some]
      exact led1_back hq hr
theorem overM_puts {es : List Ed} {m : Mk} {n : Nat} (hp : puts es) (hm : m.ok n) : ∃ m', overM es m = some m' ∧ m'.hand = m.hand ∧ m'.layer = m.layer ∧ m'.word = m.word ∧ m.first ≤ m'.first ∧ m.past - m.first ≤ m'.past - m'.first ∧ m'.first < m'.past ∧ ∀ s, overM (invs es s) m' = some m := by
  obtain ⟨q', e1, e2, e3, e4⟩ := ledE_puts (q := (m.first, m.past)) hp hm.2.2.2.1
  refine ⟨m.at' q', by unfold overM; rw [e1]; rfl, rfl, rfl, rfl, e3, e4, e2, fun s => ?_⟩
  have := ledE_back (s := s) hp hm.2.2.2.1 e1
  unfold overM
  show (ledE (invs es s) (some (q'.1, q'.2))).map _ = _
  rw [show ((q'.1, q'.2) : Nat × Nat) = q' from rfl, this]
  rfl
/-- all marks over puts -/
def overP (es : List Ed) (m : Mk) : Mk := (overM es m).getD m
theorem overP_map {es : List Ed} {ms : List Mk} {n : Nat} (hp : puts es) (hm : ∀ m ∈ ms, m.ok n) : ms.map (overM es) = (ms.map (overP es)).map some := by
  rw [List.map_map]
  apply List.map_congr_left
  intro m h
  obtain ⟨m', e, _⟩ := overM_puts hp (hm m h)
  show overM es m = some (overP es m)
  unfold overP
  rw [e]; rfl
theorem some_oD (ms : List Mk) : (ms.map some).map oD = ms.map Mk.d := by rw [List.map_map]; rfl
theorem overP_back {es : List Ed} {ms : List Mk} {n : Nat} (s : List Nat) (hp : puts es) (hm : ∀ m ∈ ms, m.ok n) : (ms.map (overP es)).map (overM (invs es s)) = ms.map some := by
  rw [List.map_map]
  apply List.map_congr_left
  intro m h
  obtain ⟨m', e, _, _, _, _, _, _, hb⟩ := overM_puts hp (hm m h)
  show overM (invs es s) (overP es m) = some m
  unfold overP
  rw [e]; exact hb s
/-! edits behind -/
def Ed.sh (k : Nat) : Ed → Ed
  | .cut a n => .cut (a + k) n
  | .put a w => .put (a + k) w
theorem sh_app {e : Ed} {pre t : List Nat} : (e.sh pre.length).app (pre ++ t) = pre ++ e.app t := by
  cases e with
  | cut a n =>
    simp only [Ed.sh, Ed.app]
    rw [show a + pre.length = pre.length + a by omega, List.take_length_add_append, Nat.add_assoc, List.drop_length_add_append, List.append_assoc]
  | put a w =>
    simp only [Ed.sh, Ed.app]
    rw [show a + pre.length = pre.length + a by omega, List.take_length_add_append, List.drop_length_add_append]
    simp only [List.append_assoc]
theorem sh_okAll : ∀ {es : List Ed} {pre t : List Nat} {k : Nat}, okAll es t → small es k → pre.length + t.length + k * es.length ≤ 80 → okAll (es.map (Ed.sh pre.length)) (pre ++ t)
  | [], _, _, _, _, _, _ => trivial
  | e :: es, pre, t, k, ho, hs, hl => by
    simp only [List.map_cons, okAll]
    rw [sh_app]
    have o1 := ho.1
    simp only [List.length_cons, Nat.mul_add, Nat.mul_one] at hl
    refine ⟨?_, sh_okAll (es := es) (t := e.app t) (k := k) ho.2 (small_tail hs) ?_⟩
    · cases e with
      | cut a n => obtain ⟨q1, q2⟩ := o1; exact ⟨q1, by simp; omega⟩
      | put a w =>
        obtain ⟨q1, q2, q3, q4⟩ := o1
        have := hs a w List.mem_cons_self
        exact ⟨by simp; omega, q2, by simp; omega, q4⟩
    · cases e with
      | cut a n =>
        obtain ⟨q1, q2⟩ := o1
        simp only [Ed.app, List.length_append, List.length_take, List.length_drop]; omega
      | put a w =>
        obtain ⟨q1, q2, q3, q4⟩ := o1
        have := hs a w List.mem_cons_self
        simp only [Ed.app, List.length_append, List.length_take, List.length_drop]; omega
theorem sh_led : ∀ (es : List Ed) {k : Nat} {q : Nat × Nat}, q.1 < q.2 → q.2 ≤ k → ledE (es.map (Ed.sh k)) (some q) = some q
  | [], _, _, _, _ => rfl
  | e :: es, k, q, h1, h2 => by
    have : led1 (e.sh k) q = some q := by
      obtain ⟨f, p⟩ := q
      dsimp only at h1 h2
      cases e with
      | cut a n =>
        simp only [Ed.sh, led1]
        rw [show f - min n (f - (a + k)) = f by omega, show p - min n (p - (a + k)) = p by omega, if_pos h1]
      | put a w =>
        simp only [Ed.sh, led1]
        rw [if_neg (by omega), if_neg (by omega)]; rfl
    simp only [List.map_cons, ledE, Option.bind_some, this]
    exact sh_led es h1 h2
theorem sh_over (es : List Ed) {k n : Nat} {ms : List Mk} (hm : ∀ m ∈ ms, m.ok n) (hk : ∀ m ∈ ms, m.past ≤ k) : ms.map (overM (es.map (Ed.sh k))) = ms.map some := by
  apply List.map_congr_left
  intro m h
  unfold overM
  rw [sh_led es (hm m h).2.2.2.1 (hk m h)]
  rfl
theorem maxL_ge : ∀ {ns : List Int} {n : Int}, n ∈ ns → n ≤ maxL ns
  | [x], n, h => by simp at h; subst h; exact Int.le_refl _
  | x :: y :: r, n, h => by
    have ih := fun m => maxL_ge (ns := y :: r) (n := m)
    simp only [maxL]
    rcases List.mem_cons.mp h with rfl | h
    · split <;> omega
    · have := ih n h
      split <;> omega
theorem maxL_mem : ∀ {ns : List Int}, ns ≠ [] → maxL ns ∈ ns
  | [], h => absurd rfl h
  | [x], _ => by simp [maxL]
  | x :: y :: r, _ => by
    have ih := maxL_mem (ns := y :: r) (by simp)
    simp only [maxL]
    split
    · exact List.mem_cons_of_mem _ ih
    · exact List.mem_cons_self
theorem O_neR {m m' : Bool} {xs : List D} {Qd : D → Prop} (h1 : ∀ x ∈ xs, okD 11 x = true) (h2 : ∀ x ∈ xs, deq x x = true) (q : Qd (.bl false)) : WO (opD (.cmp .NotEq) [.lst m xs, .lst m' xs]) Qd := by
  have e1 : ∀ m, okD deep (.lst m xs) = true := fun m => by
    unfold deep
    simp only [okD, List.all_eq_true]
    exact h1
  have e2 : ∀ ys : List D, (∀ x ∈ ys, deq x x = true) → deqL ys ys = true := by
    intro ys
    induction ys with
    | nil => intro _; rfl
    | cons y ys ih => intro h; simp only [deqL, h y List.mem_cons_self, ih fun x hx => h x (List.mem_cons_of_mem _ hx), Bool.and_self]
  exact ⟨.bl false, by simp only [opD, cmpO, cmpB, eqO, e1, Bool.and_self, if_true, deq, e2 xs h2, Option.map_some, Bool.not_true], q⟩
def sgD (m : Mk) : D := .tup [.str m.hand, .str m.layer, .str m.word]
theorem O_neG {m m' : Bool} {ms : List Mk} {Qd : D → Prop} (q : Qd (.bl false)) : WO (opD (.cmp .NotEq) [.lst m (ms.map sgD), .lst m' (ms.map sgD)]) Qd := by
  refine O_neR ?_ ?_ q
  · intro x hx
    obtain ⟨e, _, rfl⟩ := List.mem_map.mp hx
    simp [sgD, okD]
  · intro x hx
    obtain ⟨e, _, rfl⟩ := List.mem_map.mp hx
    simp [sgD, deq, deqL]
theorem inO_non : ∀ ms : List Mk, inO .non (ms.map Mk.d) = false
  | [] => rfl
  | m :: ms => by
    simp only [List.map_cons, inO, inO_non ms, Bool.or_false]
    simp [Mk.d, deq]
theorem O_inNon {m : Bool} {ms : List Mk} {Qd : D → Prop} (q : Qd (.bl false)) : WO (opD (.cmp .In) [.non, .lst m (ms.map Mk.d)]) Qd := by
  have h : ((okD deep D.non) && (ms.map Mk.d).all (okD deep)) = true := by
    unfold deep
    simp only [okD, Bool.true_and, List.all_eq_true]
    intro x hx
    obtain ⟨e, _, rfl⟩ := List.mem_map.mp hx
    simp [Mk.d, okD]
  exact ⟨.bl false, by simp only [opD, cmpO, cmpB, memO, h, if_true, inO_non, Option.map_some], q⟩
theorem ms_at {ms : List Mk} {i : Nat} {x : D} (h : (ms.map Mk.d)[i]? = some x) : ∃ hi : i < ms.length, x = (ms[i]).d := by
  have hi : i < ms.length := by
    have := (List.getElem?_eq_some_iff.mp h).1
    simpa using this
  refine ⟨hi, ?_⟩
  rw [List.getElem?_map, List.getElem?_eq_getElem hi] at h
  simpa using h.symm
theorem es_at {es : List Ed} {i : Nat} {x : D} (h : (es.map Ed.d)[i]? = some x) : ∃ hi : i < es.length, x = (es[i]).d := by
  have hi : i < es.length := by
    have := (List.getElem?_eq_some_iff.mp h).1
    simpa using this
  refine ⟨hi, ?_⟩
  rw [List.getElem?_map, List.getElem?_eq_getElem hi] at h
  simpa using h.symm
theorem ints_nat' : ∀ ks : List Nat, intsO (nat' ks ++ [.int 0]) = some ((ks.map fun k : Nat => (k : Int)) ++ [0])
  | [] => rfl
  | k :: ks => by
    have := ints_nat' ks
    simp only [nat', List.map_cons, List.cons_append, intsO] at this ⊢
    rw [this]; rfl
theorem max_past (ms : List Mk) (n : Nat) (hm : ∀ m ∈ ms, m.ok n) : ∃ E : Nat, opD (.fn .max) [.lst true (nat' (ms.map (·.past)) ++ [.int 0])] = some (.int (E : Int)) ∧ E ≤ n ∧ ∀ m ∈ ms, m.past ≤ E := by
  have hne : ((ms.map (·.past)).map (fun k : Nat => (k : Int)) ++ [0]) ≠ [] := by simp
  have hmem := maxL_mem hne
  have hge := fun m => maxL_ge (ns := (ms.map (·.past)).map (fun k : Nat => (k : Int)) ++ [0]) (n := m)
  have h0 := hge 0 (by simp)
  refine ⟨(maxL ((ms.map (·.past)).map (fun k : Nat => (k : Int)) ++ [0])).toNat, ?_, ?_, ?_⟩
  · rw [Int.toNat_of_nonneg h0]
    simp only [opD, fnO, maxO, ints_nat', Option.bind_some]
    rw [if_neg hne]
  · rcases List.mem_append.mp hmem with h | h
    · obtain ⟨p, hp, e⟩ := List.mem_map.mp h
      obtain ⟨m, hmm, rfl⟩ := List.mem_map.mp hp
      have := (hm m hmm).2.2.2.2
      omega
    · have h := List.mem_singleton.mp h
      omega
  · intro m h
    have := hge (m.past : Int) (List.mem_append.mpr (.inl (List.mem_map.mpr ⟨m.past, List.mem_map.mpr ⟨m, h, rfl⟩, rfl⟩)))
    omega
end VI

namespace VI
open PySem L2
abbrev w_same : List Nat := [115, 97, 109, 101]
abbrev w_ahead : List Nat := [97, 104, 101, 97, 100]
abbrev w_behind : List Nat := [98, 101, 104, 105, 110, 100]
abbrev w_meets : List Nat := [109, 101, 101, 116, 115]
abbrev w_met : List Nat := [109, 101, 116]
abbrev w_begins : List Nat := [98, 101, 103, 105, 110, 115]
abbrev w_begun : List Nat := [98, 101, 103, 117, 110]
abbrev w_ends : List Nat := [101, 110, 100, 115]
abbrev w_ended : List Nat := [101, 110, 100, 101, 100]
abbrev w_within : List Nat := [119, 105, 116, 104, 105, 110]
abbrev w_crossed : List Nat := [99, 114, 111, 115, 115, 101, 100]
abbrev w_holds : List Nat := [104, 111, 108, 100, 115]
abbrev w_crosses : List Nat := [99, 114, 111, 115, 115, 101, 115]
def wordF (f p g q : Nat) : List Nat :=
  if f = g ∧ p = q then w_same else if p < g then w_ahead else if q < f then w_behind else if p = g then w_meets else if q = f then w_met
  else if f = g then (if p < q then w_begins else w_begun) else if p = q then (if g < f then w_ends else w_ended)
  else if g < f then (if p < q then w_within else w_crossed) else (if q < p then w_holds else w_crosses)
def crossP (f p g q : Nat) : Prop := (f < g ∧ g < p ∧ p < q) ∨ (g < f ∧ f < q ∧ q < p)
instance (f p g q : Nat) : Decidable (crossP f p g q) := by unfold crossP; infer_instance
theorem in_cross {f p g q : Nat} (h1 : f < p) (h2 : g < q) : inO (.str (wordF f p g q)) [.str w_crosses, .str w_crossed] = decide (crossP f p g q) := by
  unfold wordF
  repeat' split
  all_goals (simp only [inO, deq]; rw [show (decide _ || (decide _ || false)) = decide (crossP f p g q) from by
    first
      | (rw [decide_eq_true (p := crossP f p g q) (by unfold crossP; omega)]; decide)
      | (rw [decide_eq_false (p := crossP f p g q) (by unfold crossP; omega)]; decide)])
theorem in_apart {f p g q : Nat} (h1 : f < p) (h2 : g < q) : inO (.str (wordF f p g q)) [.str w_ahead, .str w_behind, .str w_meets, .str w_met] = decide (p ≤ g ∨ q ≤ f) := by
  unfold wordF
  repeat' split
  all_goals (simp only [inO, deq]; rw [show (decide _ || (decide _ || (decide _ || (decide _ || false)))) = decide (p ≤ g ∨ q ≤ f) from by
    first
      | (rw [decide_eq_true (p := p ≤ g ∨ q ≤ f) (by omega)]; decide)
      | (rw [decide_eq_false (p := p ≤ g ∨ q ≤ f) (by omega)]; decide)])
theorem in_hold {f p g q : Nat} (h1 : f < p) (h2 : g < q) : inO (.str (wordF f p g q)) [.str w_holds, .str w_begun, .str w_ended, .str w_same] = decide (f ≤ g ∧ q ≤ p) := by
  unfold wordF
  repeat' split
  all_goals (simp only [inO, deq]; rw [show (decide _ || (decide _ || (decide _ || (decide _ || false)))) = decide (f ≤ g ∧ q ≤ p) from by
    first
      | (rw [decide_eq_true (p := f ≤ g ∧ q ≤ p) (by omega)]; decide)
      | (rw [decide_eq_false (p := f ≤ g ∧ q ≤ p) (by omega)]; decide)])
theorem O_eqP {a b c d : Int} {Qd : D → Prop} (q : Qd (.bl (decide (a = c ∧ b = d)))) : WO (opD (.cmp .Eq) [.tup [.int a, .int b], .tup [.int c, .int d]]) Qd := by
  refine ⟨_, ?_, q⟩
  simp only [opD, cmpO, cmpB, eqO, okD, deep, List.all_cons, List.all_nil, Bool.and_self, if_true, deq, deqL, Bool.and_true, Option.map_some]
  congr 2
  by_cases h1 : a = c <;> by_cases h2 : b = d <;> simp [h1, h2]
/-! pairs in turn -/
def pairD (p : Nat × Nat) : D := .tup [.int (p.1 : Int), .int (p.2 : Int)]
def rowP (i k : Nat) (P : Nat → Nat → Bool) : List (Nat × Nat) := ((List.range k).filter fun j => decide (i < j) && P i j).map fun j => (i, j)
def crF (k n : Nat) (P : Nat → Nat → Bool) : List (Nat × Nat) := (List.range k).flatMap fun i => rowP i n P
theorem rowP_succ (i k : Nat) (P : Nat → Nat → Bool) : rowP i (k + 1) P = rowP i k P ++ if (decide (i < k) && P i k) = true then [(i, k)] else [] := by
  unfold rowP
  rw [List.range_succ, List.filter_append, List.map_append, List.filter_cons, List.filter_nil]
  split <;> rfl
theorem rowP_low {i : Nat} (P : Nat → Nat → Bool) : ∀ {k : Nat}, k ≤ i + 1 → rowP i k P = []
  | 0, _ => rfl
  | k + 1, h => by
    rw [rowP_succ, rowP_low P (by omega), if_neg (by simp; omega)]; rfl
theorem crF_succ (k n : Nat) (P : Nat → Nat → Bool) : crF (k + 1) n P = crF k n P ++ rowP k n P := by
  unfold crF
  rw [List.range_succ, List.flatMap_append]; simp
theorem rowP_len (i k : Nat) (P : Nat → Nat → Bool) : (rowP i k P).length ≤ k := by
  unfold rowP
  have := List.length_filter_le (fun j => decide (i < j) && P i j) (List.range k)
  simpa using this
theorem crF_len (n : Nat) (P : Nat → Nat → Bool) : ∀ k, (crF k n P).length ≤ k * n
  | 0 => by simp [crF]
  | k + 1 => by
    have := crF_len n P k
    have h2 := rowP_len k n P
    rw [crF_succ, List.length_append, Nat.succ_mul]; omega
theorem crF_mem {n : Nat} {P : Nat → Nat → Bool} {i j : Nat} : (i, j) ∈ crF n n P ↔ i < j ∧ j < n ∧ P i j = true := by
  unfold crF rowP
  simp only [List.mem_flatMap, List.mem_range, List.mem_map, List.mem_filter, Bool.and_eq_true, decide_eq_true_eq, Prod.mk.injEq]
  constructor
  · rintro ⟨a, ha, b, ⟨hb1, hb2, hb3⟩, rfl, rfl⟩
    exact ⟨hb2, hb1, hb3⟩
  · rintro ⟨h1, h2, h3⟩
    exact ⟨i, by omega, j, ⟨h2, h1, h3⟩, rfl, rfl⟩
theorem pure_prs : ∀ ps : List (Nat × Nat), pureL (ps.map pairD) = true
  | [] => rfl
  | p :: ps => by
    have := pure_prs ps
    simp only [List.map_cons, pureL, this, Bool.and_true]
    rfl
theorem I_rng2 {i n : Nat} {P : List D → Prop} (h1 : i ≤ 1000) (h2 : n ≤ 1000) (q : P (rngO ((i : Int) + 1) (n : Int))) : ∃ xs, itD .rng (frzL [.int ((i : Int) + 1), .int (n : Int)]) = some xs ∧ P xs := by
  refine ⟨_, ?_, q⟩
  have e1 : frzL [D.int ((i : Int) + 1), .int (n : Int)] = [D.int ((i : Int) + 1), .int (n : Int)] := by simp [frzL, D.frz]
  rw [e1]
  have e2 : in62 ((i : Int) + 1) = true := by
    unfold in62
    simp only [Bool.and_eq_true, decide_eq_true_eq]
    omega
  have e3 : in62 (n : Int) = true := by
    unfold in62
    simp only [Bool.and_eq_true, decide_eq_true_eq]
    omega
  simp only [itD, rngs, e2, e3, Bool.and_self, if_true]
theorem rngO2_len (i n : Nat) : (rngO ((i : Int) + 1) (n : Int)).length = n - (i + 1) := by
  unfold rngO
  simp; omega
theorem rngO2_at {i n k : Nat} {x : D} (h : (rngO ((i : Int) + 1) (n : Int))[k]? = some x) : i + 1 + k < n ∧ x = .int ((i + 1 + k : Nat) : Int) := by
  have hk := (List.getElem?_eq_some_iff.mp h).1
  rw [rngO2_len] at hk
  refine ⟨by omega, ?_⟩
  unfold rngO at h
  rw [List.getElem?_map, List.getElem?_range (by omega)] at h
  simp only [Option.map_some, Option.some.injEq] at h
  rw [← h]
  congr 1
def spF (ms : List Mk) (i : Nat) : Nat := (ms[i]?.map (·.first)).getD 0
def spP (ms : List Mk) (i : Nat) : Nat := (ms[i]?.map (·.past)).getD 0
def crossB (ms : List Mk) (i j : Nat) : Bool := decide (crossP (spF ms i) (spP ms i) (spF ms j) (spP ms j))
theorem spF_at {ms : List Mk} {i : Nat} (h : i < ms.length) : spF ms i = (ms[i]).first := by unfold spF; rw [List.getElem?_eq_getElem h]; rfl
theorem spP_at {ms : List Mk} {i : Nat} (h : i < ms.length) : spP ms i = (ms[i]).past := by unfold spP; rw [List.getElem?_eq_getElem h]; rfl
theorem seq_at {b : Option Bool} {ms : List Mk} {i : Nat} {Qd : D → Prop} (h : i < ms.length) (q : Qd (ms[i]).d) : WO (opD .ix [seqL b (ms.map Mk.d), .int (i : Int)]) Qd := by
  have e : atI (ms.map Mk.d) (i : Int) = some (ms[i]).d := by
    rw [atD_nat (by simpa using h), List.getElem?_map, List.getElem?_eq_getElem h]; rfl
  cases b with
  | some m => exact O_ixL e q
  | none => exact O_ixT e q
theorem O_lenQ {b : Option Bool} {xs : List D} {Qd : D → Prop} (q : Qd (.int (xs.length : Int))) : WO (opD (.fn .len) [seqL b xs]) Qd := by
  cases b with
  | some m => exact ⟨_, rfl, q⟩
  | none => exact ⟨_, rfl, q⟩
end VI

namespace VI
open PySem L2
structure Keeps (q r q' r' : Nat × Nat) : Prop where
  cr : crossP q'.1 q'.2 r'.1 r'.2 → crossP q.1 q.2 r.1 r.2
  ap : (q.2 ≤ r.1 ∨ r.2 ≤ q.1) → (q'.2 ≤ r'.1 ∨ r'.2 ≤ q'.1)
  ho : (q.1 ≤ r.1 ∧ r.2 ≤ q.2) → (q'.1 ≤ r'.1 ∧ r'.2 ≤ q'.2)
theorem led1_keeps {e : Ed} {q r q' r' : Nat × Nat} (hq : q.1 < q.2) (hr : r.1 < r.2) (e1 : led1 e q = some q') (e2 : led1 e r = some r') : Keeps q r q' r' ∧ q'.1 < q'.2 ∧ r'.1 < r'.2 := by
  obtain ⟨f, p⟩ := q
  obtain ⟨g, s⟩ := r
  cases e with
  | cut a n =>
    simp only [led1] at e1 e2
    split at e1
    · split at e2
      · cases e1
        cases e2
        dsimp only at *
        refine ⟨⟨?_, ?_, ?_⟩, by assumption, by assumption⟩
        · unfold crossP; omega
        · dsimp only; omega
        · dsimp only; omega
      · cases e2
    · cases e1
  | put a w =>
    simp only [led1, Option.some.injEq] at e1 e2
    subst e1 e2
    dsimp only at *
    refine ⟨⟨?_, ?_, ?_⟩, ?_, ?_⟩
    · unfold crossP; dsimp only; split <;> split <;> split <;> split <;> omega
    · dsimp only; split <;> split <;> split <;> split <;> omega
    · dsimp only; split <;> split <;> split <;> split <;> omega
    · split <;> split <;> omega
    · split <;> split <;> omega
theorem ledE_keeps : ∀ {es : List Ed} {q r q' r' : Nat × Nat}, q.1 < q.2 → r.1 < r.2 → ledE es (some q) = some q' → ledE es (some r) = some r' → Keeps q r q' r'
  | [], q, r, q', r', _, _, h1, h2 => by
    cases h1
    cases h2
    exact ⟨id, id, id⟩
  | e :: es, q, r, q', r', hq, hr, h1, h2 => by
    simp only [ledE, Option.bind_some] at h1 h2
    cases e1 : led1 e q with
    | none => rw [e1, ledE_none] at h1; cases h1
    | some q1 =>
      cases e2 : led1 e r with
      | none => rw [e2, ledE_none] at h2; cases h2
      | some r1 =>
        rw [e1] at h1
        rw [e2] at h2
        obtain ⟨k, l1, l2⟩ := led1_keeps hq hr e1 e2
        have ih := ledE_keeps l1 l2 h1 h2
        exact ⟨fun z => k.cr (ih.cr z), fun z => ih.ap (k.ap z), fun z => ih.ho (k.ho z)⟩
theorem overM_keeps {es : List Ed} {m1 m2 m1' m2' : Mk} (h1 : m1.first < m1.past) (h2 : m2.first < m2.past) (e1 : overM es m1 = some m1') (e2 : overM es m2 = some m2') : Keeps (m1.first, m1.past) (m2.first, m2.past) (m1'.first, m1'.past) (m2'.first, m2'.past) := by
  unfold overM at e1 e2
  rw [Option.map_eq_some_iff] at e1 e2
  obtain ⟨q, a1, rfl⟩ := e1
  obtain ⟨r, a2, rfl⟩ := e2
  exact ledE_keeps (q := (m1.first, m1.past)) (r := (m2.first, m2.past)) h1 h2 a1 a2
/-! trees -/
def holdB (ms : List Mk) (i j : Nat) : Bool := decide (j ≠ i ∧ spF ms j ≤ spF ms i ∧ spP ms i ≤ spP ms j ∧ (¬ (spF ms j = spF ms i ∧ spP ms j = spP ms i) ∨ j < i))
def hpD (ms : List Mk) (j : Nat) : D := .tup [.int ((spP ms j : Int) - (spF ms j : Int)), .int ((0 : Int) - (j : Int))]
def hlF (ms : List Mk) (i k : Nat) : List Nat := (List.range k).filter (holdB ms i)
theorem hlF_succ (ms : List Mk) (i k : Nat) : hlF ms i (k + 1) = hlF ms i k ++ if holdB ms i k = true then [k] else [] := by
  unfold hlF
  rw [List.range_succ, List.filter_append, List.filter_cons, List.filter_nil]
theorem hlF_mem {ms : List Mk} {i k j : Nat} : j ∈ hlF ms i k ↔ j < k ∧ holdB ms i j = true := by
  unfold hlF
  rw [List.mem_filter, List.mem_range]
theorem hlF_len (ms : List Mk) (i k : Nat) : (hlF ms i k).length ≤ k := by
  unfold hlF
  have := List.length_filter_le (holdB ms i) (List.range k)
  simpa using this
theorem prs_hp (ms : List Mk) : ∀ l : List Nat, prsO (l.map (hpD ms)) = some (l.map fun j => ((spP ms j : Int) - (spF ms j : Int), (0 : Int) - (j : Int)))
  | [] => rfl
  | j :: l => by
    have := prs_hp ms l
    simp only [List.map_cons, hpD, prsO] at this ⊢
    rw [this]; rfl
theorem O_minH {ms : List Mk} {m : Bool} {k : Nat} {l : List Nat} {Qd : D → Prop} (q : ∀ j, j ∈ k :: l → Qd (hpD ms j)) : WO (opD (.fn .min) [.lst m ((k :: l).map (hpD ms))]) Qd := by
  have hne : (k :: l).map (fun j => ((spP ms j : Int) - (spF ms j : Int), (0 : Int) - (j : Int))) ≠ [] := by simp
  obtain ⟨h1, _⟩ := minP_min hne
  obtain ⟨j, hj, e⟩ := List.mem_map.mp h1
  refine ⟨hpD ms j, ?_, q j hj⟩
  have h2 : intsO ((k :: l).map (hpD ms)) = none := rfl
  simp only [opD, fnO, minO, h2, prs_hp, Option.map_some]
  rw [← e]; rfl
theorem O_neH {ms : List Mk} {m m' : Bool} {k : Nat} {l : List Nat} {Qd : D → Prop} (q : Qd (.bl true)) : WO (opD (.cmp .NotEq) [.lst m ((k :: l).map (hpD ms)), .lst m' []]) Qd := by
  have e1 : okD deep (.lst m ((k :: l).map (hpD ms))) = true := by
    unfold deep
    simp only [okD, List.all_eq_true]
    intro x hx
    obtain ⟨j, _, rfl⟩ := List.mem_map.mp hx
    rfl
  have e2 : okD deep (.lst m' []) = true := rfl
  rw [List.map_cons] at e1
  exact ⟨.bl true, by simp only [opD, cmpO, cmpB, eqO, List.map_cons, e1, e2, Bool.and_self, if_true, deq, deqL, Option.map_some, Bool.not_false], q⟩
def tD : Option Nat → D
  | none => .non
  | some j => .int (j : Int)
theorem pure_ts : ∀ T : List (Option Nat), pureL (T.map tD) = true
  | [] => rfl
  | t :: T => by
    have := pure_ts T
    cases t <;> simp only [List.map_cons, pureL, this, Bool.and_true] <;> rfl
def treeOk (ms : List Mk) (T : List (Option Nat)) (k : Nat) : Prop := T.length = k ∧ ∀ i, i < k → (T.getD i none = none → ∀ j, j < ms.length → holdB ms i j = false) ∧ ∀ j, T.getD i none = some j → j < ms.length ∧ holdB ms i j = true
theorem treeOk_snoc {ms : List Mk} {T : List (Option Nat)} {k : Nat} {o : Option Nat} (h : treeOk ms T k) (h1 : o = none → ∀ j, j < ms.length → holdB ms k j = false) (h2 : ∀ j, o = some j → j < ms.length ∧ holdB ms k j = true) : treeOk ms (T ++ [o]) (k + 1) := by
  obtain ⟨hl, ht⟩ := h
  refine ⟨by simp [hl], fun i hi => ?_⟩
  rcases Nat.lt_or_ge i k with z | z
  · have : (T ++ [o]).getD i none = T.getD i none := by
      simp only [List.getD, List.getElem?_append_left (show i < T.length by omega)]
    rw [this]; exact ht i z
  · have e : i = k := by omega
    subst e
    have : (T ++ [o]).getD i none = o := by
      rw [← hl]; simp [List.getD]
    rw [this]; exact ⟨h1, h2⟩
theorem O_sl24 {a b c d e : D} {Qd : D → Prop} (q : Qd (.tup [c, d])) : WO (opD (.sl true true) [.tup [a, b, c, d, e], .int 2, .int 4]) Qd := ⟨_, rfl, q⟩
end VI

namespace VI
open PySem L2
theorem inO_pr (a b : Nat) : ∀ ps : List (Nat × Nat), inO (.tup [.int (a : Int), .int (b : Int)]) (ps.map pairD) = decide ((a, b) ∈ ps)
  | [] => rfl
  | p :: ps => by
    have ih := inO_pr a b ps
    obtain ⟨c, d⟩ := p
    simp only [List.map_cons, inO, ih, pairD, deq, deqL, Bool.and_true]
    by_cases h1 : c = a
    · by_cases h2 : d = b
      · subst h1 h2; simp
      · have : ¬ b = d := fun z => h2 z.symm
        have h3 : ¬ (d : Int) = (b : Int) := by omega
        subst h1; simp [h3, this]
    · have : ¬ a = c := fun z => h1 z.symm
      have h3 : ¬ (c : Int) = (a : Int) := by omega
      simp [h3, this]
theorem O_notInP {a b : Nat} {m : Bool} {ps : List (Nat × Nat)} {Qd : D → Prop} (q : Qd (.bl (!decide ((a, b) ∈ ps)))) : WO (opD (.cmp .NotIn) [.tup [.int (a : Int), .int (b : Int)], .lst m (ps.map pairD)]) Qd := by
  have h1 : okD deep (.tup [.int (a : Int), .int (b : Int)]) = true := rfl
  have h2 : (ps.map pairD).all (okD deep) = true := by
    rw [List.all_eq_true]
    intro x hx
    obtain ⟨p, _, rfl⟩ := List.mem_map.mp hx
    rfl
  exact ⟨_, by simp only [opD, cmpO, cmpB, memO, h1, h2, Bool.and_self, if_true, inO_pr, Option.map_some], q⟩
theorem inO_nat (u : Nat) : ∀ ks : List Nat, inO (.int (u : Int)) (nat' ks) = decide (u ∈ ks)
  | [] => rfl
  | k :: ks => by
    have ih := inO_nat u ks
    simp only [nat', List.map_cons, inO] at ih ⊢
    rw [ih]
    by_cases h : k = u
    · subst h; simp [deq]
    · have : ¬ u = k := fun z => h z.symm
      have h2 : ¬ (k : Int) = (u : Int) := by omega
      simp [deq, h2, this]
theorem O_notInI {u : Nat} {m : Bool} {ks : List Nat} {Qd : D → Prop} (q : Qd (.bl (!decide (u ∈ ks)))) : WO (opD (.cmp .NotIn) [.int (u : Int), .lst m (nat' ks)]) Qd := by
  have h1 : okD deep (.int (u : Int)) = true := rfl
  have h2 : (nat' ks).all (okD deep) = true := by
    rw [List.all_eq_true]
    intro x hx
    obtain ⟨p, _, rfl⟩ := List.mem_map.mp hx
    rfl
  exact ⟨_, by simp only [opD, cmpO, cmpB, memO, h1, h2, Bool.and_self, if_true, inO_nat, Option.map_some], q⟩
theorem intsO_nat : ∀ ks : List Nat, intsO (nat' ks) = some (ks.map fun k : Nat => (k : Int))
  | [] => rfl
  | k :: ks => by
    have := intsO_nat ks
    simp only [nat', List.map_cons, intsO] at this ⊢
    rw [this]; rfl
theorem idxI_nat (u : Nat) : ∀ {ks : List Nat}, u ∈ ks → ∃ j : Nat, idxI (u : Int) (ks.map fun k : Nat => (k : Int)) = some j ∧ ks[j]? = some u
  | [], h => by cases h
  | k :: ks, h => by
    by_cases e : k = u
    · subst e; exact ⟨0, by simp [idxI], rfl⟩
    · rcases List.mem_cons.mp h with z | z
      · exact absurd z.symm e
      · obtain ⟨j, h1, h2⟩ := idxI_nat u z
        refine ⟨j + 1, ?_, by simpa using h2⟩
        have : ¬ (k : Int) = (u : Int) := by omega
        simp only [List.map_cons, idxI, if_neg this, h1, Option.map_some]
theorem idx_nat {u : Nat} {ks : List Nat} (m : Bool) (h : u ∈ ks) : ∃ j : Nat, idxO (.lst m (nat' ks)) [.int (u : Int)] = some (.int (j : Int)) ∧ ks[j]? = some u := by
  obtain ⟨j, h1, h2⟩ := idxI_nat u h
  exact ⟨j, by simp only [idxO, intsO_nat, Option.bind_some, h1, Option.map_some], h2⟩
theorem ks_mono (L : List (Option Mk)) (n : Nat) {a b : Nat} (hab : a < b) (hb : b < (ksF L n).length) : (ksF L n)[a]'(Nat.lt_trans hab hb) < (ksF L n)[b] := by
  have h : (ksF L n).Pairwise (· < ·) := by
    unfold ksF
    exact (List.pairwise_lt_range).filter _
  exact List.pairwise_iff_getElem.mp h a b (Nat.lt_trans hab hb) hb hab
/-- how far up a mark is -/
def rkF (ms : List Mk) (i : Nat) : Nat := (spP ms i - spF ms i) * 100 + (99 - i)
def cnt (ms : List Mk) (i : Nat) : Nat := ((List.range ms.length).filter fun j => decide (rkF ms i < rkF ms j)).length
theorem cnt_le (ms : List Mk) (i : Nat) : cnt ms i ≤ ms.length := by
  unfold cnt
  have := List.length_filter_le (fun j => decide (rkF ms i < rkF ms j)) (List.range ms.length)
  simpa using this
theorem filter_lt {α : Type} {p q : α → Bool} : ∀ {xs : List α}, (∀ x, p x = true → q x = true) → (∃ x ∈ xs, q x = true ∧ p x = false) → (xs.filter p).length < (xs.filter q).length
  | [], _, ⟨x, h, _⟩ => by cases h
  | y :: ys, hpq, ⟨x, h, hq, hp⟩ => by
    have hle : ∀ zs : List α, (zs.filter p).length ≤ (zs.filter q).length := fun zs => by
      induction zs with
      | nil => exact Nat.le_refl _
      | cons z zs ih =>
        rw [List.filter_cons, List.filter_cons]
        cases hpz : p z with
        | true => rw [hpq z hpz]; simpa using ih
        | false =>
          cases hqz : q z with
          | true => simp; omega
          | false => simpa using ih
    rw [List.filter_cons, List.filter_cons]
    rcases List.mem_cons.mp h with rfl | h
    · rw [hq, hp]
      have := hle ys
      simp; omega
    · have ih := filter_lt (xs := ys) hpq ⟨x, h, hq, hp⟩
      cases hpy : p y with
      | true => rw [hpq y hpy]; simpa using ih
      | false =>
        cases hqy : q y with
        | true => simp; omega
        | false => simpa using ih
theorem cnt_lt {ms : List Mk} {i j : Nat} (hj : j < ms.length) (h : rkF ms i < rkF ms j) : cnt ms j < cnt ms i := by
  unfold cnt
  refine filter_lt (fun x hx => ?_) ⟨j, List.mem_range.mpr hj, decide_eq_true h, decide_eq_false (Nat.lt_irrefl _)⟩
  have := of_decide_eq_true hx
  exact decide_eq_true (Nat.lt_trans h this)
theorem hold_rk {ms : List Mk} {i j : Nat} (hi : i < ms.length) (hj : j < ms.length) (hn : ms.length ≤ 40) (hs : spF ms i < spP ms i) (h : holdB ms i j = true) : rkF ms i < rkF ms j ∧ spF ms j ≤ spF ms i ∧ spP ms i ≤ spP ms j := by
  have h' := of_decide_eq_true h
  obtain ⟨h1, h2, h3, h4⟩ := h'
  refine ⟨?_, h2, h3⟩
  unfold rkF
  rcases h4 with h4 | h4
  · have : spP ms i - spF ms i < spP ms j - spF ms j := by omega
    have h5 : (spP ms i - spF ms i + 1) * 100 ≤ (spP ms j - spF ms j) * 100 := Nat.mul_le_mul_right _ this
    omega
  · have h5 : (spP ms i - spF ms i) * 100 ≤ (spP ms j - spF ms j) * 100 := Nat.mul_le_mul_right _ (by omega)
    omega
theorem ts_at {T : List (Option Nat)} {i : Nat} (h : i < T.length) : atI (T.map tD) (i : Int) = some (tD (T.getD i none)) := by
  rw [atD_nat (by simpa using h), List.getElem?_map, List.getElem?_eq_getElem h]
  simp [List.getD, h]
theorem wordF_same {f p : Nat} : wordF f p f p = w_same := by simp [wordF]
theorem O_eqPr {m m' : Bool} {ps : List (Nat × Nat)} (hne : ps ≠ []) {Qd : D → Prop} (q : Qd (.bl false)) : WO (opD (.cmp .Eq) [.lst m (ps.map pairD), .lst m' []]) Qd := by
  cases ps with
  | nil => exact absurd rfl hne
  | cons p ps =>
    have e1 : okD deep (.lst m (pairD p :: ps.map pairD)) = true := by
      unfold deep
      simp only [okD, List.all_eq_true]
      intro x hx
      rcases List.mem_cons.mp hx with rfl | hx
      · rfl
      · obtain ⟨j, _, rfl⟩ := List.mem_map.mp hx
        rfl
    have e2 : okD deep (.lst m' []) = true := rfl
    exact ⟨.bl false, by simp only [opD, cmpO, cmpB, eqO, List.map_cons, e1, e2, Bool.and_self, if_true, deq, deqL, Option.map_some], q⟩
theorem pure_tD (o : Option Nat) : (tD o).pure = true := by cases o <;> rfl
theorem prs_at {ps : List (Nat × Nat)} {i : Nat} {x : D} (h : (ps.map pairD)[i]? = some x) : ∃ a b, (a, b) ∈ ps ∧ x = .tup [.int (a : Int), .int (b : Int)] := by
  rw [List.getElem?_map, Option.map_eq_some_iff] at h
  obtain ⟨⟨a, b⟩, h1, rfl⟩ := h
  exact ⟨a, b, List.mem_of_getElem? h1, rfl⟩
end VI

namespace VI
open PySem L2
def rg (f p : Nat) : List Nat := List.range' f (p - f)
theorem rg_mem {f p x : Nat} : x ∈ rg f p ↔ f ≤ x ∧ x < p := by
  unfold rg
  rw [List.mem_range'_1]
  omega
theorem rg_len (f p : Nat) : (rg f p).length = p - f := by simp [rg]
def shF (f p g q : Nat) : List Nat := (rg f p).filter fun x => decide (x ∈ rg g q)
theorem shF_mem {f p g q x : Nat} : x ∈ shF f p g q ↔ f ≤ x ∧ x < p ∧ g ≤ x ∧ x < q := by
  unfold shF
  rw [List.mem_filter, rg_mem, decide_eq_true_eq, rg_mem]
  omega
theorem sh_nil {f p g q : Nat} (h1 : f < p) (h2 : g < q) : shF f p g q = [] ↔ p ≤ g ∨ q ≤ f := by
  constructor
  · intro h
    rcases Nat.lt_or_ge f g with z | z
    · have : g ∉ shF f p g q := by rw [h]; simp
      rw [shF_mem] at this
      omega
    · have : f ∉ shF f p g q := by rw [h]; simp
      rw [shF_mem] at this
      omega
  · intro h
    rw [List.eq_nil_iff_forall_not_mem]
    intro x hx
    rw [shF_mem] at hx
    omega
theorem sh_first {f p g q : Nat} (h1 : f < p) (h2 : g < q) : shF f p g q = rg f p ↔ g ≤ f ∧ p ≤ q := by
  unfold shF
  rw [List.filter_eq_self]
  constructor
  · intro h
    have a := h f (rg_mem.mpr ⟨Nat.le_refl _, h1⟩)
    have b := h (p - 1) (rg_mem.mpr ⟨by omega, by omega⟩)
    rw [decide_eq_true_eq, rg_mem] at a b
    omega
  · intro h x hx
    rw [rg_mem] at hx
    rw [decide_eq_true_eq, rg_mem]
    omega
theorem rg_inj {f p g q : Nat} (h1 : f < p) (h2 : g < q) : rg f p = rg g q ↔ f = g ∧ p = q := by
  constructor
  · intro h
    have a : ∀ x, x ∈ rg f p ↔ x ∈ rg g q := fun x => by rw [h]
    have a1 := (a f).mp (rg_mem.mpr ⟨Nat.le_refl _, h1⟩)
    have a2 := (a g).mpr (rg_mem.mpr ⟨Nat.le_refl _, h2⟩)
    have a3 := (a (p - 1)).mp (rg_mem.mpr ⟨by omega, by omega⟩)
    have a4 := (a (q - 1)).mpr (rg_mem.mpr ⟨by omega, by omega⟩)
    rw [rg_mem] at a1 a2 a3 a4
    omega
  · rintro ⟨rfl, rfl⟩; rfl
theorem sh_second {f p g q : Nat} (h1 : f < p) (h2 : g < q) : shF f p g q = rg g q ↔ f ≤ g ∧ q ≤ p := by
  constructor
  · intro h
    have a : ∀ x, x ∈ shF f p g q ↔ x ∈ rg g q := fun x => by rw [h]
    have a1 := (a g).mpr (rg_mem.mpr ⟨Nat.le_refl _, h2⟩)
    have a2 := (a (q - 1)).mpr (rg_mem.mpr ⟨by omega, by omega⟩)
    rw [shF_mem] at a1 a2
    omega
  · intro h
    have pw : ∀ (a b : Nat), (rg a b).Pairwise (· < ·) := fun a b => by unfold rg; exact List.pairwise_lt_range' ..
    have e1 : (shF f p g q).Pairwise (· < ·) := (pw f p).filter _
    have e2 := pw g q
    refine List.Perm.eq_of_pairwise (le := (· < ·)) ?_ e1 e2 ?_
    · intro a b _ _ h3 h4; omega
    · rw [List.perm_ext_iff_of_nodup (e1.imp fun h => Nat.ne_of_lt h) (e2.imp fun h => Nat.ne_of_lt h)]
      intro x
      rw [shF_mem, rg_mem]
      omega
theorem deqL_nat : ∀ a b : List Nat, deqL (nat' a) (nat' b) = decide (a = b)
  | [], [] => rfl
  | [], b :: bs => by simp [nat', deqL]
  | a :: as, [] => by simp [nat', deqL]
  | a :: as, b :: bs => by
    have ih := deqL_nat as bs
    simp only [nat', List.map_cons, deqL, deq] at ih ⊢
    rw [ih]
    by_cases h : a = b
    · subst h; simp
    · have : ¬ (a : Int) = (b : Int) := by omega
      simp [h, this]
theorem okD_nat (m : Bool) (a : List Nat) : okD deep (.lst m (nat' a)) = true := by
  unfold deep
  simp only [okD, List.all_eq_true]
  intro x hx
  obtain ⟨p, _, rfl⟩ := List.mem_map.mp hx
  rfl
theorem O_eqN {m m' : Bool} {a b : List Nat} {Qd : D → Prop} (q : Qd (.bl (decide (a = b)))) : WO (opD (.cmp .Eq) [.lst m (nat' a), .lst m' (nat' b)]) Qd :=
  ⟨_, by simp only [opD, cmpO, cmpB, eqO, okD_nat, Bool.and_self, if_true, deq, deqL_nat, Option.map_some], q⟩
theorem O_eqN0 {m m' : Bool} {a : List Nat} {Qd : D → Prop} (q : Qd (.bl (decide (a = [])))) : WO (opD (.cmp .Eq) [.lst m (nat' a), .lst m' []]) Qd := O_eqN (b := []) q
theorem O_inI {u : Nat} {m : Bool} {ks : List Nat} {Qd : D → Prop} (q : Qd (.bl (decide (u ∈ ks)))) : WO (opD (.cmp .In) [.int (u : Int), .lst m (nat' ks)]) Qd := by
  have h1 : okD deep (.int (u : Int)) = true := rfl
  have h2 : (nat' ks).all (okD deep) = true := by
    rw [List.all_eq_true]
    intro x hx
    obtain ⟨p, _, rfl⟩ := List.mem_map.mp hx
    rfl
  exact ⟨_, by simp only [opD, cmpO, cmpB, memO, h1, h2, Bool.and_self, if_true, inO_nat, Option.map_some], q⟩
theorem O_lrng2 {f p : Nat} {Qd : D → Prop} (h1 : f ≤ 1000) (h2 : p ≤ 1000) (q : Qd (.lst true (nat' (rg f p)))) : WO (opD .lrng [.int (f : Int), .int (p : Int)]) Qd := by
  have e2 : in62 (f : Int) = true := by
    unfold in62
    simp only [Bool.and_eq_true, decide_eq_true_eq]
    omega
  have e3 : in62 (p : Int) = true := by
    unfold in62
    simp only [Bool.and_eq_true, decide_eq_true_eq]
    omega
  have e4 : rngO (f : Int) (p : Int) = nat' (rg f p) := by
    unfold rngO nat' rg
    have : ((p : Int) - (f : Int)).toNat = p - f := by omega
    rw [this, List.range'_eq_map_range, List.map_map]
    apply List.map_congr_left
    intro k _
    show D.int ((f : Int) + (k : Int)) = D.int ((f + k : Nat) : Int)
    congr 1
  have e5 : (nat' (rg f p)).length ≤ lim := by rw [nat_len, rg_len]; unfold lim; omega
  exact ⟨_, by simp only [opD, rngs, e2, e3, Bool.and_self, if_true, Option.bind_some, e4, e5], q⟩
theorem rg_at0 {f p : Nat} (h : f < p) : atI (nat' (rg f p)) 0 = some (.int (f : Int)) := by
  have h0 : 0 < (rg f p).length := by rw [rg_len]; omega
  have := nats_at h0
  rw [show ((0 : Nat) : Int) = 0 from rfl] at this
  rw [this]
  simp [rg]
theorem rg_atl {f p : Nat} (h : f < p) : atI (nat' (rg f p)) (-1) = some (.int ((p - 1 : Nat) : Int)) := by
  apply at_last
  rw [nat_len, rg_len]
  unfold nat' rg
  rw [List.getElem?_map, List.getElem?_range' (by omega)]
  simp; omega
end VI

namespace VI
open PySem L2
section
variable {call : CallT} {ρ : Env'} {Q : D → Env' → Prop} {k : KS}
/-- a dict by its texts -/
def kk (T : List (List Nat × D)) : List (Key × D) := T.map fun p => (.inr (ST p.1), p.2)
def sGet (T : List (List Nat × D)) (k : List Nat) : Option D := (T.find? fun p => decide (p.1 = k)).map (·.2)
def sPut (T : List (List Nat × D)) (k : List Nat) (d : D) : List (List Nat × D) :=
  if (T.any fun p => decide (p.1 = k)) = true then T.map (fun p => if p.1 = k then (p.1, d) else p) else T ++ [(k, d)]
def sMrg (T U : List (List Nat × D)) : List (List Nat × D) := U.foldl (fun acc p => sPut acc p.1 p.2) T
theorem key_eq (a b : List Nat) : ((Sum.inr (ST a) : Key) = Sum.inr (ST b)) = (a = b) := propext ⟨fun h => st_inj (Sum.inr.inj h), fun h => by rw [h]⟩
theorem kk_get (k : List Nat) : ∀ T : List (List Nat × D), vGet (kk T) (.inr (ST k)) = sGet T k
  | [] => rfl
  | p :: T => by
    have ih := kk_get k T
    unfold vGet sGet kk at ih ⊢
    rw [List.map_cons, List.find?_cons, List.find?_cons]
    by_cases h : p.1 = k
    · rw [decide_eq_true h, decide_eq_true (by rw [key_eq]; exact h)]; rfl
    · rw [decide_eq_false h, decide_eq_false (by rw [key_eq]; exact h)]; exact ih
theorem kk_put (T : List (List Nat × D)) (k : List Nat) (d : D) : vPut (kk T) (.inr (ST k)) d = kk (sPut T k d) := by
  have e : ((kk T).any fun kv => decide (kv.1 = (Sum.inr (ST k) : Key))) = (T.any fun p => decide (p.1 = k)) := by
    unfold kk
    rw [List.any_map]
    congr 1
    funext p
    show decide ((Sum.inr (ST p.1) : Key) = Sum.inr (ST k)) = _
    simp only [key_eq]
  unfold vPut sPut
  rw [e]
  split
  · unfold kk
    rw [List.map_map, List.map_map]
    congr 1
    funext p
    show (if (Sum.inr (ST p.1) : Key) = Sum.inr (ST k) then _ else _) = _
    by_cases h : p.1 = k
    · rw [if_pos (by rw [key_eq]; exact h)]; simp [h]
    · rw [if_neg (by rw [key_eq]; exact h)]; simp [h]
  · unfold kk
    rw [List.map_append]; rfl
theorem kk_mrg : ∀ (U T : List (List Nat × D)), vMrg (kk T) (kk U) = kk (sMrg T U)
  | [], T => rfl
  | p :: U, T => by
    have := kk_mrg U (sPut T p.1 p.2)
    rw [← kk_put] at this
    exact this
theorem pure_kk {T : List (List Nat × D)} (h : T.all (fun p => p.2.pure) = true) : pureK (kk T) = true := by
  induction T with
  | nil => rfl
  | cons p T ih =>
    rw [List.all_cons, Bool.and_eq_true] at h
    show (p.2.pure && pureK (kk T)) = true
    rw [h.1, ih h.2]; rfl
theorem W_dnew {t : Bool} (q : Q (if t then .dit true [] else .dic true []) ρ) : WR (ev call (.dnew t) ρ) Q := ⟨_, ρ, by simp only [ev], q⟩
theorem W_disp {ks : List (List Nat)} {vs : List E} (q : WR (evC call vs ρ) fun ds ρ' => (ks.length = ds.length ∧ ks.length ≤ 15 ∧ ks.Nodup ∧ ks.all okCs = true ∧ 0 < ks.length) ∧ Q (.dic true (kk (ks.zip ds))) ρ') : WR (ev call (.disp ks vs) ρ) Q := by
  obtain ⟨ds, ρ', e, c, q⟩ := q
  refine ⟨_, ρ', ?_, q⟩
  simp only [ev, e, R.bind]
  rw [if_pos c]
  congr 2
  unfold kk
  rw [List.zip_map_left]; rfl
theorem X_dstore {i : Nat} {kx e : E} (q : WR (ev call e ρ) fun d ρ1 => d.pure = true ∧ (∃ x0, ρ1[i]? = some (some x0)) ∧ WR (ev call kx ρ1) fun kd ρ2 => ∃ x, ρ2[i]? = some (some x) ∧ ∃ x', dput x kd d = some x' ∧ k.nx (ρ2.set i (some x'))) : WX (ex call (.dstore i kx e) ρ) k := by
  obtain ⟨d, ρ1, e1, hp, ⟨x0, h0⟩, kd, ρ2, e2, x, h2, x', h3, q⟩ := q
  refine ⟨?_⟩
  simp only [ex, e1, R.sbind, h0, hp, if_true, e2, h2, h3]
  exact q
theorem dput_kk {T : List (List Nat × D)} {k : List Nat} {d : D} (h : T.length < lim) : dput (.dic true (kk T)) (.str k) d = some (.dic true (kk (sPut T k d))) := by
  have hl : (kk T).length < lim := by unfold kk; rw [List.length_map]; exact h
  simp only [dput, keyD, Option.bind_some]
  rw [if_pos hl, kk_put]
theorem W_dupd {i : Nat} {e : E} {kvs : List (Key × D)} (h : ρ[i]? = some (some (.dic true kvs))) (q : WR (ev call e ρ) fun d ρ1 => (!shares e || d.pure) = true ∧ ∃ x, ρ1[i]? = some (some x) ∧ ∃ x', dupO x d = some x' ∧ Q .non (ρ1.set i (some x'))) : WR (ev call (.dupd i e) ρ) Q := by
  obtain ⟨d, ρ1, e1, c, x, h1, x', h2, q⟩ := q
  exact ⟨_, _, by simp only [ev, h, isDic, if_true, e1, R.bind, c, h1, h2], q⟩
theorem dup_kk {T U : List (List Nat × D)} {m : Bool} (hp : U.all (fun p => p.2.pure) = true) (h : T.length + U.length ≤ lim) : dupO (.dic true (kk T)) (.dic m (kk U)) = some (.dic true (kk (sMrg T U))) := by
  have hl : (kk T).length + (kk U).length ≤ lim := by unfold kk; rw [List.length_map, List.length_map]; exact h
  unfold dupO
  simp only [pure_kk hp, decide_eq_true hl, Bool.and_self, if_true, kk_mrg]
theorem W_dget2 {i : Nat} {as : List E} {d0 : D} (h : ρ[i]? = some (some d0)) (hd : isDct d0 = true) (q : WR (evC call as ρ) fun ds ρ2 => ∃ d, ρ2[i]? = some (some d) ∧ WO (dget2O d ds) fun r => Q r ρ2) : WR (ev call (.dget2 i as) ρ) Q := by
  obtain ⟨ds, ρ2, e, d, h2, r, hr, q⟩ := q
  exact ⟨r, ρ2, by simp only [ev, h, hd, if_true, e, R.bind, h2, hr, R.of], q⟩
theorem W_lcK {i : Nat} {el : E} {t : T} {cs : List E} {own : List Nat} {kvs : List (Key × D)} (h : ρ[i]? = some (some (.dic true kvs))) (hc : (pureK kvs && !own.contains i) = true)
    (q : WR (lcLoop (lcF call el t cs) own (kvs.map fun kv => dKey kv.1) [] (wipeD (ρ.set i (some (.dic false kvs))) own)) fun acc ρ2 => (noDL acc && noDs (ρ2.set i none)) = true ∧ Q (.lst true acc) (ρ2.set i (some (.dic true kvs)))) : WR (ev call (.lcK i el t cs own) ρ) Q := by
  obtain ⟨acc, ρ2, e, c, q⟩ := q
  refine ⟨_, _, ?_, q⟩
  simp only [ev, h, hc, if_true]
  show ((lcLoop (lcF call el t cs) own (kvs.map fun kv => dKey kv.1) [] (wipeD (ρ.set i (some (.dic false kvs))) own)).bind fun acc ρ2 => if (noDL acc && noDs (ρ2.set i none)) = true then R.ok (D.lst true acc) (ρ2.set i (some (.dic true kvs))) else .bad) = R.ok (D.lst true acc) _
  rw [e]
  simp only [R.bind, c, if_true]
theorem kk_keys (T : List (List Nat × D)) : (kk T).map (fun kv => dKey kv.1) = T.map fun p => .str p.1 := by
  unfold kk
  rw [List.map_map]
  congr 1
theorem O_dget {m : Bool} {T : List (List Nat × D)} {k : List Nat} {d : D} {Qd : D → Prop} (h : sGet T k = some d) (hp : d.pure = true) (q : Qd d) : WO (opD .dget [.dic m (kk T), .str k]) Qd := by
  refine ⟨d, ?_, q⟩
  simp only [opD, dfind, keyD, Option.map_some, Option.bind_some, kk_get, h]
  unfold pureO
  rw [if_pos hp]
theorem ex_dput {T : List (List Nat × D)} {k : List Nat} {d : D} {P : D → Prop} (h : T.length < lim) (q : P (.dic true (kk (sPut T k d)))) : ∃ x', dput (.dic true (kk T)) (.str k) d = some x' ∧ P x' := ⟨_, dput_kk h, q⟩
theorem ex_dup {T U : List (List Nat × D)} {m : Bool} {P : D → Prop} (hp : U.all (fun p => p.2.pure) = true) (h : T.length + U.length ≤ lim) (q : P (.dic true (kk (sMrg T U)))) : ∃ x', dupO (.dic true (kk T)) (.dic m (kk U)) = some x' ∧ P x' := ⟨_, dup_kk hp h, q⟩
theorem noDL_ints : ∀ ns : List Int, noDL (ns.map .int) = true
  | [] => rfl
  | n :: r => by simp [noDL, noD, noDL_ints r]
/-- pairs as data -/
def sPr (p : List Nat × D) : D := .tup [.str p.1, p.2]
theorem prsK_kk : ∀ T : List (List Nat × D), prsK (T.map sPr) = some (kk T)
  | [] => rfl
  | p :: T => by
    show ((some (Sum.inr (ST p.1) : Key)).bind fun key => (prsK (T.map sPr)).map ((key, p.2) :: ·)) = _
    rw [prsK_kk T]; rfl
theorem O_dictP {m : Bool} {T : List (List Nat × D)} {Qd : D → Prop} (hp : T.all (fun p => p.2.pure) = true) (hl : T.length ≤ lim) (q : Qd (.dic true (kk (sMrg [] T)))) : WO (opD (.fn .dict) [.lst m (T.map sPr)]) Qd := by
  refine ⟨_, ?_, q⟩
  have pl : pureL (T.map sPr) = true := by
    clear q hl
    induction T with
    | nil => rfl
    | cons p T ih =>
      rw [List.all_cons, Bool.and_eq_true] at hp
      show ((sPr p).pure && pureL (T.map sPr)) = true
      have : (sPr p).pure = true := by simp [sPr, D.pure, pureL, hp.1]
      rw [this, ih hp.2]; rfl
  show dictO [.lst m (T.map sPr)] = _
  unfold dictO
  have hl2 : (T.map sPr).length ≤ lim := by rw [List.length_map]; exact hl
  simp only [pl, decide_eq_true hl2, Bool.and_self, if_true, prsK_kk, Option.map_some]
  rw [show ([] : List (Key × D)) = kk [] from rfl, kk_mrg]
end
/-! the turned words -/
def turn0 : List (List Nat × D) := [(w_same, .str w_same), (w_ahead, .str w_behind), (w_meets, .str w_met), (w_begins, .str w_begun), (w_ends, .str w_ended), (w_within, .str w_holds)]
def turn1 : List (List Nat × D) := turn0 ++ [(w_crosses, .str w_crossed)]
def turn2 : List (List Nat × D) := turn1 ++ [(w_behind, .str w_ahead), (w_met, .str w_meets), (w_begun, .str w_begins), (w_ended, .str w_ends), (w_holds, .str w_within), (w_crossed, .str w_crosses)]
def turnP : List (List Nat × D) := [(w_same, .str w_same), (w_behind, .str w_ahead), (w_met, .str w_meets), (w_begun, .str w_begins), (w_ended, .str w_ends), (w_holds, .str w_within), (w_crossed, .str w_crosses)]
theorem turn_put : sPut turn0 w_crosses (.str w_crossed) = turn1 := by simp [sPut, turn0, turn1]
theorem turn_mrg : sMrg turn1 (sMrg [] turnP) = turn2 := by simp [sMrg, sPut, turnP, turn0, turn1, turn2]
set_option maxHeartbeats 1000000 in
theorem turn_ok {f p g q : Nat} (h1 : f < p) (h2 : g < q) : sGet turn2 (wordF f p g q) = some (.str (wordF g q f p)) := by
  unfold wordF
  repeat' split
  all_goals (first | (exfalso; omega) | rfl)
end VI
namespace VI
open PySem L2
theorem WXi {r : SR} {k : KS} (h : WX r k) : WX r k := h
theorem WRi {α : Type} {r : R α} {Q : α → Env' → Prop} (h : WR r Q) : WR r Q := h
theorem WOi {o : Option D} {Q : D → Prop} (h : WO o Q) : WO o Q := h
end VI

namespace VI
open PySem L2
section
variable {call : CallT} {ρ : Env'} {Q : D → Env' → Prop} {k : KS}
theorem W_lcOp {i : Nat} {el : E} {t : T} {cs : List E} {own : List Nat} {xs : List D} (h : ρ[i]? = some (some (.lst true xs))) (hc : (pureL xs && !own.contains i) = true)
    (q : WR (lcLoop (lcF call el t cs) own xs [] (wipeD (ρ.set i none) own)) fun acc ρ2 => Q (.lst true acc) (ρ2.set i (some (.lst true xs)))) : WR (ev call (.lcO i el t cs own) ρ) Q := by
  obtain ⟨acc, ρ2, e, q⟩ := q
  refine ⟨_, _, ?_, q⟩
  simp only [ev, h]
  rw [if_pos hc]
  show ((lcLoop (lcF call el t cs) own xs [] (wipeD (ρ.set i none) own)).bind fun acc ρ2 => R.ok (D.lst true acc) (ρ2.set i (some (.lst true xs)))) = _
  rw [e]
  rfl
theorem W_lcEp {i : Nat} {el : E} {t : T} {cs : List E} {own : List Nat} {xs : List D} (h : ρ[i]? = some (some (.lst true xs))) (hc : (pureL xs && !own.contains i) = true)
    (q : WR (lcLoop (lcF call el t cs) own (enumD 0 xs) [] (wipeD (ρ.set i none) own)) fun acc ρ2 => Q (.lst true acc) (ρ2.set i (some (.lst true xs)))) : WR (ev call (.lcE i el t cs own) ρ) Q := by
  obtain ⟨acc, ρ2, e, q⟩ := q
  refine ⟨_, _, ?_, q⟩
  simp only [ev, h]
  rw [if_pos hc]
  show ((lcLoop (lcF call el t cs) own (enumD 0 xs) [] (wipeD (ρ.set i none) own)).bind fun acc ρ2 => R.ok (D.lst true acc) (ρ2.set i (some (.lst true xs)))) = _
  rw [e]
  rfl
theorem W_fz {e : E} (h : WR (ev call e ρ) fun d ρ1 => (d.can && !shares e) = true ∧ Q d.frz ρ1) : WR (ev call (.fz e) ρ) Q := by
  obtain ⟨d, ρ1, h1, h2, q⟩ := h
  refine ⟨_, ρ1, ?_, q⟩
  simp only [ev, h1, R.bind]
  rw [if_pos h2]
theorem ints_pure {xs : List D} {own : List Nat} {i : Nat} (hc : ((intsO xs).isSome && !own.contains i) = true) : (pureL xs && !own.contains i) = true := by
  rw [Bool.and_eq_true] at hc ⊢
  obtain ⟨ns, hns⟩ := Option.isSome_iff_exists.mp hc.1
  rw [intsO_some hns]
  exact ⟨ints_pureD ns, hc.2⟩
theorem W_lcO {i : Nat} {el : E} {t : T} {cs : List E} {own : List Nat} {xs : List D} (h : ρ[i]? = some (some (.lst true xs))) (hc : ((intsO xs).isSome && !own.contains i) = true)
    (q : WR (lcLoop (lcF call el t cs) own xs [] (wipeD (ρ.set i none) own)) fun acc ρ2 => Q (.lst true acc) (ρ2.set i (some (.lst true xs)))) : WR (ev call (.lcO i el t cs own) ρ) Q := W_lcOp h (ints_pure hc) q
theorem W_lcE {i : Nat} {el : E} {t : T} {cs : List E} {own : List Nat} {xs : List D} (h : ρ[i]? = some (some (.lst true xs))) (hc : ((intsO xs).isSome && !own.contains i) = true)
    (q : WR (lcLoop (lcF call el t cs) own (enumD 0 xs) [] (wipeD (ρ.set i none) own)) fun acc ρ2 => Q (.lst true acc) (ρ2.set i (some (.lst true xs)))) : WR (ev call (.lcE i el t cs own) ρ) Q := W_lcEp h (ints_pure hc) q
/-- sorted by a key -/
def srtG (g : Int → List Int) (xs : List Int) : List Int := xs.mergeSort fun a b => leL (g a) (g b)
theorem srtK_map (g : Int → List Int) (xs : List Int) : srtK xs (xs.map g) = srtG g xs := by
  unfold srtK srtG
  have e : xs.zip (xs.map g) = xs.map fun x => (x, g x) := by
    induction xs with
    | nil => rfl
    | cons x r ih => simp [ih]
  rw [e, ← List.map_mergeSort (r := fun a b => leL (g a) (g b)) (s := fun (a b : Int × List Int) => leL a.2 b.2) (fun a _ b _ => rfl), List.map_map]
  exact List.map_id _
theorem keyAll_map {f : D → R (List D)} {g : Int → List Int} : ∀ {xs : List Int}, (∀ x ∈ xs, keyOf (f (.int x)) = some (g x)) → keyAll f (xs.map .int) = some (xs.map g)
  | [], _ => rfl
  | x :: r, h => by
    simp only [List.map_cons, keyAll]
    rw [h x List.mem_cons_self, keyAll_map fun y hy => h y (List.mem_cons_of_mem _ hy)]
    rfl
theorem intsO_map : ∀ ns : List Int, intsO (ns.map .int) = some ns
  | [] => rfl
  | n :: r => by simp only [List.map_cons, intsO, intsO_map r]; rfl
theorem keyOf_WR {r : R (List D)} {k : List Int} (h : WR r fun ds _ => ds = k.map .int ∧ k ≠ []) : keyOf r = some k := by
  obtain ⟨ds, ρ', rfl, rfl, hk⟩ := h
  cases k with
  | nil => exact absurd rfl hk
  | cons x r => exact intsO_map (x :: r)
theorem rngI_mem {k : Int} {x : Int} (h : x ∈ rngI k) : ∃ i : Nat, x = i ∧ (i : Int) < k := by
  unfold rngI at h
  obtain ⟨i, hi, rfl⟩ := List.mem_map.mp h
  rw [List.mem_range] at hi
  exact ⟨i, rfl, by omega⟩
/-- what is asked at the sort -/
structure SrtQ (call : CallT) (j : Nat) (ks : List E) (g : Int → List Int) (Q : D → Env' → Prop) (d : D) (ρ1 : Env') : Prop where
  out : ∃ m : Nat, d = .int (m : Int) ∧ m ≤ 10000 ∧ (quietL ks && decide (ks.length ≤ 64)) = true ∧ (∀ i : Nat, i < m → WR (evC call ks (ρ1.set j (some (.int (i : Nat))))) fun ds _ => ds = (g i).map .int ∧ g i ≠ []) ∧ Q (.lst true ((srtG g (rngI m)).map .int)) ρ1
theorem in62_nat {m : Nat} (h : m ≤ 10000) : in62 (m : Int) = true := by
  unfold in62
  rw [decide_eq_true (show -(2 ^ 62 : Int) ≤ (m : Int) by omega), decide_eq_true (show (m : Int) < 2 ^ 62 by omega)]; rfl
theorem W_sortK {n : E} {j : Nat} {ks : List E} (g : Int → List Int) (h : WR (ev call n ρ) (SrtQ call j ks g Q)) : WR (ev call (.sortK n j ks) ρ) Q := by
  obtain ⟨d, ρ1, e, ⟨m, rfl, hm, hc, hk, q⟩⟩ := h
  have hz : keyAll (fun x => evC call ks (ρ1.set j (some x))) ((rngI m).map .int) = some ((rngI m).map g) := keyAll_map fun x hx => by
    obtain ⟨i, rfl, hi⟩ := rngI_mem hx
    exact keyOf_WR (hk i (by omega))
  refine ⟨_, ρ1, ?_, q⟩
  simp only [ev, e, R.bind]
  rw [if_pos (by rw [in62_nat hm, decide_eq_true (show (m : Int) ≤ 16777216 by omega), Bool.true_and, Bool.true_and]; exact hc), hz]
  simp only [srtK_map]
theorem X_forO {x o : Nat} {b : List S} {xs : List D} (h : ρ[o]? = some (some (.lst true xs))) (hxo : x ≠ o) (J : Nat → List D → Env' → Prop) (h0 : J 0 [] (ρ.set o none))
    (hs : ∀ i d acc ρ, xs[i]? = some d → J i acc ρ → x < ρ.length ∧ WX (exs call b ((ρ.set o none).set x (some d))) { nx := fun ρ' => ∃ d', ρ'[x]? = some (some d') ∧ J (i + 1) (acc ++ [d']) (ρ'.set x none), rt := fun _ _ => False })
    (hd : ∀ acc ρ, J xs.length acc ρ → k.nx (ρ.set o (some (.lst true acc)))) : WX (ex call (.forO x o b) ρ) k := by
  have e : ex call (.forO x o b) ρ = ownLoop (exs call b) x o xs [] (ρ.set o none) := by
    simp only [ex, h]
    rw [if_neg hxo]
  rw [e]
  have go : ∀ (ys : List D) (i : Nat) (acc : List D) (ρ : Env'), xs.drop i = ys → i ≤ xs.length → J i acc ρ → WX (ownLoop (exs call b) x o ys acc ρ) k := by
    intro ys
    induction ys with
    | nil =>
      intro i acc ρ hy hi hj
      have : i = xs.length := by
        have := congrArg List.length hy
        simp at this; omega
      subst this
      simp only [ownLoop]; exact ⟨hd acc ρ hj⟩
    | cons y ys ih =>
      intro i acc ρ hy hi hj
      have hlt : i < xs.length := by
        have := congrArg List.length hy
        simp at this; omega
      have hx : xs[i]? = some y ∧ xs.drop (i + 1) = ys := by
        rw [List.drop_eq_getElem_cons hlt] at hy
        cases hy
        exact ⟨List.getElem?_eq_getElem hlt, rfl⟩
      obtain ⟨hl, w⟩ := hs i y acc ρ hx.1 hj
      simp only [ownLoop]
      rw [if_pos hl]
      cases hb : exs call b ((ρ.set o none).set x (some y)) with
      | nx ρ2 =>
        rw [hb] at w
        obtain ⟨d', h2, hj2⟩ := w.out
        simp only [h2]
        exact ih (i + 1) _ _ hx.2 hlt hj2
      | cont ρ2 => rw [hb] at w; exact w.out.elim
      | brk ρ2 => rw [hb] at w; exact w.out.elim
      | ret d ρ2 => rw [hb] at w; exact w.out.elim
      | err x ρ2 => rw [hb] at w; exact w.out.elim
      | bad => rw [hb] at w; exact w.out.elim
  exact go xs 0 [] _ rfl (Nat.zero_le _) h0
/-! ### dicts by ints -/
def ik (T : List (Int × D)) : List (Key × D) := T.map fun p => (.inl p.1, p.2)
def iGet (T : List (Int × D)) (k : Int) : Option D := (T.find? fun p => decide (p.1 = k)).map (·.2)
theorem ik_get (k : Int) : ∀ T : List (Int × D), vGet (ik T) (.inl k) = iGet T k
  | [] => rfl
  | p :: T => by
    have ih := ik_get k T
    unfold vGet iGet ik at *
    rw [List.map_cons, List.find?_cons, List.find?_cons]
    by_cases h : p.1 = k
    · simp [h]
    · have : ¬ (Sum.inl p.1 : Key) = Sum.inl k := fun z => h (Sum.inl.inj z)
      simp only [h, this, decide_false]
      exact ih
theorem ik_find {m : Bool} {T : List (Int × D)} {k : Int} : dfind (.dic m (ik T)) (.int k) = some (iGet T k) := by
  simp only [dfind, keyD, Option.map_some, ik_get]
theorem OI_dget {m : Bool} {T : List (Int × D)} {k : Int} {d : D} {Qd : D → Prop} (h : iGet T k = some d) (hp : d.pure = true) (q : Qd d) : WO (opD .dget [.dic m (ik T), .int k]) Qd := by
  refine ⟨d, ?_, q⟩
  simp only [opD, ik_find, Option.bind_some, h]
  unfold pureO
  rw [if_pos hp]
theorem OI_get2 {m : Bool} {T : List (Int × D)} {k : Int} {x d : D} {Qd : D → Prop} (h : (iGet T k).getD x = d) (hp : d.pure = true) (q : Qd d) : WO (dget2O (.dic m (ik T)) [.int k, x]) Qd := by
  refine ⟨d, ?_, q⟩
  simp only [dget2O, ik_find, Option.bind_some]
  cases hg : iGet T k with
  | none => rw [hg] at h; simp at h; subst h; unfold pureO; simp [hp]
  | some y => rw [hg] at h; simp at h; subst h; unfold pureO; simp [hp]
def iPr (p : Int × D) : D := .tup [.int p.1, p.2]
theorem prsK_ik : ∀ T : List (Int × D), prsK (T.map iPr) = some (ik T)
  | [] => rfl
  | p :: T => by
    show ((some (Sum.inl p.1 : Key)).bind fun key => (prsK (T.map iPr)).map ((key, p.2) :: ·)) = _
    rw [prsK_ik T]; rfl
theorem vMrg_new : ∀ (U T : List (Int × D)), (∀ p ∈ U, ∀ q ∈ T, q.1 ≠ p.1) → (U.map (·.1)).Nodup → vMrg (ik T) (ik U) = ik (T ++ U)
  | [], T, _, _ => by simp [vMrg, ik]
  | p :: U, T, h, nd => by
    rw [List.map_cons, List.nodup_cons] at nd
    have e : vPut (ik T) (.inl p.1) p.2 = ik (T ++ [p]) := by
      unfold vPut
      rw [if_neg]
      · simp [ik]
      · simp only [ik, List.any_map, List.any_eq_true, Function.comp, decide_eq_true_eq, not_exists, not_and]
        exact fun q hq z => h p List.mem_cons_self q hq (Sum.inl.inj z)
    show vMrg (vPut (ik T) (.inl p.1) p.2) (ik U) = _
    rw [e, vMrg_new U (T ++ [p]) (fun q hq r hr => ?_) nd.2, List.append_assoc]; rfl
    rcases List.mem_append.mp hr with hr | hr
    · exact h q (List.mem_cons_of_mem _ hq) r hr
    · have : r = p := by simpa using hr
      subst this
      exact fun z => nd.1 (z ▸ List.mem_map_of_mem hq)
theorem OI_dict {m : Bool} {T : List (Int × D)} {Qd : D → Prop} (hp : T.all (fun p => p.2.pure) = true) (hl : T.length ≤ lim) (nd : (T.map (·.1)).Nodup) (q : Qd (.dic true (ik T))) : WO (opD (.fn .dict) [.lst m (T.map iPr)]) Qd := by
  refine ⟨_, ?_, q⟩
  have pl : pureL (T.map iPr) = true := by
    clear q hl nd
    induction T with
    | nil => rfl
    | cons p T ih =>
      rw [List.all_cons, Bool.and_eq_true] at hp
      show ((iPr p).pure && pureL (T.map iPr)) = true
      have : (iPr p).pure = true := by simp [iPr, D.pure, pureL, hp.1]
      rw [this, ih hp.2]; rfl
  show dictO [.lst m (T.map iPr)] = _
  unfold dictO
  have hc : (pureL (T.map iPr) && decide ((T.map iPr).length ≤ lim)) = true := by
    rw [pl, List.length_map]; simpa using hl
  simp only [hc, if_true, prsK_ik, Option.map_some]
  have := vMrg_new T [] (fun _ _ _ h => by cases h) nd
  simp only [ik, List.map_nil, List.nil_append] at this ⊢
  rw [this]
theorem keysI_ik : ∀ T : List (Int × D), keysI (ik T) = some (T.map (·.1))
  | [] => rfl
  | p :: T => by
    show (keysI (ik T)).map (p.1 :: ·) = _
    rw [keysI_ik T]; rfl
theorem OI_sorted {m : Bool} {T : List (Int × D)} {Qd : D → Prop} (hl : T.length < 64) (hs : (T.map (·.1)).Pairwise (· ≤ ·)) (q : Qd (.lst true ((T.map (·.1)).map .int))) : WO (opD (.fn .sorted) [.dic m (ik T)]) Qd := by
  refine ⟨_, ?_, q⟩
  show sortedO [.dic m (ik T)] = _
  unfold sortedO
  simp only [keysI_ik, Option.bind_some]
  rw [if_pos (by rw [List.length_map]; exact hl), srt_uniq (srtI_perm _) (srtI_srt _) hs]
end
end VI

namespace VI
open PySem L2
def getP : Env' → Nat → (D → Prop) → Prop
  | [], _, _ => False
  | o :: _, 0, K => match o with
    | some d => K d
    | none => False
  | _ :: r, n + 1, K => getP r n K
theorem getP_ok : ∀ {ρ : Env'} {i : Nat} {K : D → Prop}, getP ρ i K → ∃ d, ρ[i]? = some (some d) ∧ K d
  | [], _, _, h => h.elim
  | o :: r, 0, K, h => by
    cases o with
    | none => exact h.elim
    | some d => exact ⟨d, rfl, h⟩
  | _ :: r, n + 1, K, h => by simpa using getP_ok (ρ := r) (i := n) h
def inR : Env' → Nat → Prop → Prop
  | [], _, _ => False
  | _ :: _, 0, P => P
  | _ :: r, n + 1, P => inR r n P
theorem inR_ok : ∀ {ρ : Env'} {i : Nat} {P : Prop}, inR ρ i P → i < ρ.length ∧ P
  | [], _, _, h => h.elim
  | _ :: r, 0, P, h => ⟨by simp, h⟩
  | _ :: r, n + 1, P, h => by
    obtain ⟨h1, h2⟩ := inR_ok (ρ := r) (i := n) h
    exact ⟨by simpa using h1, h2⟩
mutual
def tgP : T → D → Env' → (Env' → Prop) → Prop
  | .slot i, d, ρ, K => inR ρ i (K (ρ.set i (some d)))
  | .tup ts, d, ρ, K => match d with
    | .tup xs => tgPs ts xs ρ K
    | .lst _ xs => tgPs ts xs ρ K
    | _ => False
def tgPs : List T → List D → Env' → (Env' → Prop) → Prop
  | [], [], ρ, K => K ρ
  | t :: ts, x :: xs, ρ, K => tgP t x ρ fun ρ' => tgPs ts xs ρ' K
  | _, _, _, _ => False
end
mutual
theorem tgP_ok : ∀ (t : T) {d : D} {ρ : Env'} {K : Env' → Prop}, tgP t d ρ K → ∃ ρ', t.put d ρ = some ρ' ∧ K ρ'
  | .slot i, d, ρ, K, h => by
    obtain ⟨h1, h2⟩ := inR_ok h
    exact ⟨_, by simp only [T.put, h1, if_true], h2⟩
  | .tup ts, d, ρ, K, h => by
    cases d <;> simp only [tgP] at h <;> first | (exact h.elim) | skip
    · simp only [T.put]; exact tgPs_ok ts h
    · simp only [T.put]; exact tgPs_ok ts h
theorem tgPs_ok : ∀ (ts : List T) {xs : List D} {ρ : Env'} {K : Env' → Prop}, tgPs ts xs ρ K → ∃ ρ', putL ts xs ρ = some ρ' ∧ K ρ'
  | [], [], ρ, K, h => ⟨ρ, rfl, h⟩
  | t :: ts, x :: xs, ρ, K, h => by
    simp only [tgPs] at h
    obtain ⟨ρ1, h1, h2⟩ := tgP_ok t h
    obtain ⟨ρ2, h3, h4⟩ := tgPs_ok ts h2
    exact ⟨ρ2, by simp only [putL, h1, Option.bind_some, h3], h4⟩
  | [], _ :: _, _, _, h => by simp [tgPs] at h
  | _ :: _, [], _, _, h => by simp [tgPs] at h
end
def pAll : List Nat → List D → Env' → (Env' → Prop) → Prop
  | [], [], ρ, K => K ρ
  | i :: is, d :: ds, ρ, K => inR ρ i (pAll is ds (ρ.set i (some d)) K)
  | _, _, _, _ => False
theorem pAll_ok : ∀ {is : List Nat} {ds : List D} {ρ : Env'} {K : Env' → Prop}, pAll is ds ρ K → ∃ ρ', putAll is ds ρ = some ρ' ∧ K ρ'
  | [], [], ρ, K, h => ⟨ρ, rfl, h⟩
  | i :: is, d :: ds, ρ, K, h => by
    obtain ⟨h1, h2⟩ := inR_ok h
    obtain ⟨ρ2, h3, h4⟩ := pAll_ok h2
    exact ⟨ρ2, by simp only [putAll, h1, if_true, h3], h4⟩
  | [], _ :: _, _, _, h => by simp [pAll] at h
  | _ :: _, [], _, _, h => by simp [pAll] at h
/-- what is handed on must be pure -/
def pur1 (d : D) (P : Prop) : Prop := match d with
  | .non => P
  | .bl _ => P
  | .int _ => P
  | .str _ => P
  | d => d.pure = true ∧ P
theorem pur1_ok {d : D} {P : Prop} (h : pur1 d P) : d.pure = true ∧ P := by
  cases d <;> first | exact ⟨rfl, h⟩ | exact h
def cnd (b : Bool) (d : D) (P : Prop) : Prop := match b with
  | false => P
  | true => pur1 d P
theorem cnd_ok {b : Bool} {d : D} {P : Prop} (h : cnd b d P) : (!b || d.pure) = true ∧ P := by
  cases b with
  | false => exact ⟨rfl, h⟩
  | true => obtain ⟨h1, h2⟩ := pur1_ok h; exact ⟨by simp [h1], h2⟩
def purP : List D → Prop → Prop
  | [], P => P
  | d :: r, P => pur1 d (purP r P)
theorem purP_ok : ∀ {ds : List D} {P : Prop}, purP ds P → pureL ds = true ∧ P
  | [], P, h => ⟨rfl, h⟩
  | d :: r, P, h => by
    obtain ⟨h1, h2⟩ := pur1_ok h
    obtain ⟨h3, h4⟩ := purP_ok h2
    exact ⟨by simp [pureL, h1, h3], h4⟩
/-- fewP -/
def fewP : List E → Nat → Prop → Prop
  | [], _, P => P
  | _ :: _, 0, _ => False
  | _ :: r, m + 1, P => fewP r m P
theorem fewP_ok : ∀ {es : List E} {n : Nat} {P : Prop}, fewP es n P → es.length ≤ n ∧ P
  | [], n, P, h => ⟨by simp, h⟩
  | _ :: r, 0, P, h => h.elim
  | _ :: r, m + 1, P, h => by
    obtain ⟨h1, h2⟩ := fewP_ok (n := m) (es := r) h
    exact ⟨by simpa using h1, h2⟩
def useP (d : D) (K : D → Prop) : Prop := match d with
  | .non => K .non
  | .bl b => K (.bl b)
  | .int i => K (.int i)
  | .str s => K (.str s)
  | .lst m xs => canL xs = true ∧ K (.lst false (frzL xs))
  | .tup xs => canL xs = true ∧ K (.tup (frzL xs))
  | .scr ns => K (.scr ns)
  | d => d.cand = true ∧ K d.frz
def nsh : Bool → Prop → Prop
  | false, P => P
  | true, _ => False
theorem nsh_f {P : Prop} : nsh false P = P := rfl
theorem nsh_ok {b : Bool} {P : Prop} (h : nsh b P) : b = false ∧ P := by
  cases b with
  | false => exact ⟨rfl, h⟩
  | true => exact h.elim
/-- a list made, frozen -/
def fzP (d : D) (K : D → Prop) : Prop := match d with
  | .lst _ xs => canL xs = true ∧ K (.lst false (frzL xs))
  | _ => False
theorem fzP_ok {d : D} {K : D → Prop} (h : fzP d K) : d.can = true ∧ K d.frz := by
  cases d <;> simp only [fzP] at h <;> first | exact h.elim | exact ⟨by simp only [D.can]; exact h.1, by simp only [D.frz]; exact h.2⟩
theorem fzP_L {m : Bool} {xs : List D} {K : D → Prop} (hp : pureL xs = true) (q : K (.lst false xs)) : fzP (.lst m xs) K := ⟨pureL_can hp, by rw [frzL_of_pure hp]; exact q⟩
theorem useP_ok {d : D} {K : D → Prop} (h : useP d K) : d.cand = true ∧ K d.frz := by
  cases d <;> simp only [useP] at h <;> first | exact ⟨rfl, h⟩ | exact h | skip
  · exact ⟨by simp only [D.cand]; exact canL_cand h.1, by simp only [D.frz]; exact h.2⟩
  · exact ⟨by simp only [D.cand]; exact canL_cand h.1, by simp only [D.frz]; exact h.2⟩
def truP (d : D) (K : Bool → Prop) : Prop := match d with
  | .bl b => K b
  | .non => K false
  | .int i => K (i != 0)
  | .str s => s.length ≤ lim ∧ K (s.length != 0)
  | .lst _ xs => K (!xs.isEmpty)
  | .tup xs => K (!xs.isEmpty)
  | _ => False
theorem truP_ok {d : D} {K : Bool → Prop} (h : truP d K) : ∃ t, truD d = some t ∧ K t := by
  cases d <;> simp only [truP] at h <;> first | exact ⟨_, rfl, h⟩ | exact h.elim | skip
  exact ⟨_, by simp only [truD, h.1, if_true], h.2⟩
def blP (d : D) (K : Bool → Prop) : Prop := match d with
  | .bl b => K b
  | _ => False
theorem blP_ok {d : D} {K : Bool → Prop} (h : blP d K) : ∃ t, d = .bl t ∧ K t := by
  cases d <;> simp only [blP] at h <;> first | exact ⟨_, rfl, h⟩ | exact h.elim
def brB (t : Bool) (A B : Prop) : Prop := match t with
  | true => A
  | false => B
def brF (t : Bool) (A B : Prop) : Prop := match t with
  | false => A
  | true => B
theorem brB_of {t : Bool} {A B : Prop} (h : (t = true → A) ∧ (t = false → B)) : brB t A B := by
  cases t with
  | true => exact h.1 rfl
  | false => exact h.2 rfl
theorem brF_of {t : Bool} {A B : Prop} (h : (t = false → A) ∧ (t = true → B)) : brF t A B := by
  cases t with
  | true => exact h.2 rfl
  | false => exact h.1 rfl
theorem brB_to {t : Bool} {A B : Prop} (h : brB t A B) : (t = true → A) ∧ (t = false → B) := by
  cases t with
  | true => exact ⟨fun _ => h, fun z => (by cases z)⟩
  | false => exact ⟨fun z => (by cases z), fun _ => h⟩
theorem brF_to {t : Bool} {A B : Prop} (h : brF t A B) : (t = false → A) ∧ (t = true → B) := by
  cases t with
  | false => exact ⟨fun _ => h, fun z => (by cases z)⟩
  | true => exact ⟨fun z => (by cases z), fun _ => h⟩
def isLT (d : D) (P : Prop) : Prop := match d with
  | .lst true _ => P
  | _ => False
theorem isLT_ok {d : D} {P : Prop} (h : isLT d P) : (∃ xs, d = .lst true xs) ∧ P := by
  unfold isLT at h
  split at h
  · exact ⟨⟨_, rfl⟩, h⟩
  · exact h.elim
def isLs (d : D) (P : Prop) : Prop := match d with
  | .lst _ _ => P
  | _ => False
theorem isLs_ok {d : D} {P : Prop} (h : isLs d P) : (∃ m xs, d = .lst m xs) ∧ P := by
  unfold isLs at h
  split at h
  · exact ⟨⟨_, _, rfl⟩, h⟩
  · exact h.elim
def isDT (d : D) (P : Prop) : Prop := match d with
  | .dic true _ => P
  | _ => False
theorem isDT_ok {d : D} {P : Prop} (h : isDT d P) : (∃ kvs, d = .dic true kvs) ∧ P := by
  unfold isDT at h
  split at h
  · exact ⟨⟨_, rfl⟩, h⟩
  · exact h.elim
def isDs (d : D) (P : Prop) : Prop := match d with
  | .dic _ _ => P
  | .dit _ _ => P
  | _ => False
theorem isDs_ok {d : D} {P : Prop} (h : isDs d P) : isDct d = true ∧ P := by
  cases d <;> simp only [isDs] at h <;> first | exact ⟨rfl, h⟩ | exact h.elim
def isIn (d : D) (K : Int → Prop) : Prop := match d with
  | .int i => K i
  | _ => False
theorem isIn_ok {d : D} {K : Int → Prop} (h : isIn d K) : ∃ i, d = .int i ∧ K i := by
  cases d <;> simp only [isIn] at h <;> first | exact ⟨_, rfl, h⟩ | exact h.elim
/-- an operation's question; a place's answer may be one's own -/
structure OP (o : Op) (ds : List D) (K : D → Prop) : Prop where
  out : WO (opD o ds) K
theorem OP_of {o : Op} {ds : List D} {K : D → Prop} (h : WO (opD o ds) K) : OP o ds K := ⟨h⟩
theorem OP_ok {o : Op} {ds : List D} {K : D → Prop} (h : OP o ds K) : WO (opD o ds) K := h.out
def wOp (o : Op) (sh : Bool) (ds : List D) (K : D → Prop) : Prop := match o with
  | .ix => OP .ix ds fun d => match sh with
    | true => K d
    | false => pur1 d (K d)
  | o => OP o ds K
theorem wOp_ok {o : Op} {sh : Bool} {ds : List D} {K : D → Prop} (h : wOp o sh ds K) : WO (opD o ds) fun d => (o != .ix || d.pure || sh) = true ∧ K d := by
  by_cases e : o = .ix
  · subst e
    obtain ⟨d, h1, h2⟩ := OP_ok h
    refine ⟨d, h1, ?_⟩
    cases sh with
    | true => exact ⟨by simp, h2⟩
    | false => obtain ⟨h3, h4⟩ := pur1_ok h2; exact ⟨by simp [h3], h4⟩
  · have : wOp o sh ds K = OP o ds K := by cases o <;> first | rfl | exact absurd rfl e
    rw [this] at h
    obtain ⟨d, h1, h2⟩ := OP_ok h
    exact ⟨d, h1, by simp [e], h2⟩
structure cmpP (o : CmpOp) (x y : D) (K : Bool → Prop) : Prop where
  out : ∃ t, cmpB o x y = some t ∧ K t
theorem cmpP_of {o : CmpOp} {x y : D} {K : Bool → Prop} (h : ∃ t, cmpB o x y = some t ∧ K t) : cmpP o x y K := ⟨h⟩
theorem cmpP_ok {o : CmpOp} {x y : D} {K : Bool → Prop} (h : cmpP o x y K) : ∃ t, cmpB o x y = some t ∧ K t := h.out
structure binP (o : Operator) (x y : D) (K : D → Prop) : Prop where
  out : WO (binO o x y) K
theorem binP_of {o : Operator} {x y : D} {K : D → Prop} (h : WO (binO o x y) K) : binP o x y K := ⟨h⟩
theorem binP_ok {o : Operator} {x y : D} {K : D → Prop} (h : binP o x y K) : WO (binO o x y) K := h.out
def flat2P (d : D) (P : Prop) : Prop := match d with
  | .int _ => P
  | .str _ => P
  | _ => False
theorem flat2P_ok {d : D} {P : Prop} (h : flat2P d P) : flat2 d = true ∧ P := by
  cases d <;> simp only [flat2P] at h <;> first | exact ⟨rfl, h⟩ | exact h.elim
def fetchP : List Ar → Env' → (List D → Env' → Prop) → Prop
  | [], ρ, K => K [] ρ
  | .val d :: r, ρ, K => fetchP r ρ fun ds ρ2 => K (d :: ds) ρ2
  | .lnt i :: r, ρ, K => getP ρ i fun d => fetchP r (ρ.set i none) fun ds ρ2 => K (d :: ds) ρ2
theorem fetchP_ok : ∀ {rs : List Ar} {ρ : Env'} {K : List D → Env' → Prop}, fetchP rs ρ K → ∃ ds ρ2, fetch rs ρ = some (ds, ρ2) ∧ K ds ρ2
  | [], ρ, K, h => ⟨[], ρ, rfl, h⟩
  | .val d :: r, ρ, K, h => by
    obtain ⟨ds, ρ2, h1, h2⟩ := fetchP_ok (rs := r) h
    exact ⟨d :: ds, ρ2, by simp only [fetch, h1, Option.map_some], h2⟩
  | .lnt i :: r, ρ, K, h => by
    obtain ⟨d, h0, h⟩ := getP_ok h
    obtain ⟨ds, ρ2, h1, h2⟩ := fetchP_ok (rs := r) h
    exact ⟨d :: ds, ρ2, by simp only [fetch, h0, h1, Option.map_some], h2⟩
def nshares (e : E) (es : List E) : Bool := match shares e with
  | false => false
  | true => match quietL es with
    | true => false
    | false => true
/-- what is asked of a form that has its own rule -/
structure Stop (P : Prop) : Prop where
  out : P
section
variable (call : CallT)
mutual
def wpE : E → Env' → (D → Env' → Prop) → Prop
  | .var i, ρ, Q => getP ρ i fun d => Q d ρ
  | .use i, ρ, Q => getP ρ i fun d => useP d fun d' => Q d' (ρ.set i (some d'))
  | .fz e, ρ, Q => nsh (shares e) (wpE e ρ fun d ρ1 => fzP d fun d' => Q d' ρ1)
  | .take i, ρ, Q => getP ρ i fun d => Q d (ρ.set i none)
  | .cst d, ρ, Q => Q d ρ
  | .glob _ d, ρ, Q => Q d ρ
  | .op o es, ρ, Q => wpR es ρ fun ds ρ' => wOp o (sharesL es) ds fun d => Q d ρ'
  | .and a b, ρ, Q => wpE a ρ fun x ρ1 => blP x fun t => brB t (wpE b ρ1 fun y ρ2 => blP y fun u => Q (.bl u) ρ2) (Q (.bl false) ρ1)
  | .or a b, ρ, Q => wpE a ρ fun x ρ1 => blP x fun t => brF t (wpE b ρ1 fun y ρ2 => blP y fun u => Q (.bl u) ρ2) (Q (.bl true) ρ1)
  | .not a, ρ, Q => wpE a ρ fun x ρ1 => blP x fun t => Q (.bl (!t)) ρ1
  | .chain o1 o2 a b c, ρ, Q => wpE a ρ fun x ρ1 => wpE b ρ1 fun y ρ2 => pur1 x (pur1 y (cmpP o1 x y fun t => brB t (wpE c ρ2 fun z ρ3 => pur1 z (cmpP o2 y z fun u => Q (.bl u) ρ3)) (Q (.bl false) ρ2)))
  | .ifx c a b, ρ, Q => wpE c ρ fun x ρ1 => truP x fun t => brB t (wpE a ρ1 fun y ρ2 => cnd (shares a) y (Q y ρ2)) (wpE b ρ1 fun y ρ2 => cnd (shares b) y (Q y ρ2))
  | .tup es, ρ, Q => wpC es ρ fun ds ρ' => fewP es 50 (purP ds (Q (.tup ds) ρ'))
  | .lst es, ρ, Q => wpC es ρ fun ds ρ' => fewP es 50 (Q (.lst true ds) ρ')
  | .call f as, ρ, Q => wpA as ρ fun rs ρ1 => fetchP rs ρ1 fun ds ρ2 => ∃ d outs, call f ds = .ok d outs ∧ Q d (back rs outs ρ2)
  | .mut o i [] as, ρ, Q => getP ρ i fun d0 => isLT d0 (wpC as ρ fun ds ρ2 => getP ρ2 i fun d => ∃ d' r, moD o d ds = some (d', r) ∧ Q r (ρ2.set i (some d')))
  | .idx i as, ρ, Q => getP ρ i fun d0 => isLs d0 (wpC as ρ fun ds ρ2 => getP ρ2 i fun d => WO (idxO d ds) fun r => Q r ρ2)
  | .dnew t, ρ, Q => brB t (Q (.dit true []) ρ) (Q (.dic true []) ρ)
  | .dupd i e, ρ, Q => getP ρ i fun d0 => isDT d0 (wpE e ρ fun d ρ1 => cnd (shares e) d (getP ρ1 i fun x => ∃ x', dupO x d = some x' ∧ Q .non (ρ1.set i (some x'))))
  | .dget2 i as, ρ, Q => getP ρ i fun d0 => isDs d0 (wpC as ρ fun ds ρ2 => getP ρ2 i fun d => WO (dget2O d ds) fun r => Q r ρ2)
  | e, ρ, Q => Stop (WR (ev call e ρ) Q)
def wpR : List E → Env' → (List D → Env' → Prop) → Prop
  | [], ρ, Q => Q [] ρ
  | e :: es, ρ, Q => match varOf e with
    | some i => getP ρ i fun _ => wpR es ρ fun ds ρ2 => getP ρ2 i fun d => Q (d :: ds) ρ2
    | none => wpE e ρ fun d ρ1 => wpR es ρ1 fun ds ρ2 => cnd (nshares e es) d (Q (d :: ds) ρ2)
def wpC : List E → Env' → (List D → Env' → Prop) → Prop
  | [], ρ, Q => Q [] ρ
  | e :: es, ρ, Q => wpE e ρ fun d ρ1 => wpC es ρ1 fun ds ρ2 => cnd (shares e) d (Q (d :: ds) ρ2)
def wpA : List E → Env' → (List Ar → Env' → Prop) → Prop
  | [], ρ, Q => Q [] ρ
  | e :: es, ρ, Q => match lendOf e with
    | some i => getP ρ i fun _ => wpA es ρ fun ds ρ2 => Q (.lnt i :: ds) ρ2
    | none => wpE e ρ fun d ρ1 => wpA es ρ1 fun ds ρ2 => cnd (shares e) d (Q (.val d :: ds) ρ2)
end
end
section
variable {call : CallT}
theorem few_lim {es : List E} {ds : List D} {ρ ρ' : Env'} (h : evC call es ρ = .ok ds ρ') (hl : es.length ≤ 50) : ds.length ≤ lim := by
  rw [evC_len h]
  unfold lim; omega
mutual
theorem wpE_ok : ∀ (e : E) {ρ : Env'} {Q : D → Env' → Prop}, wpE call e ρ Q → WR (ev call e ρ) Q
  | .var i, ρ, Q, h => by
    obtain ⟨d, h1, h2⟩ := getP_ok h
    exact W_var h1 h2
  | .use i, ρ, Q, h => by
    obtain ⟨d, h1, h2⟩ := getP_ok h
    obtain ⟨h3, h4⟩ := useP_ok h2
    exact W_useC h1 h3 h4
  | .take i, ρ, Q, h => by
    obtain ⟨d, h1, h2⟩ := getP_ok h
    exact W_take h1 h2
  | .cst d, ρ, Q, h => W_cst h
  | .glob _ d, ρ, Q, h => W_glob h
  | .op o es, ρ, Q, h => W_op ((wpR_ok es h).imp fun _ _ h => wOp_ok h)
  | .and a b, ρ, Q, h => W_and ((wpE_ok a h).imp fun x ρ1 h => by
      obtain ⟨t, rfl, h⟩ := blP_ok h
      obtain ⟨h1, h2⟩ := brB_to h
      exact ⟨t, rfl, fun z => (wpE_ok b (h1 z)).imp fun y ρ2 h => blP_ok h, h2⟩)
  | .or a b, ρ, Q, h => W_or ((wpE_ok a h).imp fun x ρ1 h => by
      obtain ⟨t, rfl, h⟩ := blP_ok h
      obtain ⟨h1, h2⟩ := brF_to h
      exact ⟨t, rfl, fun z => (wpE_ok b (h1 z)).imp fun y ρ2 h => blP_ok h, h2⟩)
  | .not a, ρ, Q, h => W_not ((wpE_ok a h).imp fun x ρ1 h => blP_ok h)
  | .ifx c a b, ρ, Q, h => W_ifx ((wpE_ok c h).imp fun x ρ1 h => by
      obtain ⟨t, ht, h⟩ := truP_ok h
      obtain ⟨h1, h2⟩ := brB_to h
      exact ⟨t, ht, fun z => (wpE_ok a (h1 z)).imp fun y ρ2 h => cnd_ok h, fun z => (wpE_ok b (h2 z)).imp fun y ρ2 h => cnd_ok h⟩)
  | .tup es, ρ, Q, h => by
    obtain ⟨⟨ds, ρ', e, h⟩⟩ := wpC_ok es h
    obtain ⟨h1, h2⟩ := fewP_ok h
    obtain ⟨h3, h4⟩ := purP_ok h2
    exact W_tup ⟨⟨ds, ρ', e, by rw [h3, decide_eq_true (few_lim e h1)]; rfl, h4⟩⟩
  | .lst es, ρ, Q, h => by
    obtain ⟨⟨ds, ρ', e, h⟩⟩ := wpC_ok es h
    obtain ⟨h1, h2⟩ := fewP_ok h
    exact W_lst ⟨⟨ds, ρ', e, few_lim e h1, h2⟩⟩
  | .call f as, ρ, Q, h => W_call ((wpA_ok as h).imp fun rs ρ1 h => fetchP_ok h)
  | .mut o i [] as, ρ, Q, h => by
    obtain ⟨d, h1, h2⟩ := getP_ok h
    obtain ⟨⟨xs, rfl⟩, h3⟩ := isLT_ok h2
    exact W_mut0 h1 ((wpC_ok as h3).imp fun ds ρ2 h => getP_ok h)
  | .mut o i (_ :: _) as, ρ, Q, h => h.out
  | .idx i as, ρ, Q, h => by
    obtain ⟨d, h1, h2⟩ := getP_ok h
    obtain ⟨⟨m, xs, rfl⟩, h3⟩ := isLs_ok h2
    exact W_idx h1 ((wpC_ok as h3).imp fun ds ρ2 h => getP_ok h)
  | .dnew t, ρ, Q, h => by
    refine W_dnew ?_
    cases t with
    | true => exact h
    | false => exact h
  | .dupd i e, ρ, Q, h => by
    obtain ⟨d, h1, h2⟩ := getP_ok h
    obtain ⟨⟨kvs, rfl⟩, h3⟩ := isDT_ok h2
    exact W_dupd h1 ((wpE_ok e h3).imp fun d ρ1 h => by
      obtain ⟨c, h⟩ := cnd_ok h
      exact ⟨c, getP_ok h⟩)
  | .dget2 i as, ρ, Q, h => by
    obtain ⟨d, h1, h2⟩ := getP_ok h
    obtain ⟨h2, h3⟩ := isDs_ok h2
    exact W_dget2 h1 h2 ((wpC_ok as h3).imp fun ds ρ2 h => getP_ok h)
  | .lend i, ρ, Q, h => h.out
  | .chain o1 o2 a b c, ρ, Q, h => W_chain ((wpE_ok a h).imp fun x ρ1 h => (wpE_ok b h).imp fun y ρ2 h => by
      obtain ⟨p1, h⟩ := pur1_ok h
      obtain ⟨p2, h⟩ := pur1_ok h
      obtain ⟨t, ht, h⟩ := cmpP_ok h
      obtain ⟨h1, h2⟩ := brB_to h
      refine ⟨by rw [p1, p2]; rfl, t, ht, fun z => (wpE_ok c (h1 z)).imp fun z ρ3 h => ?_, h2⟩
      obtain ⟨p3, h⟩ := pur1_ok h
      obtain ⟨u, hu, h⟩ := cmpP_ok h
      exact ⟨p3, .bl u, by simp only [cmpO, hu, Option.map_some], h⟩)
  | .chain3 o1 o2 o3 a b c d, ρ, Q, h => h.out
  | .lc el t k es cs own, ρ, Q, h => h.out
  | .disp ks vs, ρ, Q, h => h.out
  | .lcK i el t cs own, ρ, Q, h => h.out
  | .lcO i el t cs own, ρ, Q, h => h.out
  | .lcE i el t cs own, ρ, Q, h => h.out
  | .sortK n j ks, ρ, Q, h => h.out
  | .fz e, ρ, Q, h => W_fz ((wpE_ok e (nsh_ok h).2).imp fun d ρ1 q => by
      obtain ⟨h1, h2⟩ := fzP_ok q
      exact ⟨by rw [h1, (nsh_ok h).1]; rfl, h2⟩)
theorem wpR_ok : ∀ (es : List E) {ρ : Env'} {Q : List D → Env' → Prop}, wpR call es ρ Q → WR (evR call es ρ) Q
  | [], ρ, Q, h => W_rnil h
  | e :: es, ρ, Q, h => by
    unfold wpR at h
    cases hv : varOf e with
    | some i =>
      rw [hv] at h
      rw [varOf_some hv]
      obtain ⟨d0, h0, h⟩ := getP_ok h
      exact W_rvar h0 ((wpR_ok es h).imp fun ds ρ2 h => getP_ok h)
    | none =>
      rw [hv] at h
      refine W_rcons hv ((wpE_ok e h).imp fun d ρ1 h => (wpR_ok es h).imp fun ds ρ2 h => ?_)
      obtain ⟨c, h⟩ := cnd_ok h
      refine ⟨?_, h⟩
      unfold nshares at c
      cases hs : shares e with
      | false => rfl
      | true =>
        rw [hs] at c
        cases hq : quietL es with
        | true => simp
        | false => rw [hq] at c; simpa using c
theorem wpC_ok : ∀ (es : List E) {ρ : Env'} {Q : List D → Env' → Prop}, wpC call es ρ Q → WR (evC call es ρ) Q
  | [], ρ, Q, h => W_cnil h
  | e :: es, ρ, Q, h => W_ccons ((wpE_ok e h).imp fun d ρ1 h => (wpC_ok es h).imp fun ds ρ2 h => cnd_ok h)
theorem wpA_ok : ∀ (es : List E) {ρ : Env'} {Q : List Ar → Env' → Prop}, wpA call es ρ Q → WR (evA call es ρ) Q
  | [], ρ, Q, h => W_anil h
  | e :: es, ρ, Q, h => by
    unfold wpA at h
    cases hv : lendOf e with
    | some i =>
      rw [hv] at h
      have : e = .lend i := by cases e <;> simp [lendOf] at hv; rw [hv]
      subst this
      obtain ⟨d0, h0, h⟩ := getP_ok h
      exact W_alend h0 (wpA_ok es h)
    | none =>
      rw [hv] at h
      exact W_acons hv ((wpE_ok e h).imp fun d ρ1 h => (wpA_ok es h).imp fun ds ρ2 h => cnd_ok h)
end
end
/-- a statement's question -/
def wpS (call : CallT) : S → Env' → KS → Prop
  | .asg t e, ρ, k => wpE call e ρ fun d ρ1 => cnd (shares e) d (tgP t d ρ1 k.nx)
  | .multi is es, ρ, k => wpC call es ρ fun ds ρ1 => pAll is ds ρ1 k.nx
  | .aug i o e, ρ, k => getP ρ i fun _ => wpE call e ρ fun d ρ1 => getP ρ1 i fun x => flat2P x (binP o x d fun y => k.nx (ρ1.set i (some y)))
  | .expr e, ρ, k => wpE call e ρ fun _ ρ1 => k.nx ρ1
  | .dstore i kx e, ρ, k => wpE call e ρ fun d ρ1 => pur1 d (getP ρ1 i fun _ => wpE call kx ρ1 fun kd ρ2 => getP ρ2 i fun x => ∃ x', dput x kd d = some x' ∧ k.nx (ρ2.set i (some x')))
  | .ifs c a b, ρ, k => wpE call c ρ fun d ρ1 => truP d fun t => brB t (WX (exs call a ρ1) k) (WX (exs call b ρ1) k)
  | .ret e, ρ, k => wpE call e ρ fun d ρ1 => cnd (shares e) d (k.rt d ρ1)
  | .retN, ρ, k => k.rt .non ρ
  | .pass, ρ, k => k.nx ρ
  | .brk, ρ, k => k.bk ρ
  | .cont, ρ, k => k.ct ρ
  | .frz i, ρ, k => getP ρ i fun d => useP d fun d' => k.nx (ρ.set i (some d'))
  | .store i [] ix e, ρ, k => wpE call e ρ fun d ρ1 => cnd (shares e) d (getP ρ1 i fun x => isLT x (quiet ix = true ∧ wpE call ix ρ1 fun kk ρ3 => isIn kk fun j => ∃ x' r, setO j d x = some (x', r) ∧ k.nx (ρ3.set i (some x'))))
  | s, ρ, k => WX (ex call s ρ) k
theorem wpS_ok {call : CallT} : ∀ (s : S) {ρ : Env'} {k : KS}, wpS call s ρ k → WX (ex call s ρ) k
  | .asg t e, ρ, k, h => X_asg ((wpE_ok e h).imp fun d ρ1 h => by
      obtain ⟨c, h⟩ := cnd_ok h
      exact ⟨c, tgP_ok t h⟩)
  | .multi is es, ρ, k, h => X_multi ((wpC_ok es h).imp fun ds ρ1 h => pAll_ok h)
  | .aug i o e, ρ, k, h => by
    obtain ⟨d, h1, h2⟩ := getP_ok h
    exact X_aug h1 ((wpE_ok e h2).imp fun d ρ1 h => by
      obtain ⟨x, h1, h⟩ := getP_ok h
      obtain ⟨h2, h⟩ := flat2P_ok h
      exact ⟨x, h1, h2, binP_ok h⟩)
  | .expr e, ρ, k, h => X_expr (wpE_ok e h)
  | .dstore i kx e, ρ, k, h => X_dstore ((wpE_ok e h).imp fun d ρ1 h => by
      obtain ⟨c, h⟩ := pur1_ok h
      obtain ⟨x0, h0, h⟩ := getP_ok h
      exact ⟨c, ⟨x0, h0⟩, (wpE_ok kx h).imp fun kd ρ2 h => getP_ok h⟩)
  | .ifs c a b, ρ, k, h => X_ifs ((wpE_ok c h).imp fun d ρ1 h => by
      obtain ⟨t, ht, h⟩ := truP_ok h
      exact ⟨t, ht, brB_to h⟩)
  | .ret e, ρ, k, h => X_ret ((wpE_ok e h).imp fun d ρ1 h => cnd_ok h)
  | .retN, ρ, k, h => ⟨by simp only [ex, WXd]; exact h⟩
  | .pass, ρ, k, h => ⟨by simp only [ex, WXd]; exact h⟩
  | .brk, ρ, k, h => ⟨by simp only [ex, WXd]; exact h⟩
  | .cont, ρ, k, h => ⟨by simp only [ex, WXd]; exact h⟩
  | .frz i, ρ, k, h => by
    obtain ⟨d, h1, h2⟩ := getP_ok h
    obtain ⟨h3, h4⟩ := useP_ok h2
    refine ⟨?_⟩
    simp only [ex, h1, h3, if_true]
    exact h4
  | .store i [] ix e, ρ, k, h => X_store ((wpE_ok e h).imp fun d ρ1 h => by
      obtain ⟨c, h⟩ := cnd_ok h
      obtain ⟨x, h1, h⟩ := getP_ok h
      obtain ⟨⟨xs, rfl⟩, hq, h⟩ := isLT_ok h
      refine ⟨_, h1, by rw [c, hq]; rfl, W_rnil ⟨[], rfl, rfl, (wpE_ok ix h).imp fun kk ρ3 h => ?_⟩⟩
      obtain ⟨j, rfl, h⟩ := isIn_ok h
      exact ⟨j, rfl, h⟩)
  | .store i (_ :: _) ix e, ρ, k, h => h
  | .whl n c b, ρ, k, h => h
  | .fors t kk es b, ρ, k, h => h
  | .forO x o b, ρ, k, h => h
  | .bad, ρ, k, h => h
/-- one statement ahead of the rest -/
theorem X_step {call : CallT} {s : S} {r : List S} {ρ : Env'} {k : KS} (q : wpS call s ρ { k with nx := fun ρ' => WX (exs call r ρ') k }) : WX (exs call (s :: r) ρ) k := X_cons (wpS_ok s q)
theorem W_step {call : CallT} {e : E} {ρ : Env'} {Q : D → Env' → Prop} (q : wpE call e ρ Q) : WR (ev call e ρ) Q := wpE_ok e q
theorem W_stepR {call : CallT} {e : List E} {ρ : Env'} {Q : List D → Env' → Prop} (q : wpR call e ρ Q) : WR (evR call e ρ) Q := wpR_ok e q
theorem W_stepC {call : CallT} {e : List E} {ρ : Env'} {Q : List D → Env' → Prop} (q : wpC call e ρ Q) : WR (evC call e ρ) Q := wpC_ok e q
theorem W_stepA {call : CallT} {e : List E} {ρ : Env'} {Q : List Ar → Env' → Prop} (q : wpA call e ρ Q) : WR (evA call e ρ) Q := wpA_ok e q
/-! rules that hold by themselves -/
theorem band_t (b : Bool) : (true && b) = b := rfl
theorem band_f (b : Bool) : (false && b) = false := rfl
theorem bor_t (b : Bool) : (true || b) = true := rfl
theorem bor_f (b : Bool) : (false || b) = b := rfl
theorem bnot_t : (!true) = false := rfl
theorem bnot_f : (!false) = true := rfl
theorem tgP_s {i : Nat} {d : D} {ρ : Env'} {K : Env' → Prop} : tgP (.slot i) d ρ K = inR ρ i (K (ρ.set i (some d))) := rfl
theorem tgP_t {ts : List T} {xs : List D} {ρ : Env'} {K : Env' → Prop} : tgP (.tup ts) (.tup xs) ρ K = tgPs ts xs ρ K := rfl
theorem tgP_l {ts : List T} {m : Bool} {xs : List D} {ρ : Env'} {K : Env' → Prop} : tgP (.tup ts) (.lst m xs) ρ K = tgPs ts xs ρ K := rfl
theorem tgPs_n {ρ : Env'} {K : Env' → Prop} : tgPs [] [] ρ K = K ρ := rfl
theorem tgPs_c {t : T} {ts : List T} {x : D} {xs : List D} {ρ : Env'} {K : Env' → Prop} : tgPs (t :: ts) (x :: xs) ρ K = tgP t x ρ fun ρ' => tgPs ts xs ρ' K := rfl
theorem Mk_d {a b e : List Nat} {c d : Nat} : Mk.d ⟨a, b, c, d, e⟩ = .tup [.str a, .str b, .int (c : Int), .int (d : Int), .str e] := rfl
theorem tgP_m {ts : List T} {m : Mk} {ρ : Env'} {K : Env' → Prop} : tgP (.tup ts) m.d ρ K = tgPs ts [.str m.hand, .str m.layer, .int (m.first : Int), .int (m.past : Int), .str m.word] ρ K := rfl
theorem tgP_cut {ts : List T} {a k : Nat} {ρ : Env'} {K : Env' → Prop} : tgP (.tup ts) (Ed.d (.cut a k)) ρ K = tgPs ts [.str [99, 117, 116], .int (a : Int), .int (k : Int)] ρ K := rfl
theorem tgP_put {ts : List T} {a : Nat} {w : List Nat} {ρ : Env'} {K : Env' → Prop} : tgP (.tup ts) (Ed.d (.put a w)) ρ K = tgPs ts [.str [112, 117, 116], .int (a : Int), .str w] ρ K := rfl
theorem brB_t {A B : Prop} : brB true A B = A := rfl
theorem brB_f {A B : Prop} : brB false A B = B := rfl
theorem brF_t {A B : Prop} : brF true A B = B := rfl
theorem brF_f {A B : Prop} : brF false A B = A := rfl
theorem truP_bl {K : Bool → Prop} {b : Bool} : truP (.bl b) K = K b := rfl
theorem truP_non {K : Bool → Prop} : truP .non K = K false := rfl
theorem truP_int {K : Bool → Prop} {i : Int} : truP (.int i) K = K (i != 0) := rfl
theorem truP_str {K : Bool → Prop} {s : List Nat} : truP (.str s) K = (s.length ≤ lim ∧ K (s.length != 0)) := rfl
theorem truP_lst {K : Bool → Prop} {m : Bool} {xs : List D} : truP (.lst m xs) K = K (!xs.isEmpty) := rfl
theorem truP_tup {K : Bool → Prop} {xs : List D} : truP (.tup xs) K = K (!xs.isEmpty) := rfl
theorem blP_bl {K : Bool → Prop} {b : Bool} : blP (.bl b) K = K b := rfl
theorem isLT_l {P : Prop} {xs : List D} : isLT (.lst true xs) P = P := rfl
theorem isLs_l {P : Prop} {m : Bool} {xs : List D} : isLs (.lst m xs) P = P := rfl
theorem isDT_d {P : Prop} {xs : List (Key × D)} : isDT (.dic true xs) P = P := rfl
theorem isDs_d {P : Prop} {m : Bool} {xs : List (Key × D)} : isDs (.dic m xs) P = P := rfl
theorem isDs_t {P : Prop} {m : Bool} {xs : List (List Key × D)} : isDs (.dit m xs) P = P := rfl
theorem isIn_i {K : Int → Prop} {i : Int} : isIn (.int i) K = K i := rfl
theorem flat2P_i {P : Prop} {i : Int} : flat2P (.int i) P = P := rfl
theorem flat2P_s {P : Prop} {i : List Nat} : flat2P (.str i) P = P := rfl
theorem useP_non {K : D → Prop} : useP .non K = K .non := rfl
theorem useP_bl {K : D → Prop} {b : Bool} : useP (.bl b) K = K (.bl b) := rfl
theorem useP_int {K : D → Prop} {b : Int} : useP (.int b) K = K (.int b) := rfl
theorem useP_str {K : D → Prop} {b : List Nat} : useP (.str b) K = K (.str b) := rfl
theorem useP_scr {K : D → Prop} {b : List Int} : useP (.scr b) K = K (.scr b) := rfl
theorem pur1_non {P : Prop} : pur1 .non P = P := rfl
theorem pur1_bl {P : Prop} {b : Bool} : pur1 (.bl b) P = P := rfl
theorem pur1_int {P : Prop} {b : Int} : pur1 (.int b) P = P := rfl
theorem pur1_str {P : Prop} {b : List Nat} : pur1 (.str b) P = P := rfl
theorem cnd_f {P : Prop} {d : D} : cnd false d P = P := rfl
theorem cnd_t {P : Prop} {d : D} : cnd true d P = pur1 d P := rfl
theorem OP_addI {K : D → Prop} {a b : Int} (q : K (.int (a + b))) : OP (.bin .Add) [.int a, .int b] K := ⟨⟨_, rfl, q⟩⟩
theorem OP_subI {K : D → Prop} {a b : Int} (q : K (.int (a - b))) : OP (.bin .Sub) [.int a, .int b] K := ⟨⟨_, rfl, q⟩⟩
theorem OP_neg {K : D → Prop} {a : Int} (q : K (.int (-a))) : OP .neg [.int a] K := ⟨⟨_, rfl, q⟩⟩
theorem OP_lt {K : D → Prop} {a b : Int} (q : K (.bl (decide (a < b)))) : OP (.cmp .Lt) [.int a, .int b] K := ⟨⟨_, rfl, q⟩⟩
theorem OP_le {K : D → Prop} {a b : Int} (q : K (.bl (decide (a ≤ b)))) : OP (.cmp .LtE) [.int a, .int b] K := ⟨⟨_, rfl, q⟩⟩
theorem OP_gt {K : D → Prop} {a b : Int} (q : K (.bl (decide (b < a)))) : OP (.cmp .Gt) [.int a, .int b] K := ⟨⟨_, rfl, q⟩⟩
theorem OP_ge {K : D → Prop} {a b : Int} (q : K (.bl (decide (b ≤ a)))) : OP (.cmp .GtE) [.int a, .int b] K := ⟨⟨_, rfl, q⟩⟩
theorem OP_eqI {K : D → Prop} {a b : Int} (q : K (.bl (a == b))) : OP (.cmp .Eq) [.int a, .int b] K := ⟨⟨_, rfl, q⟩⟩
theorem OP_neI {K : D → Prop} {a b : Int} (q : K (.bl (!(a == b)))) : OP (.cmp .NotEq) [.int a, .int b] K := ⟨⟨_, rfl, q⟩⟩
theorem OP_eqS {K : D → Prop} {a b : List Nat} (q : K (.bl (decide (a = b)))) : OP (.cmp .Eq) [.str a, .str b] K := ⟨⟨_, rfl, q⟩⟩
theorem OP_neS {K : D → Prop} {a b : List Nat} (q : K (.bl (!decide (a = b)))) : OP (.cmp .NotEq) [.str a, .str b] K := ⟨⟨_, rfl, q⟩⟩
theorem OP_isN {K : D → Prop} {d : D} (q : K (.bl (isNon d))) : OP (.cmp .Is) [d, .non] K := ⟨⟨_, rfl, q⟩⟩
theorem OP_notN {K : D → Prop} {d : D} (q : K (.bl (!isNon d))) : OP (.cmp .IsNot) [d, .non] K := ⟨⟨_, rfl, q⟩⟩
theorem OP_lenL {K : D → Prop} {m : Bool} {xs : List D} (q : K (.int xs.length)) : OP (.fn .len) [.lst m xs] K := ⟨⟨_, rfl, q⟩⟩
theorem OP_lenT {K : D → Prop} {xs : List D} (q : K (.int xs.length)) : OP (.fn .len) [.tup xs] K := ⟨⟨_, rfl, q⟩⟩
theorem OP_max2 {K : D → Prop} {a b : Int} (q : K (.int (if b > a then b else a))) : OP (.fn .max) [.int a, .int b] K := ⟨⟨_, rfl, q⟩⟩
theorem OP_min2 {K : D → Prop} {a b : Int} (q : K (.int (if b < a then b else a))) : OP (.fn .min) [.int a, .int b] K := ⟨⟨_, rfl, q⟩⟩
theorem binP_addI {K : D → Prop} {a b : Int} (q : K (.int (a + b))) : binP .Add (.int a) (.int b) K := ⟨⟨_, rfl, q⟩⟩
theorem binP_subI {K : D → Prop} {a b : Int} (q : K (.int (a - b))) : binP .Sub (.int a) (.int b) K := ⟨⟨_, rfl, q⟩⟩
theorem cmpP_lt {K : Bool → Prop} {a b : Int} (q : K (decide (a < b))) : cmpP .Lt (.int a) (.int b) K := ⟨_, rfl, q⟩
theorem cmpP_le {K : Bool → Prop} {a b : Int} (q : K (decide (a ≤ b))) : cmpP .LtE (.int a) (.int b) K := ⟨_, rfl, q⟩
theorem cmpP_gt {K : Bool → Prop} {a b : Int} (q : K (decide (b < a))) : cmpP .Gt (.int a) (.int b) K := ⟨_, rfl, q⟩
theorem cmpP_ge {K : Bool → Prop} {a b : Int} (q : K (decide (b ≤ a))) : cmpP .GtE (.int a) (.int b) K := ⟨_, rfl, q⟩
/-! rules with a premise -/
theorem useP_L {K : D → Prop} {m : Bool} {xs : List D} (hp : pureL xs = true) (q : K (.lst false xs)) : useP (.lst m xs) K := ⟨pureL_can hp, by rw [frzL_of_pure hp]; exact q⟩
theorem useP_T {K : D → Prop} {xs : List D} (hp : pureL xs = true) (q : K (.tup xs)) : useP (.tup xs) K := ⟨pureL_can hp, by rw [frzL_of_pure hp]; exact q⟩
theorem useP_Q {K : D → Prop} {b : Option Bool} {xs : List D} (hp : pureL xs = true) (q : K (seqL (frzB b) xs)) : useP (seqL b xs) K := by
  cases b with
  | none => exact useP_T hp q
  | some m => exact useP_L hp q
theorem useP_P {K : D → Prop} {d : D} (hp : d.pure = true) (q : K d) : useP d K := by
  have e := D.frz_of_pure hp
  cases d <;> first | exact q | skip
  · simp only [D.pure] at hp; exact useP_T hp q
  · simp only [D.pure, Bool.and_eq_true, Bool.not_eq_true'] at hp; rw [hp.1] at q; exact useP_L hp.2 q
  · exact ⟨D.can_cand (D.pure_can hp), by rw [e]; exact q⟩
  · exact ⟨D.can_cand (D.pure_can hp), by rw [e]; exact q⟩
  · exact ⟨D.can_cand (D.pure_can hp), by rw [e]; exact q⟩
theorem pur1_of {d : D} {P : Prop} (hp : d.pure = true) (q : P) : pur1 d P := by
  cases d <;> first | exact q | exact ⟨hp, q⟩
theorem O_tupP {m : Bool} {xs : List D} {Qd : D → Prop} (hp : pureL xs = true) (q : Qd (.tup xs)) : WO (opD (.fn .tuple) [.lst m xs]) Qd := ⟨_, by simp only [opD, fnO, tupleO, hp, if_true], q⟩
theorem O_listP {m : Bool} {xs : List D} {Qd : D → Prop} (hp : pureL xs = true) (q : Qd (.lst true xs)) : WO (opD (.fn .list) [.lst m xs]) Qd := ⟨_, by simp only [opD, fnO, listO, hp, if_true], q⟩
/-! guards -/
theorem gDget {ds : List D} {Q : D → Prop} (h : WO (opD .dget ds) Q) : WO (opD .dget ds) Q := h
theorem gDict {ds : List D} {Q : D → Prop} (h : WO (opD (.fn .dict) ds) Q) : WO (opD (.fn .dict) ds) Q := h
theorem OPi {o : Op} {ds : List D} {K : D → Prop} (h : OP o ds K) : OP o ds K := h
theorem gEq {α : Type} {a b : α} {P : Prop} (h : a = b ∧ P) : a = b ∧ P := h
theorem gEx {α : Type} {p : α → Prop} (h : ∃ x, p x) : ∃ x, p x := h
theorem gBr {s t u v : Bool} {A B : Prop} (h : (s = t → A) ∧ (u = v → B)) : (s = t → A) ∧ (u = v → B) := h
theorem gR {α : Type} {a b : α} (h : a = b) : a = b := h
end VI

namespace VI
open PySem L2
/-- from f to p -/
def sl (l : List Nat) (f p : Nat) : List Nat := (l.take p).drop f
theorem sl_at (l : List Nat) (f p i : Nat) : (sl l f p)[i]? = if f + i < p then l[f + i]? else none := by
  unfold sl
  rw [List.getElem?_drop, List.getElem?_take]
theorem sl_len {l : List Nat} {f p : Nat} (h : p ≤ l.length) : (sl l f p).length = p - f := by
  unfold sl; simp; omega
theorem sl_mem {l : List Nat} {f p x : Nat} (h : x ∈ sl l f p) : x ∈ l := List.mem_of_mem_take (List.mem_of_mem_drop h)
theorem sl_app {X W : List Nat} {f p : Nat} (h : f ≤ p) : sl (X ++ W) f p = sl X f p ++ sl W (f - X.length) (p - X.length) := by
  unfold sl
  rw [List.take_append, List.drop_append, List.length_take]
  have : f - min p X.length = f - X.length := by omega
  rw [this]
theorem sl_ext {l : List Nat} {f p f' p' : Nat} (h : ∀ i, f + i < p → f + i < l.length → f' + i < p' ∧ f' + i = f + i) (h' : ∀ i, f' + i < p' → f' + i < l.length → f + i < p ∧ f' + i = f + i) : sl l f p = sl l f' p' := by
  refine List.ext_getElem? fun i => ?_
  rw [sl_at, sl_at]
  by_cases h1 : f + i < p ∧ f + i < l.length
  · obtain ⟨h2, h3⟩ := h i h1.1 h1.2
    rw [if_pos h1.1, if_pos h2, h3]
  · by_cases h2 : f' + i < p' ∧ f' + i < l.length
    · obtain ⟨h3, h4⟩ := h' i h2.1 h2.2
      exact absurd ⟨h3, h4 ▸ h2.2⟩ h1
    · have e1 : (if f + i < p then l[f + i]? else none) = none := by
        split
        · exact List.getElem?_eq_none (by omega)
        · rfl
      have e2 : (if f' + i < p' then l[f' + i]? else none) = none := by
        split
        · exact List.getElem?_eq_none (by omega)
        · rfl
      rw [e1, e2]
def slE (l : List Nat) : Option (Nat × Nat) → List Nat
  | none => []
  | some (f, p) => sl l f p
theorem slE_cut {O : List Nat} (nd : O.Nodup) {a k : Nat} (h : a + k ≤ O.length) {o : Option (Nat × Nat)} (ho : ∀ q, o = some q → q.1 < q.2 ∧ q.2 ≤ O.length) :
    (slE O o).filter (fun x => decide (x ∉ sl O a (a + k))) = slE (O.take a ++ O.drop (a + k)) (o.bind (led1 (.cut a k))) := by
  cases o with
  | none => rfl
  | some q =>
    obtain ⟨f, p⟩ := q
    obtain ⟨h1, h2⟩ := ho _ rfl
    simp only at h1 h2
    have eX : (O.take a).length = a := by simp; omega
    have eY : (sl O a (a + k)).length = k := by rw [sl_len h]; omega
    have eO : O = O.take a ++ (sl O a (a + k) ++ O.drop (a + k)) := by
      have : sl O a (a + k) = (O.drop a).take k := by unfold sl; rw [List.drop_take]; congr 1; omega
      rw [this, ← List.drop_drop, List.take_append_drop, List.take_append_drop]
    generalize hX : O.take a = X at eX eO ⊢
    generalize hY : sl O a (a + k) = Y at eY eO ⊢
    generalize hZ : O.drop (a + k) = Z at eO ⊢
    subst eO
    clear hX hY hZ
    rw [List.nodup_append] at nd
    obtain ⟨_, n2, n3⟩ := nd
    rw [List.nodup_append] at n2
    obtain ⟨_, _, n4⟩ := n2
    show (sl (X ++ (Y ++ Z)) f p).filter _ = _
    rw [sl_app (by omega), sl_app (by omega), List.filter_append, List.filter_append]
    have f1 : (sl X f p).filter (fun x => decide (x ∉ Y)) = sl X f p := by
      rw [List.filter_eq_self]
      exact fun x hx => decide_eq_true fun hy => n3 x (sl_mem hx) x (List.mem_append.mpr (.inl hy)) rfl
    have f2 : (sl Y (f - X.length) (p - X.length)).filter (fun x => decide (x ∉ Y)) = [] := by
      rw [List.filter_eq_nil_iff]
      exact fun x hx => by simp [sl_mem hx]
    have f3 : ∀ f p, (sl Z f p).filter (fun x => decide (x ∉ Y)) = sl Z f p := fun f p => by
      rw [List.filter_eq_self]
      exact fun x hx => decide_eq_true fun hy => n4 x hy x (sl_mem hx) rfl
    rw [f1, f2, f3, List.nil_append, eX, eY]
    simp only [Option.bind_some, led1]
    have tgt : sl X f p ++ sl Z (f - a - k) (p - a - k) = sl (X ++ Z) (f - min k (f - a)) (p - min k (p - a)) := by
      rw [sl_app (by omega), eX]
      congr 1
      · refine sl_ext (fun i a1 a2 => ?_) fun i a1 a2 => ?_ <;> omega
      · congr 1 <;> omega
    rw [tgt]
    split
    · rfl
    · rename_i hc
      show _ = []
      refine List.eq_nil_of_length_eq_zero ?_
      unfold sl
      simp
      omega
theorem slE_put {O N w : List Nat} {a f p : Nat} (h : a ≤ O.length) (hN : N.length = w.length) (h1 : f < p) (h2 : p ≤ O.length) :
    slE (O.take a ++ N ++ O.drop a) (led1 (.put a w) (f, p)) = if f < a ∧ a < p then (sl O f p).take (a - f) ++ N ++ (sl O f p).drop (a - f) else sl O f p := by
  have eX : (O.take a).length = a := by simp; omega
  have eO : O = O.take a ++ O.drop a := (List.take_append_drop a O).symm
  generalize hX : O.take a = X at eX eO ⊢
  generalize hZ : O.drop a = Z at eO ⊢
  subst eO
  clear hX hZ
  simp only [led1, slE]
  rw [List.append_assoc, sl_app (by split <;> split <;> omega), sl_app (by split <;> split <;> omega), eX, hN]
  rw [sl_app (X := X) (W := Z) (by omega), eX]
  have hlX : (sl X f p).length = min p a - f := by unfold sl; simp [eX]
  by_cases c1 : a ≤ f
  · have e1 : ¬ (f < a ∧ a < p) := by omega
    rw [if_neg e1, if_pos c1, if_pos (by omega)]
    have z1 : sl X (f + w.length) (p + w.length) = [] := List.eq_nil_of_length_eq_zero (by unfold sl; simp; omega)
    have z2 : sl X f p = [] := List.eq_nil_of_length_eq_zero (by omega)
    have z3 : sl N (f + w.length - a) (p + w.length - a) = [] := List.eq_nil_of_length_eq_zero (by unfold sl; simp; omega)
    rw [z1, z2, z3, List.nil_append, List.nil_append, List.nil_append]
    congr 1 <;> omega
  · rw [if_neg c1]
    by_cases c2 : a < p
    · rw [if_pos c2, if_pos ⟨by omega, c2⟩]
      have z0 : (sl X f p).length = a - f := by omega
      rw [List.take_append, List.drop_append, z0, Nat.sub_self, List.take_of_length_le (by omega), List.drop_of_length_le (by omega), List.take_zero, List.drop_zero, List.append_nil, List.nil_append]
      have z1 : sl X (f + 0) (p + w.length) = sl X f p := sl_ext (fun i a1 a2 => by omega) fun i a1 a2 => by omega
      have z2 : sl N (f + 0 - a) (p + w.length - a) = N := by
        unfold sl
        rw [List.take_of_length_le (by omega)]
        have : f + 0 - a = 0 := by omega
        rw [this, List.drop_zero]
      rw [z1, z2, List.append_assoc]
      congr 2
      congr 1 <;> omega
    · rw [if_neg c2, if_neg (by omega)]
      have z3 : sl N (f + 0 - a) (p + 0 - a) = [] := List.eq_nil_of_length_eq_zero (by unfold sl; simp; omega)
      rw [z3, List.nil_append]
      congr 1
      congr 1 <;> omega
theorem sl_head {O : List Nat} {f p : Nat} (h1 : f < p) (h2 : p ≤ O.length) : (sl O f p)[0]? = O[f]? := by rw [sl_at]; simp [h1]
theorem sl_last {O : List Nat} {f p : Nat} (h1 : f < p) (h2 : p ≤ O.length) : (sl O f p)[(sl O f p).length - 1]? = O[p - 1]? := by
  rw [sl_len h2, sl_at, if_pos (by omega)]
  congr 1; omega
theorem mem_ahead {O : List Nat} (nd : O.Nodup) {a f x : Nat} (hf : O[f]? = some x) : x ∈ O.take a ↔ f < a := by
  obtain ⟨hl, hx⟩ := List.getElem?_eq_some_iff.mp hf
  constructor
  · intro h
    obtain ⟨j, hj, e⟩ := List.mem_iff_getElem.mp h
    rw [List.getElem_take] at e
    have hj' : j < O.length := by simp at hj; omega
    have : j = f := (List.getElem_inj nd (h₀ := hj') (h₁ := hl)).mp (by rw [e, hx])
    simp at hj; omega
  · intro h
    refine List.mem_iff_getElem.mpr ⟨f, by simp; omega, ?_⟩
    rw [List.getElem_take]; exact hx
theorem mem_behind {O : List Nat} (nd : O.Nodup) {a f x : Nat} (hf : O[f]? = some x) : x ∈ O.drop a ↔ a ≤ f := by
  obtain ⟨hl, hx⟩ := List.getElem?_eq_some_iff.mp hf
  constructor
  · intro h
    obtain ⟨j, hj, e⟩ := List.mem_iff_getElem.mp h
    rw [List.getElem_drop] at e
    have hj' : a + j < O.length := by simp at hj; omega
    have : a + j = f := (List.getElem_inj nd (h₀ := hj') (h₁ := hl)).mp (by rw [e, hx])
    omega
  · intro h
    refine List.mem_iff_getElem.mpr ⟨f - a, by simp; omega, ?_⟩
    rw [List.getElem_drop, ← hx]
    congr 1; omega
theorem sl_place {O : List Nat} (nd : O.Nodup) {a f p : Nat} (h1 : f < a) (h2 : a < p) (h3 : p ≤ O.length) : ((sl O f p).filter fun x => decide (x ∈ O.take a)).length = a - f := by
  have eX : (O.take a).length = a := by simp; omega
  have eO : O = O.take a ++ O.drop a := (List.take_append_drop a O).symm
  generalize hX : O.take a = X at eX eO ⊢
  generalize hZ : O.drop a = Z at eO ⊢
  subst eO
  rw [List.nodup_append] at nd
  obtain ⟨_, _, n3⟩ := nd
  rw [sl_app (by omega), List.filter_append]
  have f1 : (sl X f p).filter (fun x => decide (x ∈ X)) = sl X f p := by
    rw [List.filter_eq_self]
    exact fun x hx => decide_eq_true (sl_mem hx)
  have f2 : ∀ f p, (sl Z f p).filter (fun x => decide (x ∈ X)) = [] := fun f p => by
    rw [List.filter_eq_nil_iff]
    exact fun x hx => by
      have : x ∉ X := fun hX => n3 x hX x (sl_mem hx) rfl
      simp [this]
  rw [f1, f2, List.append_nil]
  unfold sl
  simp [eX]; omega
end VI

namespace VI
open PySem L2
def lfF (L : List (Option Mk)) (n : Nat) : List (Int × D) := (ksF L n).map fun k : Nat => ((k : Int), oD (L.getD k none))
theorem lf_keys (L : List (Option Mk)) (n : Nat) : (lfF L n).map (·.1) = (ksF L n).map fun k : Nat => (k : Int) := by
  unfold lfF; rw [List.map_map]; rfl
theorem lf_keysD (L : List (Option Mk)) (n : Nat) : ((lfF L n).map (·.1)).map D.int = nat' (ksF L n) := by
  rw [lf_keys, List.map_map]; rfl
theorem ks_pw (L : List (Option Mk)) (n : Nat) : (ksF L n).Pairwise (· < ·) := List.Pairwise.filter _ List.pairwise_lt_range
theorem lf_srt (L : List (Option Mk)) (n : Nat) : ((lfF L n).map (·.1)).Pairwise (· ≤ ·) := by
  rw [lf_keys, List.pairwise_map]
  exact (ks_pw L n).imp fun h => by omega
theorem ks_nd (L : List (Option Mk)) (n : Nat) : (ksF L n).Nodup := (ks_pw L n).imp fun h => by omega
theorem lf_nd (L : List (Option Mk)) (n : Nat) : ((lfF L n).map (·.1)).Nodup := by
  rw [lf_keys]
  refine List.pairwise_map.mpr ((ks_nd L n).imp fun h => by omega)
theorem lf_pure (L : List (Option Mk)) (n : Nat) : (lfF L n).all (fun p => p.2.pure) = true := by
  rw [List.all_eq_true]
  intro p hp
  obtain ⟨k, _, rfl⟩ := List.mem_map.mp hp
  exact pure_oD _
theorem lf_len (L : List (Option Mk)) (n : Nat) : (lfF L n).length ≤ n := by
  unfold lfF; rw [List.length_map]; exact ksF_len L n
theorem iGet_map {v : Nat → D} {k : Nat} : ∀ {ks : List Nat}, iGet (ks.map fun k : Nat => ((k : Int), v k)) (k : Int) = if k ∈ ks then some (v k) else none
  | [] => rfl
  | j :: ks => by
    have ih := iGet_map (v := v) (k := k) (ks := ks)
    unfold iGet at *
    rw [List.map_cons, List.find?_cons]
    by_cases h : j = k
    · subst h; simp
    · have : ¬ ((j : Int) = (k : Int)) := by omega
      simp only [this, decide_false]
      rw [ih]
      have : (k ∈ j :: ks) = (k ∈ ks) := by simp [Ne.symm h]
      simp only [this]
theorem lf_get {L : List (Option Mk)} {n k : Nat} (hk : k < n) : (iGet (lfF L n) (k : Int)).getD .non = oD (L.getD k none) := by
  unfold lfF
  rw [iGet_map (v := fun k => oD (L.getD k none))]
  by_cases h : k ∈ ksF L n
  · rw [if_pos h]; rfl
  · rw [if_neg h]
    have : (L.getD k none).isSome ≠ true := fun z => h ((ksF_mem hk).mpr z)
    cases ho : L.getD k none with
    | none => rfl
    | some m => rw [ho] at this; simp at this
theorem lf_get' {L : List (Option Mk)} {n k : Nat} (h : k ∈ ksF L n) : iGet (lfF L n) (k : Int) = some (oD (L.getD k none)) := by
  unfold lfF
  rw [iGet_map (v := fun k => oD (L.getD k none)), if_pos h]
/-- the next ones -/
theorem ks_next {L L' : List (Option Mk)} {n : Nat} (h : ∀ k, k < n → (L'.getD k none).isSome = true → (L.getD k none).isSome = true) : (ksF L n).filter (fun k => (L'.getD k none).isSome) = ksF L' n := by
  unfold ksF
  rw [List.filter_filter]
  refine List.filter_congr fun k hk => ?_
  have := h k (List.mem_range.mp hk)
  cases h1 : (L'.getD k none).isSome <;> cases h2 : (L.getD k none).isSome <;> simp_all
theorem getD_bind (L : List (Option Mk)) (f : Mk → Option Mk) (k : Nat) : (L.map fun o => o.bind f).getD k none = (L.getD k none).bind f := by
  rw [List.getD_eq_getElem?_getD, List.getD_eq_getElem?_getD, List.getElem?_map]
  cases L[k]? <;> rfl
theorem overM_snoc (es : List Ed) (e : Ed) (ms : List Mk) : ms.map (overM (es ++ [e])) = (ms.map (overM es)).map fun o => o.bind (overM [e]) := by
  rw [List.map_map]
  refine List.map_congr_left fun m _ => ?_
  exact overM_app es [e] m
theorem pure_lf (ks : List Nat) (v : Nat → Option Mk) : pureL (ks.map fun k : Nat => iPr ((k : Int), oD (v k))) = true := by
  induction ks with
  | nil => rfl
  | cons k ks ih =>
    show ((iPr ((k : Int), oD (v k))).pure && _) = true
    have : (iPr ((k : Int), oD (v k))).pure = true := by simp [iPr, D.pure, pureL, pure_oD]
    rw [this, ih]; rfl
end VI

namespace VI
open PySem L2
theorem nat_map (l : List Nat) : nat' l = l.map fun k : Nat => D.int (k : Int) := rfl
theorem nat_app (a b : List Nat) : nat' a ++ nat' b = nat' (a ++ b) := (List.map_append).symm
theorem nat_cons (a : Nat) (b : List Nat) : nat' (a :: b) = .int (a : Int) :: nat' b := rfl
theorem nat_nil : nat' [] = [] := rfl
theorem ON_to {m : Bool} {l : List Nat} {k : Nat} {Qd : D → Prop} (q : Qd (.lst true (nat' (l.take k)))) : WO (opD (.sl false true) [.lst m (nat' l), .int (k : Int)]) Qd :=
  O_slToL (pure_nats l) (by rw [nat_map, ← List.map_take]; exact q)
theorem ON_from {m : Bool} {l : List Nat} {k : Nat} {Qd : D → Prop} (q : Qd (.lst true (nat' (l.drop k)))) : WO (opD (.sl true false) [.lst m (nat' l), .int (k : Int)]) Qd :=
  O_slFromL (pure_nats l) (by rw [nat_map, ← List.map_drop]; exact q)
theorem ON_from2 {m : Bool} {l : List Nat} {a k : Nat} {Qd : D → Prop} (q : Qd (.lst true (nat' (l.drop (a + k))))) : WO (opD (.sl true false) [.lst m (nat' l), .int ((a : Int) + (k : Int))]) Qd := by
  rw [show ((a : Int) + (k : Int)) = ((a + k : Nat) : Int) by omega]
  exact ON_from q
theorem ON_mid2 {m : Bool} {l : List Nat} {a k : Nat} {Qd : D → Prop} (h : a + k ≤ l.length) (q : Qd (.lst true (nat' (sl l a (a + k))))) : WO (opD (.sl true true) [.lst m (nat' l), .int (a : Int), .int ((a : Int) + (k : Int))]) Qd := by
  rw [show ((a : Int) + (k : Int)) = ((a + k : Nat) : Int) by omega]
  refine ⟨_, ?_, q⟩
  simp only [opD, slO, pure_nats, if_true, cutD, sIx_nat']
  rw [nat_len]
  have e1 : min a l.length = a := by omega
  have e2 : min (a + k) l.length = a + k := by omega
  rw [e1, e2]
  unfold sl
  simp [nat_map, List.map_drop, List.map_take, List.drop_take]
theorem ON_add {m m' : Bool} {a b : List Nat} {Qd : D → Prop} (h : a.length + b.length ≤ 10000) (q : Qd (.lst true (nat' (a ++ b)))) : WO (opD (.bin .Add) [.lst m (nat' a), .lst m' (nat' b)]) Qd :=
  O_addL (pure_nats a) (pure_nats b) (by rw [nat_len, nat_len]; simp [lim]; omega) (by rw [nat_app]; exact q)
theorem ON_in {u : Nat} {m : Bool} {ks : List Nat} {Qd : D → Prop} (q : Qd (.bl (decide (u ∈ ks)))) : WO (opD (.cmp .In) [.int (u : Int), .lst m (nat' ks)]) Qd := by
  refine ⟨_, ?_, q⟩
  have ok : (nat' ks).all (okD deep) = true := by
    rw [List.all_eq_true]; intro x hx
    obtain ⟨k, _, rfl⟩ := List.mem_map.mp hx
    rfl
  simp only [opD, cmpO, cmpB, memO, ok, Bool.and_true]
  rw [if_pos (show okD deep (.int (u : Int)) = true from rfl), inO_nat]
  rfl
theorem ON_eqE {m m' : Bool} {l : List Nat} {Qd : D → Prop} (q : Qd (.bl (decide (l = [])))) : WO (opD (.cmp .Eq) [.lst m (nat' l), .lst m' []]) Qd := by
  refine ⟨_, ?_, q⟩
  simp only [opD, cmpO, cmpB, eqO, okD_nat, Bool.true_and]
  rw [if_pos (show okD deep (.lst m' []) = true from rfl)]
  cases l <;> rfl
theorem ON_neE {m m' : Bool} {l : List Nat} {Qd : D → Prop} (q : Qd (.bl (!decide (l = [])))) : WO (opD (.cmp .NotEq) [.lst m (nat' l), .lst m' []]) Qd := by
  refine ⟨_, ?_, q⟩
  simp only [opD, cmpO, cmpB, eqO, okD_nat, Bool.true_and]
  rw [if_pos (show okD deep (.lst m' []) = true from rfl)]
  cases l <;> rfl
theorem nat_first {l : List Nat} {x : Nat} (h : l[0]? = some x) : atI (nat' l) 0 = some (.int (x : Int)) := by
  have hl : 0 < l.length := (List.getElem?_eq_some_iff.mp h).1
  have := nats_at hl
  rw [List.getElem?_eq_getElem hl] at h
  cases h
  exact this
theorem nat_last {l : List Nat} {x : Nat} (h : l[l.length - 1]? = some x) : atI (nat' l) (-1) = some (.int (x : Int)) := by
  refine at_last ?_
  rw [nat_len, nat_map, List.getElem?_map, h]; rfl
theorem mo_insN {l : List Nat} {p x : Nat} (hl : l.length < 10000) (hp : p < 10000) : moD .insert (.lst true (nat' l)) [.int (p : Int), .int (x : Int)] = some (.lst true (nat' (l.take p ++ [x] ++ l.drop p)), .non) := by
  show (if _ then _ else _) = _
  rw [if_pos ⟨by rw [nat_len]; simp [lim]; omega, by omega, by omega, pure_nats l, rfl⟩]
  simp [nat_map, List.map_append, List.map_take, List.map_drop]
theorem rg_nat {k : Nat} : rngO 0 (k : Int) = nat' (List.range k) := by
  unfold rngO nat'
  rw [show ((k : Int) - 0).toNat = k by omega]
  refine List.map_congr_left fun j _ => ?_
  simp
theorem rg_off {a k : Nat} : rngO (a : Int) ((a : Int) + (k : Int)) = nat' ((List.range k).map (a + ·)) := by
  unfold rngO nat'
  rw [show ((a : Int) + (k : Int) - (a : Int)).toNat = k by omega, List.map_map]
  refine List.map_congr_left fun j _ => ?_
  simp
theorem rg_sl {f p n : Nat} (h : f ≤ p) (h2 : p ≤ n) : rngO (f : Int) (p : Int) = nat' (sl (List.range n) f p) := by
  unfold rngO nat'
  refine List.ext_getElem? fun i => ?_
  rw [List.getElem?_map, List.getElem?_map, sl_at]
  rw [show ((p : Int) - (f : Int)).toNat = p - f by omega]
  by_cases hi : f + i < p
  · rw [if_pos hi, List.getElem?_range (by omega), List.getElem?_range (by omega)]
    simp
  · rw [if_neg hi, List.getElem?_eq_none (by simp; omega)]; rfl
theorem gLrng {ds : List D} {Qd : D → Prop} (h : WO (opD .lrng ds) Qd) : WO (opD .lrng ds) Qd := h
theorem O_lrngN {x y : Int} {l : List Nat} {Qd : D → Prop} (h : rngO x y = nat' l) (h1 : -100000 ≤ x ∧ x ≤ 100000) (h2 : -100000 ≤ y ∧ y ≤ 100000) (hl : l.length ≤ 10000) (q : Qd (.lst true (nat' l))) : WO (opD .lrng [.int x, .int y]) Qd := by
  refine ⟨_, ?_, q⟩
  have i1 : in62 x = true := by unfold in62; simp; omega
  have i2 : in62 y = true := by unfold in62; simp; omega
  simp only [opD, rngs, i1, i2, Bool.and_self, if_true, Option.bind_some, h]
  rw [if_pos (by rw [nat_len]; simp [lim]; omega)]
theorem O_lrngN1 {y : Int} {l : List Nat} {Qd : D → Prop} (h : rngO 0 y = nat' l) (h2 : -100000 ≤ y ∧ y ≤ 100000) (hl : l.length ≤ 10000) (q : Qd (.lst true (nat' l))) : WO (opD .lrng [.int y]) Qd := by
  refine ⟨_, ?_, q⟩
  have i2 : in62 y = true := by unfold in62; simp; omega
  simp only [opD, rngs, i2, if_true, Option.bind_some, h]
  rw [if_pos (by rw [nat_len]; simp [lim]; omega)]
theorem ON_rev {m : Bool} {l : List Nat} {Qd : D → Prop} (q : Qd (.lst true (nat' l.reverse))) : WO (opD .rev [.lst m (nat' l)]) Qd := by
  refine ⟨_, ?_, q⟩
  simp only [opD, pure_nats, if_true]
  simp [nat_map]
theorem idx_sl {O : List Nat} (nd : O.Nodup) {f x : Nat} (h : O[f]? = some x) (m : Bool) : idxO (.lst m (nat' O)) [.int (x : Int)] = some (.int (f : Int)) := by
  obtain ⟨j, h1, h2⟩ := idx_nat m (List.mem_of_getElem? h)
  obtain ⟨a1, a2⟩ := List.getElem?_eq_some_iff.mp h
  obtain ⟨b1, b2⟩ := List.getElem?_eq_some_iff.mp h2
  have : j = f := (List.getElem_inj nd (h₀ := b1) (h₁ := a1)).mp (by rw [b2, a2])
  rw [h1, this]
end VI

namespace VI
open PySem L2
theorem nd_add (n k : Nat) : ((List.range k).map (n + ·)).Nodup := by
  refine List.pairwise_map.mpr (List.nodup_range.imp fun h => by omega)
theorem pure_st (S : Mk → List Nat) : ∀ ms : List Mk, pureL (ms.map fun m => .lst false (nat' (S m))) = true
  | [] => rfl
  | m :: ms => by
    show ((D.lst false (nat' (S m))).pure && _) = true
    rw [pure_st S ms]
    simp [D.pure, pure_nats]
theorem can_st (S : Mk → List Nat) : ∀ ms : List Mk, canL (ms.map fun m => .lst true (nat' (S m))) = true
  | [] => rfl
  | m :: ms => by
    show ((D.lst true (nat' (S m))).can && _) = true
    rw [can_st S ms]
    have : (D.lst true (nat' (S m))).can = true := by simp only [D.can]; exact pureL_can (pure_nats _)
    rw [this]; rfl
theorem frz_st (S : Mk → List Nat) : ∀ ms : List Mk, frzL (ms.map fun m => .lst true (nat' (S m))) = ms.map fun m => .lst false (nat' (S m))
  | [] => rfl
  | m :: ms => by
    show (D.lst true (nat' (S m))).frz :: frzL _ = _
    rw [frz_st S ms]
    simp only [D.frz, frzL_of_pure (pure_nats _), List.map_cons]
theorem ins_step {S N : List Nat} {p l u : Nat} (hp : p ≤ S.length) (hl : l < N.length) (hu : N.reverse[l]? = some u) :
    (S.take p ++ N.drop (N.length - l) ++ S.drop p).take p ++ [u] ++ (S.take p ++ N.drop (N.length - l) ++ S.drop p).drop p = S.take p ++ N.drop (N.length - (l + 1)) ++ S.drop p := by
  have h1 : (S.take p).length = p := by simp; omega
  have e1 : (S.take p ++ N.drop (N.length - l) ++ S.drop p).take p = S.take p := by
    rw [List.append_assoc]; exact List.take_left' h1
  have e2 : (S.take p ++ N.drop (N.length - l) ++ S.drop p).drop p = N.drop (N.length - l) ++ S.drop p := by
    rw [List.append_assoc]; exact List.drop_left' h1
  rw [e1, e2]
  have hk : N.length - (l + 1) < N.length := by omega
  have e3 : N.drop (N.length - (l + 1)) = u :: N.drop (N.length - l) := by
    rw [List.drop_eq_getElem_cons hk]
    rw [List.getElem?_reverse hl, List.getElem?_eq_getElem (by omega)] at hu
    have : N[N.length - (l + 1)] = u := by
      have e : N.length - 1 - l = N.length - (l + 1) := by omega
      simp only [e, Option.some.injEq] at hu
      exact hu
    rw [this]
    have : N.length - (l + 1) + 1 = N.length - l := by omega
    rw [this]
  rw [e3]
  simp
theorem put_perm (O N : List Nat) (a : Nat) : (O.take a ++ N ++ O.drop a).Perm (N ++ O) := by
  have := (List.perm_append_comm (l₁ := O.take a) (l₂ := N)).append_right (O.drop a)
  rwa [List.append_assoc N, List.take_append_drop] at this
end VI

namespace VI
open PySem L2
theorem nodup_sub : ∀ {l m : List Nat}, l.Nodup → (∀ x ∈ l, x ∈ m) → l.length ≤ m.length
  | [], _, _, _ => by simp
  | x :: l, m, hn, h => by
    rw [List.nodup_cons] at hn
    have hx := h x List.mem_cons_self
    have : l.length ≤ (m.erase x).length := nodup_sub hn.2 fun y hy => by
      have ne : y ≠ x := fun e => hn.1 (e ▸ hy)
      exact (List.mem_erase_of_ne ne).mpr (h y (List.mem_cons_of_mem _ hy))
    rw [List.length_erase_of_mem hx] at this
    have := List.length_pos_of_mem hx
    simp only [List.length_cons]; omega
section
variable (F P : Nat → Nat)
/-- the first free row -/
def freeR (E : List Nat) (f : Nat) : Nat := E.findIdx fun e => decide (e ≤ f)
def putR (E : List Nat) (r p : Nat) : List Nat := if r < E.length then E.set r p else E ++ [p]
/-- rows' ends, and the row of each -/
def rst (l : List Nat) : List Nat × List (Nat × Nat) := l.foldl (fun s i => (putR s.1 (freeR s.1 (F i)) (P i), s.2 ++ [(i, freeR s.1 (F i))])) ([], [])
abbrev rE (l : List Nat) : List Nat := (rst F P l).1
abbrev rR (l : List Nat) : List (Nat × Nat) := (rst F P l).2
theorem rst_snoc (l : List Nat) (i : Nat) : rst F P (l ++ [i]) = (putR (rE F P l) (freeR (rE F P l) (F i)) (P i), rR F P l ++ [(i, freeR (rE F P l) (F i))]) := by
  unfold rst; rw [List.foldl_append]; rfl
theorem rst_keys (l : List Nat) : (rR F P l).map (·.1) = l := by
  have : ∀ (l : List Nat) s, ((l.foldl (fun (s : List Nat × List (Nat × Nat)) i => (putR s.1 (freeR s.1 (F i)) (P i), s.2 ++ [(i, freeR s.1 (F i))])) s).2).map (·.1) = s.2.map (·.1) ++ l := by
    intro l
    induction l with
    | nil => intro s; simp
    | cons i l ih => intro s; rw [List.foldl_cons, ih]; simp
  exact (this l ([], [])).trans (by simp)
theorem mem_keys {l : List Nat} {i r : Nat} (h : (i, r) ∈ rR F P l) : i ∈ l := by
  have := List.mem_map_of_mem (f := (·.1)) h
  rwa [rst_keys] at this
theorem freeR_le (E : List Nat) (f : Nat) : freeR E f ≤ E.length := List.findIdx_le_length
theorem freeR_lt {E : List Nat} {f : Nat} {e : Nat} (h : E[freeR E f]? = some e) : e ≤ f := by
  obtain ⟨hl, he⟩ := List.getElem?_eq_some_iff.mp h
  have := List.findIdx_getElem (xs := E) (p := fun e => decide (e ≤ f)) (w := hl)
  simp only [decide_eq_true_eq] at this
  have e2 : E[freeR E f] = e := he
  unfold freeR at e2
  omega
theorem freeR_gt {E : List Nat} {f r : Nat} {e : Nat} (h : r < freeR E f) (he : E[r]? = some e) : f < e := by
  obtain ⟨hl, he⟩ := List.getElem?_eq_some_iff.mp he
  have := List.not_of_lt_findIdx (xs := E) (p := fun e => decide (e ≤ f)) h
  simp only [decide_eq_false_iff_not, Bool.not_eq_true] at this
  omega
structure RI (l : List Nat) : Prop where
  top : ∀ r, r < (rE F P l).length → ∃ i, (i, r) ∈ rR F P l ∧ (rE F P l)[r]? = some (P i)
  le : ∀ i r, (i, r) ∈ rR F P l → ∃ e, (rE F P l)[r]? = some e ∧ P i ≤ e
  dj : ∀ i j r, (i, r) ∈ rR F P l → (j, r) ∈ rR F P l → i ≠ j → P i ≤ F j ∨ P j ≤ F i
  deep : ∃ a, ∀ r, r < (rE F P l).length → ∃ i, (i, r) ∈ rR F P l ∧ F i ≤ a ∧ a < P i
theorem RI.nil : RI F P [] := ⟨fun r h => absurd h (Nat.not_lt_zero r), fun i r h => absurd (show (i, r) ∈ ([] : List (Nat × Nat)) from h) List.not_mem_nil, fun i j r h => absurd (show (i, r) ∈ ([] : List (Nat × Nat)) from h) List.not_mem_nil, 0, fun r h => absurd h (Nat.not_lt_zero r)⟩
variable {F P}
theorem RI.snoc {l : List Nat} {i : Nat} (h : RI F P l) (hF : ∀ j ∈ l, F j ≤ F i) (hP : F i < P i) (hn : i ∉ l) : RI F P (l ++ [i]) := by
  have e := rst_snoc F P l i
  have eR : rR F P (l ++ [i]) = rR F P l ++ [(i, freeR (rE F P l) (F i))] := by show (rst F P (l ++ [i])).2 = _; rw [e]
  have eE : rE F P (l ++ [i]) = putR (rE F P l) (freeR (rE F P l) (F i)) (P i) := by show (rst F P (l ++ [i])).1 = _; rw [e]
  have old : ∀ {j r}, (j, r) ∈ rR F P l → (j, r) ∈ rR F P (l ++ [i]) := fun hj => by rw [eR]; exact List.mem_append_left _ hj
  have new : (i, freeR (rE F P l) (F i)) ∈ rR F P (l ++ [i]) := by rw [eR]; simp
  have cs : ∀ {j r}, (j, r) ∈ rR F P (l ++ [i]) → (j, r) ∈ rR F P l ∨ j = i ∧ r = freeR (rE F P l) (F i) := fun {j r} hj => by
    rw [eR] at hj
    rcases List.mem_append.mp hj with q | q
    · exact .inl q
    · simp at q; exact .inr q
  have fle := freeR_le (rE F P l) (F i)
  by_cases hr : freeR (rE F P l) (F i) < (rE F P l).length
  · have eS : rE F P (l ++ [i]) = (rE F P l).set (freeR (rE F P l) (F i)) (P i) := by rw [eE]; unfold putR; rw [if_pos hr]
    have at0 : (rE F P (l ++ [i]))[freeR (rE F P l) (F i)]? = some (P i) := by rw [eS, List.getElem?_set_self hr]
    have atn : ∀ r, r ≠ freeR (rE F P l) (F i) → (rE F P (l ++ [i]))[r]? = (rE F P l)[r]? := fun r n => by rw [eS, List.getElem?_set_ne (Ne.symm n)]
    have low : ∀ j, (j, freeR (rE F P l) (F i)) ∈ rR F P l → P j ≤ F i := fun j hj => by
      obtain ⟨e, he, hle⟩ := h.le _ _ hj
      have := freeR_lt he
      omega
    have len : (rE F P (l ++ [i])).length = (rE F P l).length := by rw [eS, List.length_set]
    refine ⟨fun r hlt => ?_, fun j r hj => ?_, fun j k r hj hk hne => ?_, ?_⟩
    · by_cases hq : r = freeR (rE F P l) (F i)
      · subst hq; exact ⟨i, new, at0⟩
      · obtain ⟨j, h1, h2⟩ := h.top r (by omega)
        exact ⟨j, old h1, (atn r hq).trans h2⟩
    · rcases cs hj with q | ⟨rfl, rfl⟩
      · by_cases hq : r = freeR (rE F P l) (F i)
        · subst hq; exact ⟨_, at0, by have := low j q; omega⟩
        · obtain ⟨e, h1, h2⟩ := h.le _ _ q
          exact ⟨e, (atn r hq).trans h1, h2⟩
      · exact ⟨_, at0, Nat.le_refl _⟩
    · rcases cs hj with q | ⟨rfl, rfl⟩ <;> rcases cs hk with q' | ⟨rfl, e'⟩
      · exact h.dj j k r q q' hne
      · subst e'; exact .inl (low j q)
      · exact .inr (low k q')
      · exact absurd rfl hne
    · obtain ⟨a, ha⟩ := h.deep
      refine ⟨a, fun r hlt => ?_⟩
      obtain ⟨j, h1, h2⟩ := ha r (by omega)
      exact ⟨j, old h1, h2⟩
  · have ef : freeR (rE F P l) (F i) = (rE F P l).length := by omega
    have eS : rE F P (l ++ [i]) = rE F P l ++ [P i] := by rw [eE]; unfold putR; rw [if_neg hr]
    have len : (rE F P (l ++ [i])).length = (rE F P l).length + 1 := by rw [eS]; simp
    have atn : ∀ r, r < (rE F P l).length → (rE F P (l ++ [i]))[r]? = (rE F P l)[r]? := fun r n => by rw [eS, List.getElem?_append_left n]
    have at0 : (rE F P (l ++ [i]))[(rE F P l).length]? = some (P i) := by rw [eS]; simp
    rw [ef] at new
    refine ⟨fun r hlt => ?_, fun j r hj => ?_, fun j k r hj hk hne => ?_, F i, fun r hlt => ?_⟩
    · by_cases hq : r < (rE F P l).length
      · obtain ⟨j, h1, h2⟩ := h.top r hq
        exact ⟨j, old h1, (atn r hq).trans h2⟩
      · have : r = (rE F P l).length := by omega
        subst this; exact ⟨i, new, at0⟩
    · rcases cs hj with q | ⟨rfl, rfl⟩
      · obtain ⟨e, h1, h2⟩ := h.le _ _ q
        exact ⟨e, (atn r (List.getElem?_eq_some_iff.mp h1).1).trans h1, h2⟩
      · rw [ef]; exact ⟨_, at0, Nat.le_refl _⟩
    · have out : ∀ j, (j, freeR (rE F P l) (F i)) ∉ rR F P l := fun j q => by
        obtain ⟨e, h1, _⟩ := h.le _ _ q
        have := (List.getElem?_eq_some_iff.mp h1).1
        omega
      rcases cs hj with q | ⟨rfl, rfl⟩ <;> rcases cs hk with q' | ⟨rfl, e'⟩
      · exact h.dj j k r q q' hne
      · subst e'; exact absurd q (out j)
      · exact absurd q' (out k)
      · exact absurd rfl hne
    · by_cases hq : r < (rE F P l).length
      · obtain ⟨j, h1, h2⟩ := h.top r hq
        have := freeR_gt (f := F i) (by omega) h2
        exact ⟨j, old h1, hF j (mem_keys F P h1), this⟩
      · have : r = (rE F P l).length := by omega
        subst this; exact ⟨i, new, Nat.le_refl _, hP⟩
theorem RI.all : ∀ {l : List Nat}, l.Pairwise (fun i j => F i ≤ F j) → l.Nodup → (∀ i ∈ l, F i < P i) → ∀ k, RI F P (l.take k) := by
  intro l hp hn hP k
  induction k with
  | zero => rw [List.take_zero]; exact RI.nil F P
  | succ k ih =>
    by_cases hk : k < l.length
    · rw [List.take_succ_eq_append_getElem hk]
      have sub : ∀ j ∈ l.take k, F j ≤ F l[k] ∧ j ≠ l[k] := fun j hj => by
        obtain ⟨m, hm, rfl⟩ := List.mem_take_iff_getElem.mp hj
        have hmk : m < k := by omega
        exact ⟨List.pairwise_iff_getElem.mp hp m k (by omega) hk hmk, fun e => by have := (List.getElem_inj hn).mp e; omega⟩
      exact ih.snoc (fun j hj => (sub j hj).1) (hP _ (List.getElem_mem hk)) fun z => (sub _ z).2 rfl
    · rw [List.take_of_length_le (by omega)]
      rw [List.take_of_length_le (by omega)] at ih
      exact ih
/-- a row is taken at a stretch -/
theorem RI.busy {l : List Nat} {i : Nat} (h : RI F P l) (hF : ∀ j ∈ l, F j ≤ F i) (hP : F i < P i) (r : Nat) : (∃ j, (j, r) ∈ rR F P l ∧ F j < P i ∧ F i < P j) ↔ ∃ e, (rE F P l)[r]? = some e ∧ F i < e := by
  constructor
  · rintro ⟨j, h1, h2, h3⟩
    obtain ⟨e, he, hle⟩ := h.le _ _ h1
    exact ⟨e, he, by omega⟩
  · rintro ⟨e, he, hlt⟩
    obtain ⟨j, h1, h2⟩ := h.top r (List.getElem?_eq_some_iff.mp he).1
    rw [he] at h2; cases h2
    exact ⟨j, h1, by have := hF j (mem_keys F P h1); omega, hlt⟩
/-! ### the row of each -/
def rowAt (R : List (Nat × Nat)) (i : Nat) : Nat := ((R.find? fun q => q.1 == i).map (·.2)).getD 0
theorem rowAt_mem {R : List (Nat × Nat)} (hn : (R.map (·.1)).Nodup) {i r : Nat} (h : (i, r) ∈ R) : rowAt R i = r := by
  unfold rowAt
  induction R with
  | nil => simp at h
  | cons q R ih =>
    rw [List.map_cons, List.nodup_cons] at hn
    rw [List.find?_cons]
    rcases List.mem_cons.mp h with rfl | h
    · simp
    · have : q.1 ≠ i := fun e => hn.1 (by rw [e]; exact List.mem_map_of_mem (f := (·.1)) h)
      have : (q.1 == i) = false := by simpa using this
      rw [this]
      exact ih hn.2 h
theorem rowAt_snoc {R : List (Nat × Nat)} {i r : Nat} (h : i ∉ R.map (·.1)) (j : Nat) : rowAt (R ++ [(i, r)]) j = if j = i then r else rowAt R j := by
  unfold rowAt
  rw [List.find?_append]
  by_cases e : j = i
  · subst e
    rw [if_pos rfl]
    have : R.find? (fun q => q.1 == j) = none := by
      rw [List.find?_eq_none]
      intro q hq z
      exact h (by rw [← beq_iff_eq.mp z]; exact List.mem_map_of_mem (f := (·.1)) hq)
    rw [this]; simp
  · rw [if_neg e]
    have : ((i, r) :: ([] : List (Nat × Nat))).find? (fun q => q.1 == j) = none := by
      rw [List.find?_eq_none]
      intro q hq z
      simp at hq
      subst hq
      exact e (beq_iff_eq.mp z).symm
    rw [this, Option.or_none]
theorem due_snoc {R : List (Nat × Nat)} {i r n : Nat} (h : i ∉ R.map (·.1)) (hi : i < n) : ((List.range n).map (rowAt R)).set i r = (List.range n).map (rowAt (R ++ [(i, r)])) := by
  refine List.ext_getElem? fun k => ?_
  by_cases hk : k < n
  · rw [List.getElem?_map, List.getElem?_range hk]
    show _ = some (rowAt (R ++ [(i, r)]) k)
    rw [rowAt_snoc h]
    by_cases e : k = i
    · subst e; rw [if_pos rfl, List.getElem?_set_self (by simp [hk])]
    · rw [if_neg e, List.getElem?_set_ne (Ne.symm e), List.getElem?_map, List.getElem?_range hk]; rfl
  · rw [List.getElem?_eq_none (by simp; omega), List.getElem?_eq_none (by simp; omega)]
/-- what stretches cover a sign -/
def covL (F P : Nat → Nat) (n a : Nat) : List Nat := (List.range n).filter fun i => decide (F i ≤ a ∧ a < P i)
variable {n : Nat} {l : List Nat}
theorem RI.row {i : Nat} (h : RI F P l) (hl : l.Perm (List.range n)) (hi : i < n) : (i, rowAt (rR F P l) i) ∈ rR F P l := by
  have nd : ((rR F P l).map (·.1)).Nodup := by rw [rst_keys]; exact hl.nodup_iff.mpr List.nodup_range
  have : i ∈ (rR F P l).map (·.1) := by rw [rst_keys]; exact hl.mem_iff.mpr (List.mem_range.mpr hi)
  obtain ⟨q, hq, rfl⟩ := List.mem_map.mp this
  rw [rowAt_mem nd (r := q.2) hq]; exact hq
theorem RI.row_lt {i : Nat} (h : RI F P l) (hl : l.Perm (List.range n)) (hi : i < n) : rowAt (rR F P l) i < (rE F P l).length := by
  obtain ⟨e, he, _⟩ := h.le _ _ (h.row hl hi)
  exact (List.getElem?_eq_some_iff.mp he).1
theorem nodup_map_on {f : Nat → Nat} {l : List Nat} (hn : l.Nodup) (h : ∀ x ∈ l, ∀ y ∈ l, f x = f y → x = y) : (l.map f).Nodup :=
  List.pairwise_map.mpr (List.Pairwise.imp_of_mem (fun {a b} ha hb ne e => ne (h a ha b hb e)) hn)
theorem covL_mem {a i : Nat} : i ∈ covL F P n a ↔ i < n ∧ F i ≤ a ∧ a < P i := by
  unfold covL
  rw [List.mem_filter, List.mem_range, decide_eq_true_eq]
theorem RI.cov_le (h : RI F P l) (hl : l.Perm (List.range n)) (a : Nat) : (covL F P n a).length ≤ (rE F P l).length := by
  have sub : ((covL F P n a).map (rowAt (rR F P l))).length ≤ (List.range (rE F P l).length).length := by
    refine nodup_sub (nodup_map_on (List.nodup_range.filter _) fun x hx y hy e => ?_) fun x hx => ?_
    · obtain ⟨x1, x2, x3⟩ := covL_mem.mp hx
      obtain ⟨y1, y2, y3⟩ := covL_mem.mp hy
      by_cases ne : x = y
      · exact ne
      · have hx2 := h.row hl x1
        have hy2 := h.row hl y1
        rw [← e] at hy2
        rcases h.dj _ _ _ hx2 hy2 ne with z | z <;> omega
    · obtain ⟨i, hi, rfl⟩ := List.mem_map.mp hx
      rw [List.mem_range]
      exact h.row_lt hl (covL_mem.mp hi).1
  simpa using sub
theorem RI.cov_ge (h : RI F P l) (hl : l.Perm (List.range n)) : ∃ a, (rE F P l).length ≤ (covL F P n a).length ∧ ((rE F P l).length = 0 ∨ ∃ i, i < n ∧ a < P i) := by
  obtain ⟨a, ha⟩ := h.deep
  have nd : ((rR F P l).map (·.1)).Nodup := by rw [rst_keys]; exact hl.nodup_iff.mpr List.nodup_range
  have ln : ∀ {i r}, (i, r) ∈ rR F P l → i < n := fun hi => List.mem_range.mp (hl.mem_iff.mp (mem_keys F P hi))
  refine ⟨a, ?_, ?_⟩
  · have sub : (List.range (rE F P l).length).length ≤ ((covL F P n a).map (rowAt (rR F P l))).length := nodup_sub List.nodup_range fun r hr => by
      obtain ⟨i, h1, h2, h3⟩ := ha r (List.mem_range.mp hr)
      exact List.mem_map.mpr ⟨i, covL_mem.mpr ⟨ln h1, h2, h3⟩, rowAt_mem nd h1⟩
    simpa using sub
  · by_cases hz : (rE F P l).length = 0
    · exact .inl hz
    · obtain ⟨i, h1, _, h3⟩ := ha 0 (by omega)
      exact .inr ⟨i, ln h1, h3⟩
theorem RI.none (h : RI F P l) (hl : l.Perm (List.range n)) : (rE F P l).length = 0 ↔ n = 0 := by
  constructor
  · intro hz
    by_cases hn : n = 0
    · exact hn
    · have := h.row_lt hl (i := 0) (by omega)
      omega
  · intro hn
    subst hn
    have : l = [] := by simpa using hl
    subst this; rfl
/-- the last row is in use -/
theorem RI.used (h : RI F P l) (hl : l.Perm (List.range n)) (hn : 0 < n) : ∃ i, i < n ∧ rowAt (rR F P l) i + 1 = (rE F P l).length := by
  have nd : ((rR F P l).map (·.1)).Nodup := by rw [rst_keys]; exact hl.nodup_iff.mpr List.nodup_range
  have hz : (rE F P l).length ≠ 0 := fun z => by have := (h.none hl).mp z; omega
  obtain ⟨i, h1, _⟩ := h.top ((rE F P l).length - 1) (by omega)
  exact ⟨i, List.mem_range.mp (hl.mem_iff.mp (mem_keys F P h1)), by rw [rowAt_mem nd h1]; omega⟩
end
/-! ### the first place -/
theorem idxI_range (c : Nat → Nat) (x : Nat) : ∀ (L s : Nat), idxI (x : Int) ((List.range' s L).map fun a => ((c a : Nat) : Int)) = ((List.range' s L).find? fun a => decide (c a = x)).map (· - s)
  | 0, s => rfl
  | L + 1, s => by
    rw [List.range'_succ, List.map_cons, List.find?_cons]
    simp only [idxI]
    by_cases e : c s = x
    · rw [if_pos (by rw [e]), decide_eq_true e]; simp
    · rw [if_neg (by omega), decide_eq_false e, idxI_range c x L (s + 1)]
      cases h : (List.range' (s + 1) L).find? (fun a => decide (c a = x)) with
      | none => rfl
      | some a =>
        have := List.mem_of_find?_eq_some h
        have := (List.mem_range'_1.mp this).1
        simp; omega
/-- marks by their numbers -/
theorem cov_marks (ms : List Mk) (a : Nat) : (ms.filter fun m => decide (m.first ≤ a ∧ a < m.past)).length = (covL (spF ms) (spP ms) ms.length a).length := by
  have e : ms = (List.range ms.length).map fun i => (ms[i]?.getD ⟨[], [], 0, 0, []⟩) := by
    refine List.ext_getElem? fun k => ?_
    by_cases hk : k < ms.length
    · rw [List.getElem?_map, List.getElem?_range hk, List.getElem?_eq_getElem hk]; simp [List.getElem?_eq_getElem hk]
    · rw [List.getElem?_eq_none (by omega), List.getElem?_eq_none (by simp; omega)]
  have : (ms.filter fun m => decide (m.first ≤ a ∧ a < m.past)) = ((List.range ms.length).map fun i => (ms[i]?.getD ⟨[], [], 0, 0, []⟩)).filter fun m => decide (m.first ≤ a ∧ a < m.past) := by rw [← e]
  rw [this, List.filter_map, List.length_map]
  unfold covL
  congr 1
  refine List.filter_congr fun i hi => ?_
  have hi := List.mem_range.mp hi
  simp only [Function.comp, List.getElem?_eq_getElem hi, Option.getD_some, spF_at hi, spP_at hi]
end VI

namespace VI
open PySem L2
theorem leL3 (a b c d e f : Int) : leL [a, b, c] [d, e, f] = decide (a < d ∨ a = d ∧ (b < e ∨ b = e ∧ c ≤ f)) := by
  unfold leL
  have h : (([d, e, f] : List Int) < [a, b, c]) ↔ d < a ∨ d = a ∧ (e < b ∨ e = b ∧ f < c) := by
    rw [List.cons_lt_cons_iff, List.cons_lt_cons_iff, List.cons_lt_cons_iff]
    simp
  by_cases q : d < a ∨ d = a ∧ (e < b ∨ e = b ∧ f < c)
  · rw [decide_eq_true (h.mpr q), decide_eq_false (by omega)]; rfl
  · rw [decide_eq_false (fun z => q (h.mp z)), decide_eq_true (by omega)]; rfl
def keyG (ms : List Mk) (x : Int) : List Int := [(spF ms x.toNat : Int), (spP ms x.toNat : Int), x]
theorem keyG_ne (ms : List Mk) (x : Int) : keyG ms x ≠ [] := by simp [keyG]
theorem keyG_le (ms : List Mk) (x y : Int) : leL (keyG ms x) (keyG ms y) = decide ((spF ms x.toNat : Int) < (spF ms y.toNat : Int) ∨ (spF ms x.toNat : Int) = (spF ms y.toNat : Int) ∧ ((spP ms x.toNat : Int) < (spP ms y.toNat : Int) ∨ (spP ms x.toNat : Int) = (spP ms y.toNat : Int) ∧ x ≤ y)) := leL3 ..
/-- the marks' numbers, by their stretches -/
def ordF (ms : List Mk) : List Nat := (srtG (keyG ms) (rngI (ms.length : Int))).map Int.toNat
theorem rngI_nat (n : Nat) : rngI (n : Int) = (List.range n).map fun i : Nat => (i : Int) := by unfold rngI; simp
theorem srt_mem {ms : List Mk} {x : Int} (h : x ∈ srtG (keyG ms) (rngI (ms.length : Int))) : ∃ i : Nat, x = i ∧ i < ms.length := by
  obtain ⟨i, e, h⟩ := rngI_mem (List.mem_mergeSort.mp h)
  exact ⟨i, e, by omega⟩
theorem ord_cast (ms : List Mk) : srtG (keyG ms) (rngI (ms.length : Int)) = (ordF ms).map fun i : Nat => (i : Int) := by
  unfold ordF
  rw [List.map_map]
  have : ∀ l : List Int, (∀ x ∈ l, ∃ i : Nat, x = i ∧ i < ms.length) → l = l.map ((fun i : Nat => (i : Int)) ∘ Int.toNat) := by
    intro l
    induction l with
    | nil => intro _; rfl
    | cons x r ih =>
      intro h
      obtain ⟨i, rfl, _⟩ := h x List.mem_cons_self
      rw [List.map_cons, ← ih fun y hy => h y (List.mem_cons_of_mem _ hy)]
      simp
  exact this _ fun x hx => srt_mem hx
theorem ord_nat (ms : List Mk) : (srtG (keyG ms) (rngI (ms.length : Int))).map D.int = nat' (ordF ms) := by
  rw [ord_cast, List.map_map]; rfl
theorem ord_perm (ms : List Mk) : (ordF ms).Perm (List.range ms.length) := by
  have h : (srtG (keyG ms) (rngI (ms.length : Int))).Perm (rngI (ms.length : Int)) := List.mergeSort_perm ..
  have := h.map Int.toNat
  rw [rngI_nat, List.map_map] at this
  have e : (List.range ms.length).map (Int.toNat ∘ fun i : Nat => (i : Int)) = List.range ms.length := by
    rw [show (Int.toNat ∘ fun i : Nat => (i : Int)) = id from by funext i; simp]; exact List.map_id _
  rw [e] at this
  unfold ordF
  rw [rngI_nat]
  exact this
theorem ord_len (ms : List Mk) : (ordF ms).length = ms.length := by rw [(ord_perm ms).length_eq, List.length_range]
theorem ord_lt {ms : List Mk} {i : Nat} (h : i ∈ ordF ms) : i < ms.length := List.mem_range.mp ((ord_perm ms).mem_iff.mp h)
theorem ord_nd (ms : List Mk) : (ordF ms).Nodup := (ord_perm ms).nodup_iff.mpr List.nodup_range
theorem ord_pw (ms : List Mk) : (ordF ms).Pairwise fun i j => spF ms i ≤ spF ms j := by
  have h : (srtG (keyG ms) (rngI (ms.length : Int))).Pairwise fun a b => leL (keyG ms a) (keyG ms b) = true := List.pairwise_mergeSort (fun a b c h1 h2 => by
      rw [keyG_le, decide_eq_true_eq] at *; omega) (fun a b => by
      rw [keyG_le, keyG_le, Bool.or_eq_true, decide_eq_true_eq, decide_eq_true_eq]; omega) _
  unfold ordF
  refine List.pairwise_map.mpr (h.imp fun {a b} q => ?_)
  rw [keyG_le, decide_eq_true_eq] at q
  omega
theorem mk_lt {ms : List Mk} {L : Nat} (ho : ∀ m ∈ ms, m.ok L) {i : Nat} (hi : i < ms.length) : spF ms i < spP ms i ∧ spP ms i ≤ L := by
  have := ho _ (List.getElem_mem hi)
  rw [spF_at hi, spP_at hi]
  exact ⟨this.2.2.2.1, this.2.2.2.2⟩
theorem ord_RI {ms : List Mk} {L : Nat} (ho : ∀ m ∈ ms, m.ok L) (k : Nat) : RI (spF ms) (spP ms) ((ordF ms).take k) :=
  RI.all (ord_pw ms) (ord_nd ms) (fun i hi => (mk_lt ho (ord_lt hi)).1) k
theorem ord_RIa {ms : List Mk} {L : Nat} (ho : ∀ m ∈ ms, m.ok L) : RI (spF ms) (spP ms) (ordF ms) := by
  have := ord_RI ho (ordF ms).length
  rwa [List.take_length] at this
/-- the triples that the law sorts -/
def tri (ms : List Mk) (i : Nat) : D := .tup [.int (spF ms i : Int), .int (spP ms i : Int), .int (i : Int)]
theorem tri_key (ms : List Mk) (i : Nat) : tri ms i = .tup ((keyG ms (i : Int)).map .int) := rfl
theorem tri_srt (ms : List Mk) : (srtT ((List.range ms.length).map fun i : Nat => keyG ms (i : Int))).map (fun k => D.tup (k.map .int)) = (ordF ms).map (tri ms) := by
  have e1 : (List.range ms.length).map (fun i : Nat => keyG ms (i : Int)) = (rngI (ms.length : Int)).map (keyG ms) := by rw [rngI_nat, List.map_map]; rfl
  rw [e1]
  unfold srtT
  rw [← List.map_mergeSort (r := fun a b => leL (keyG ms a) (keyG ms b)) (fun a _ b _ => rfl)]
  show ((srtG (keyG ms) (rngI (ms.length : Int))).map (keyG ms)).map _ = _
  rw [ord_cast, List.map_map, List.map_map]
  rfl
theorem tupsO_map : ∀ ks : List (List Int), (∀ k ∈ ks, k ≠ []) → tupsO (ks.map fun k => D.tup (k.map .int)) = some ks
  | [], _ => rfl
  | k :: r, h => by
    cases k with
    | nil => exact absurd rfl (h [] List.mem_cons_self)
    | cons x xs =>
      show ((intsO ((x :: xs).map D.int)).bind fun k => (tupsO (r.map fun k => D.tup (k.map .int))).map (k :: ·)) = _
      rw [intsO_map, tupsO_map r fun k hk => h k (List.mem_cons_of_mem _ hk)]
      rfl
theorem O_sortT {m : Bool} {ms : List Mk} {Qd : D → Prop} (hl : ms.length ≤ 1000) (q : Qd (.lst true ((ordF ms).map (tri ms)))) : WO (opD (.fn .sorted) [.lst m ((List.range ms.length).map (tri ms))]) Qd := by
  refine ⟨_, ?_, q⟩
  have e : (List.range ms.length).map (tri ms) = ((List.range ms.length).map fun i : Nat => keyG ms (i : Int)).map fun k => D.tup (k.map .int) := by rw [List.map_map]; rfl
  show sortedO [.lst m _] = _
  unfold sortedO
  rw [e]
  show ((tupsO _).bind _) = _
  rw [tupsO_map _ (fun k hk => by obtain ⟨i, _, rfl⟩ := List.mem_map.mp hk; exact keyG_ne _ _), Option.bind_some, if_pos (by simp [lim]; omega), tri_srt]
theorem flat_zero (k : Nat) : (List.replicate k [D.int 0]).flatten = List.replicate k (.int 0) := by
  induction k with
  | zero => rfl
  | succ k ih => rw [List.replicate_succ, List.flatten_cons, ih]; rfl
theorem O_mulZ {m : Bool} {k : Nat} {Qd : D → Prop} (h : k ≤ 1000) (q : Qd (.lst true (List.replicate k (.int 0)))) : WO (opD (.bin .Mult) [.lst m [.int 0], .int (k : Int)]) Qd := by
  refine ⟨_, ?_, q⟩
  have h2 : ((k : Int)).toNat = k := by omega
  have h1 : (pureL [D.int 0] && decide (-(2 ^ 63) ≤ (k : Int)) && decide ((k : Int) < 2 ^ 63) && decide ([D.int 0].length * k ≤ lim)) = true := by
    simp only [Bool.and_eq_true, decide_eq_true_eq]
    refine ⟨⟨⟨by simp [pureL, D.pure], by omega⟩, by omega⟩, ?_⟩
    simp [lim]; omega
  have h3 := flat_zero k
  simp only [opD, binO, mulO, h2, h3, h1, if_true]
theorem due_zero (n : Nat) : List.replicate n (D.int 0) = nat' ((List.range n).map (rowAt [])) := by
  unfold nat'
  rw [List.map_map]
  refine (List.eq_replicate_iff.mpr ⟨by simp, fun x hx => ?_⟩).symm
  obtain ⟨i, _, rfl⟩ := List.mem_map.mp hx
  rfl
/-! ### a dict by ints, a list of ints -/
theorem ik_new {T : List (Int × D)} {k : Int} {d : D} (h : k ∉ T.map (·.1)) (hl : T.length < lim) : dput (.dic true (ik T)) (.int k) d = some (.dic true (ik (T ++ [(k, d)]))) := by
  simp only [dput, keyD, Option.bind_some]
  rw [if_pos (by unfold ik; rw [List.length_map]; exact hl)]
  unfold vPut
  rw [if_neg]
  · unfold ik; rw [List.map_append]; rfl
  · intro z
    rw [List.any_eq_true] at z
    obtain ⟨kv, hkv, e⟩ := z
    unfold ik at hkv
    obtain ⟨p, hp, rfl⟩ := List.mem_map.mp hkv
    have e : (Sum.inl p.1 : Key) = .inl k := of_decide_eq_true e
    cases e
    exact h (List.mem_map_of_mem (f := (·.1)) hp)
theorem ex_iput {T : List (Int × D)} {k : Int} {d : D} {Pd : D → Prop} (h : k ∉ T.map (·.1)) (hl : T.length < lim) (q : Pd (.dic true (ik (T ++ [(k, d)])))) : ∃ x', dput (.dic true (ik T)) (.int k) d = some x' ∧ Pd x' := ⟨_, ik_new h hl, q⟩
theorem nat_set {E : List Nat} {r p : Nat} (h : r < E.length) : setO (r : Int) (.int (p : Int)) (.lst true (nat' E)) = some (.lst true (nat' (E.set r p)), .non) := by
  have e : setAt (nat' E) (r : Int) (.int (p : Int)) = some (nat' (E.set r p)) := by
    unfold setAt
    have : ixN (nat' E).length (r : Int) = some r := by
      have hl := nat_len E
      unfold ixN
      simp only [hl]
      split <;> first | (simp; omega) | omega
    rw [this]
    unfold nat'
    simp [List.map_set]
  simp only [setO, e]; rfl
/-- the rows as a dict -/
def rowT (R : List (Nat × Nat)) : List (Int × D) := R.map fun q => ((q.1 : Int), .int (q.2 : Int))
theorem rowT_snoc (R : List (Nat × Nat)) (i r : Nat) : rowT R ++ [((i : Int), .int (r : Int))] = rowT (R ++ [(i, r)]) := by unfold rowT; rw [List.map_append]; rfl
theorem rowT_len (R : List (Nat × Nat)) : (rowT R).length = R.length := by unfold rowT; rw [List.length_map]
theorem rowT_out {R : List (Nat × Nat)} {i : Nat} (h : i ∉ R.map (·.1)) : (i : Int) ∉ (rowT R).map (·.1) := fun z => by
  unfold rowT at z
  rw [List.map_map] at z
  obtain ⟨q, hq, e⟩ := List.mem_map.mp z
  have e : (q.1 : Int) = (i : Int) := e
  exact h (by rw [← Int.ofNat.inj e]; exact List.mem_map_of_mem (f := (·.1)) hq)
theorem rowT_get {R : List (Nat × Nat)} {i : Nat} (h : i ∈ R.map (·.1)) : iGet (rowT R) (i : Int) = some (.int (rowAt R i : Int)) := by
  induction R with
  | nil => simp at h
  | cons q R ih =>
    unfold iGet rowT rowAt
    rw [List.map_cons, List.find?_cons, List.find?_cons]
    by_cases e : q.1 = i
    · rw [show decide (((q.1 : Int), D.int (q.2 : Int)).1 = (i : Int)) = true from decide_eq_true (by show (q.1 : Int) = i; omega), show (q.1 == i) = true from beq_iff_eq.mpr e]; rfl
    · rw [show decide (((q.1 : Int), D.int (q.2 : Int)).1 = (i : Int)) = false from decide_eq_false (by show ¬ (q.1 : Int) = i; omega), show (q.1 == i) = false from by simpa using e]
      refine ih ?_
      rcases List.mem_cons.mp h with z | z
      · exact absurd z.symm e
      · exact z
/-! ### free rows -/
def freL (E : List Nat) (f : Nat) : List Nat := (List.range E.length).filter fun r => decide (E.getD r 0 ≤ f)
theorem freL_first {E : List Nat} {f : Nat} : (freL E f)[0]? = if freeR E f < E.length then some (freeR E f) else none := by
  have gen : ∀ (E : List Nat) (s : Nat) (g : Nat → Nat), (∀ k, k < E.length → g (s + k) = E.getD k 0) → ((List.range' s E.length).filter fun r => decide (g r ≤ f))[0]? = if freeR E f < E.length then some (s + freeR E f) else none := by
    intro E
    induction E with
    | nil => intro s g _; rfl
    | cons e E ih =>
      intro s g hg
      have h0 := hg 0 (by simp)
      simp at h0
      rw [List.length_cons, List.range'_succ, List.filter_cons]
      unfold freeR
      rw [List.findIdx_cons]
      by_cases he : e ≤ f
      · simp [h0, he]
      · have ih' := ih (s + 1) g (fun k hk => by
          have := hg (k + 1) (by simp; omega)
          rw [show s + 1 + k = s + (k + 1) from by omega, this]; simp)
        unfold freeR at ih'
        simp only [h0, he, decide_false, Bool.false_eq_true, if_false, cond_false]
        rw [ih']
        by_cases hq : E.findIdx (fun e => decide (e ≤ f)) < E.length
        · rw [if_pos hq, if_pos (by omega)]; congr 1; omega
        · rw [if_neg hq, if_neg (by omega)]
  have := gen E 0 (fun r => E.getD r 0) (fun k _ => by simp)
  rw [← List.range_eq_range'] at this
  simpa [freL] using this
theorem freL_nil {E : List Nat} {f : Nat} : freL E f = [] ↔ ¬ freeR E f < E.length := by
  have h := freL_first (E := E) (f := f)
  constructor
  · intro z; rw [z] at h
    intro hq; rw [if_pos hq] at h; simp at h
  · intro hq; rw [if_neg hq] at h
    cases hl : freL E f with
    | nil => rfl
    | cons a b => rw [hl] at h; simp at h
end VI

namespace VI
open PySem L2
/-! ### trees with the least holder -/
def lessH (ms : List Mk) (j k : Nat) : Prop := ((spP ms j : Int) - (spF ms j : Int) < (spP ms k : Int) - (spF ms k : Int)) ∨ ((spP ms j : Int) - (spF ms j : Int) = (spP ms k : Int) - (spF ms k : Int) ∧ k ≤ j)
theorem O_minH2 {ms : List Mk} {m : Bool} {k : Nat} {l : List Nat} {Qd : D → Prop} (q : ∀ j, j ∈ k :: l → (∀ i ∈ k :: l, lessH ms j i) → Qd (hpD ms j)) : WO (opD (.fn .min) [.lst m ((k :: l).map (hpD ms))]) Qd := by
  have hne : (k :: l).map (fun j => ((spP ms j : Int) - (spF ms j : Int), (0 : Int) - (j : Int))) ≠ [] := by simp
  obtain ⟨h1, h3⟩ := minP_min hne
  obtain ⟨j, hj, e⟩ := List.mem_map.mp h1
  refine ⟨hpD ms j, ?_, q j hj fun i hi => ?_⟩
  · have h2 : intsO ((k :: l).map (hpD ms)) = none := rfl
    simp only [opD, fnO, minO, h2, prs_hp, Option.map_some]
    rw [← e]; rfl
  · have := h3 _ (List.mem_map.mpr ⟨i, hi, rfl⟩)
    rw [← e] at this
    unfold ltP at this
    unfold lessH
    split at this <;> (have := of_decide_eq_false this; omega)
def treeM (ms : List Mk) (T : List (Option Nat)) (k : Nat) : Prop := T.length = k ∧ ∀ i, i < k → (T.getD i none = none → ∀ j, j < ms.length → holdB ms i j = false) ∧ ∀ j, T.getD i none = some j → j < ms.length ∧ holdB ms i j = true ∧ ∀ k, k < ms.length → holdB ms i k = true → lessH ms j k
theorem treeM_snoc {ms : List Mk} {T : List (Option Nat)} {k : Nat} {o : Option Nat} (h : treeM ms T k) (h1 : o = none → ∀ j, j < ms.length → holdB ms k j = false) (h2 : ∀ j, o = some j → j < ms.length ∧ holdB ms k j = true ∧ ∀ i, i < ms.length → holdB ms k i = true → lessH ms j i) : treeM ms (T ++ [o]) (k + 1) := by
  obtain ⟨hl, ht⟩ := h
  refine ⟨by simp [hl], fun i hi => ?_⟩
  rcases Nat.lt_or_ge i k with z | z
  · have : (T ++ [o]).getD i none = T.getD i none := by
      simp only [List.getD, List.getElem?_append_left (show i < T.length by omega)]
    rw [this]; exact ht i z
  · have e : i = k := by omega
    subst e
    have : (T ++ [o]).getD i none = o := by
      rw [← hl]; simp [List.getD]
    rw [this]; exact ⟨h1, h2⟩
theorem hold_iff {ms : List Mk} {i j : Nat} : holdB ms i j = true ↔ j ≠ i ∧ spF ms j ≤ spF ms i ∧ spP ms i ≤ spP ms j ∧ (¬ (spF ms j = spF ms i ∧ spP ms j = spP ms i) ∨ j < i) := by
  unfold holdB; rw [decide_eq_true_iff]
/-- holders of a mark -/
abbrev hol (ms : List Mk) (i : Nat) : List Nat := hlF ms i ms.length
theorem nodup_len {a b : List Nat} (ha : a.Nodup) (hb : b.Nodup) (h : ∀ x, x ∈ a ↔ x ∈ b) : a.length = b.length :=
  Nat.le_antisymm (nodup_sub ha fun x hx => (h x).mp hx) (nodup_sub hb fun x hx => (h x).mpr hx)
theorem hol_nd (ms : List Mk) (i : Nat) : (hol ms i).Nodup := List.nodup_range.filter _
theorem no_cross {ms : List Mk} (h : crF ms.length ms.length (crossB ms) = []) {i j : Nat} (hi : i < ms.length) (hj : j < ms.length) : ¬ (spF ms i < spF ms j ∧ spF ms j < spP ms i ∧ spP ms i < spP ms j) := fun z => by
  have ne : i ≠ j := fun e => by subst e; omega
  rcases Nat.lt_or_gt_of_ne ne with q | q
  · have : (i, j) ∈ crF ms.length ms.length (crossB ms) := crF_mem.mpr ⟨q, hj, decide_eq_true (Or.inl z)⟩
    rw [h] at this; exact List.not_mem_nil this
  · have : (j, i) ∈ crF ms.length ms.length (crossB ms) := crF_mem.mpr ⟨q, hi, decide_eq_true (Or.inr z)⟩
    rw [h] at this; exact List.not_mem_nil this
/-- the holders of a mark are its least holder and that one's holders -/
theorem hol_step {ms : List Mk} (hc : crF ms.length ms.length (crossB ms) = []) (hp : ∀ i, i < ms.length → spF ms i < spP ms i) {i j : Nat} (hi : i < ms.length) (hj : j < ms.length) (hh : holdB ms i j = true) (hm : ∀ k, k < ms.length → holdB ms i k = true → lessH ms j k) : (hol ms i).length = (hol ms j).length + 1 := by
  have nj : j ∉ hol ms j := fun z => by
    have := (hold_iff.mp (hlF_mem.mp z).2).1
    exact this rfl
  have nd : (j :: hol ms j).Nodup := List.nodup_cons.mpr ⟨nj, hol_nd ms j⟩
  have := nodup_len (hol_nd ms i) nd fun k => ?_
  · rw [this]; rfl
  rw [List.mem_cons, hlF_mem, hlF_mem]
  have h1 := hold_iff.mp hh
  have pi := hp i hi
  constructor
  · rintro ⟨hk, hk2⟩
    by_cases e : k = j
    · exact .inl e
    · refine .inr ⟨hk, ?_⟩
      have h2 := hold_iff.mp hk2
      have h3 := hm k hk hk2
      have c1 := no_cross hc hj hk
      have c2 := no_cross hc hk hj
      unfold lessH at h3
      rw [hold_iff]
      omega
  · rintro (rfl | ⟨hk, hk2⟩)
    · exact ⟨hj, hh⟩
    · have h2 := hold_iff.mp hk2
      refine ⟨hk, hold_iff.mpr ?_⟩
      have : k ≠ i := fun e => by subst e; omega
      omega
theorem hol_nil {ms : List Mk} {i : Nat} (h : ∀ j, j < ms.length → holdB ms i j = false) : (hol ms i).length = 0 := by
  rw [List.length_eq_zero_iff, List.eq_nil_iff_forall_not_mem]
  intro j hj
  obtain ⟨h1, h2⟩ := hlF_mem.mp hj
  rw [h j h1] at h2; cases h2
/-! ### words -/
theorem in_hold3 {f p g q : Nat} (h1 : f < p) (h2 : g < q) : inO (.str (wordF f p g q)) [.str w_holds, .str w_begun, .str w_ended] = decide (f ≤ g ∧ q ≤ p ∧ ¬ (f = g ∧ p = q)) := by
  unfold wordF
  repeat' split
  all_goals (simp only [inO, deq]; rw [show (decide _ || (decide _ || (decide _ || false))) = decide (f ≤ g ∧ q ≤ p ∧ ¬ (f = g ∧ p = q)) from by
    first
      | (rw [decide_eq_true (p := f ≤ g ∧ q ≤ p ∧ ¬ (f = g ∧ p = q)) (by omega)]; decide)
      | (rw [decide_eq_false (p := f ≤ g ∧ q ≤ p ∧ ¬ (f = g ∧ p = q)) (by omega)]; decide)])
theorem in_hold4 {f p g q : Nat} (h1 : f < p) (h2 : g < q) : inO (.str (wordF f p g q)) [.str w_same, .str w_holds, .str w_begun, .str w_ended] = decide (f ≤ g ∧ q ≤ p) := by
  unfold wordF
  repeat' split
  all_goals (simp only [inO, deq]; rw [show (decide _ || (decide _ || (decide _ || (decide _ || false)))) = decide (f ≤ g ∧ q ≤ p) from by
    first
      | (rw [decide_eq_true (p := f ≤ g ∧ q ≤ p) (by omega)]; decide)
      | (rw [decide_eq_false (p := f ≤ g ∧ q ≤ p) (by omega)]; decide)])
theorem is_same (f p g q : Nat) : (wordF f p g q = w_same) ↔ (f = g ∧ p = q) := by
  unfold wordF
  constructor
  · intro h
    split at h
    · assumption
    · exfalso
      revert h
      repeat' split
      all_goals decide
  · intro h
    rw [if_pos h]
/-! ### the first marks -/
theorem spF_take {ms : List Mk} {c i : Nat} (h : i < c) : spF (ms.take c) i = spF ms i := by unfold spF; rw [List.getElem?_take_of_lt h]
theorem spP_take {ms : List Mk} {c i : Nat} (h : i < c) : spP (ms.take c) i = spP ms i := by unfold spP; rw [List.getElem?_take_of_lt h]
theorem rowP_cut {i n c : Nat} (P : Nat → Nat → Bool) (h : c ≤ n) : (rowP i n P).filter (fun q => decide (q.2 < c)) = rowP i c P := by
  induction n with
  | zero => have : c = 0 := by omega
            subst this; rfl
  | succ n ih =>
    rw [rowP_succ, List.filter_append]
    by_cases e : c = n + 1
    · subst e
      rw [rowP_succ]
      congr 1
      · rw [List.filter_eq_self]
        intro q hq
        unfold rowP at hq
        obtain ⟨j, hj, rfl⟩ := List.mem_map.mp hq
        have := List.mem_range.mp (List.mem_filter.mp hj).1
        exact decide_eq_true (by dsimp only; omega)
      · split <;> simp
    · rw [ih (by omega)]
      have : ((if (decide (i < n) && P i n) = true then [(i, n)] else []).filter fun q => decide (q.2 < c)) = [] := by
        split
        · rw [List.filter_cons, if_neg (by simp; omega), List.filter_nil]
        · rfl
      rw [this, List.append_nil]
theorem crF_cut {n c : Nat} (P : Nat → Nat → Bool) (h : c ≤ n) : (crF n n P).filter (fun q => decide (q.2 < c)) = crF c c P := by
  unfold crF
  rw [List.filter_flatMap]
  have e : ((List.range n).flatMap fun i => (rowP i n P).filter fun q => decide (q.2 < c)) = (List.range n).flatMap fun i => rowP i c P := by
    congr 1
    funext i
    exact rowP_cut P h
  rw [e]
  obtain ⟨d, rfl⟩ : ∃ d, n = c + d := ⟨n - c, by omega⟩
  clear e h
  induction d with
  | zero => rfl
  | succ d ih =>
    rw [show c + (d + 1) = c + d + 1 from rfl, List.range_succ, List.flatMap_append, ih]
    simp [rowP_low P (i := c + d) (k := c) (by omega)]
theorem crF_congr {n : Nat} {P P' : Nat → Nat → Bool} (h : ∀ i j, i < n → j < n → P i j = P' i j) : crF n n P = crF n n P' := by
  unfold crF
  rw [List.flatMap_def, List.flatMap_def]
  congr 1
  refine List.map_congr_left fun i hi => ?_
  unfold rowP
  congr 1
  refine List.filter_congr fun j hj => ?_
  rw [h i j (List.mem_range.mp hi) (List.mem_range.mp hj)]
theorem cross_take {ms : List Mk} {c : Nat} (h : c ≤ ms.length) : (crF ms.length ms.length (crossB ms)).filter (fun q => decide (q.2 < c)) = crF (ms.take c).length (ms.take c).length (crossB (ms.take c)) := by
  rw [crF_cut _ h, List.length_take, Nat.min_eq_left h]
  refine crF_congr fun i j hi hj => ?_
  unfold crossB
  rw [spF_take hi, spF_take hj, spP_take hi, spP_take hj]
/-! ### rows of fewer -/
theorem covL_app (F P : Nat → Nat) (c d a : Nat) : (covL F P c a).length ≤ (covL F P (c + d) a).length ∧ (covL F P (c + d) a).length ≤ (covL F P c a).length + d := by
  induction d with
  | zero => simp
  | succ d ih =>
    have e : covL F P (c + (d + 1)) a = covL F P (c + d) a ++ if decide (F (c + d) ≤ a ∧ a < P (c + d)) = true then [c + d] else [] := by
      unfold covL
      rw [← Nat.add_assoc, List.range_succ, List.filter_append, List.filter_cons, List.filter_nil]
    rw [e, List.length_append]
    split <;> simp <;> omega
theorem covL_congr {F P F' P' : Nat → Nat} {n a : Nat} (h : ∀ i, i < n → F i = F' i ∧ P i = P' i) : covL F P n a = covL F' P' n a := by
  unfold covL
  refine List.filter_congr fun i hi => ?_
  obtain ⟨h1, h2⟩ := h i (List.mem_range.mp hi)
  rw [h1, h2]
end VI

namespace VI
open PySem PySem.Spec PyProof.Rows L2
/-- what the head says of the defs' tables -/
def TabsAt (q : Program) (K : PySem.W.Frag) (h : Heap) : Prop := ∀ (nm : Str) (c P : Addr) (dL : DefRec), (recsOf q).find? (fun e => e.name == nm) = some dL → PySem.W.tabIn K nm = some (c, P) → PySem.W.CodeHd h c P ∧ h.get? P = some { cls := .none, data := .fields #[] }
theorem walk_tabs {l : PySem.W.OpenLaw} {n k : Nat} {q : Program} {loose : List Str} {XP : (Str → Option Value) → Heap → Prop} {YP : World → Heap → Prop} {d : DefRec} {K : Params → PySem.W.Frag} {CX : World → CXT} {x : Str}
    (hn : l.most = some n) (hn2 : n ≤ sizeLine) (hdf : d.params.defaults = []) (hr : Room k callerA) (hY : ∀ (w : World) (h : Heap), YP w h → (K w.params).In h)
    (F : ∀ (w : World) (mg : Str → Option Value) (fa : Addr) (h : Heap), (K w.params).In h → h.Ns mainGlobals mg → mg d.name = some (.ref fa) → TabsAt q (K w.params) h → LamX.LawAtS l w (K w.params) (CX w) k n x mg fa h)
    (hCX : ∀ (w : World) (H : Hp) (s : Shared) (e : Value) (s' : Shared), CX w [] H s (fun _ _ _ => False) e s' → False) :
    PySem.W.WalkO q loose XP YP l.row.toRowW d [] (fun f vs => PySem.call f vs) := by
  refine Att.attach_callB hn hdf fun w s0 s1 mg mb fa o pm cd doc a vs ns G Y ho hd hcd hmg hobj hints hlen hbits hg => ?_
  have KX := hY w _ Y
  obtain ⟨fd, cs, sp, hT, nT, C, hb, hsp, hF⟩ := F w mg fa _ KX G.T.g hmg fun nm c P dL e t => PySem.W.tab_of G.T KX e t
  exact LamX.law_callTs KX G.T.g G.T.b G.T.builtins G.T.nolimit hg hT nT C G.T.bmain hobj hints (Nat.le_trans hlen hn2) hr hF hb (fun H hH hS => hsp H a ns hlen hbits hH hS) fun H e s' => hCX w H s1 e s'
/-- makers of lambdas: their code objects, their tables, their names -/
abbrev LT := List (Addr × Addr × Str)
def lamN (f : Str) : Str := f ++ (".<locals>." : Str) ++ ("<lambda>" : Str)
def LT.tns (T : LT) : List (Addr × Str) := T.map fun t => (t.2.1, lamN t.2.2)
def LT.uniqB (T : LT) : Bool := T.all fun a => T.all fun b => !(a.2.1 == b.2.1) || a.2.2 == b.2.2
theorem LT.uniq_of {T : LT} (h : T.uniqB = true) : ∀ p ∈ T.tns, ∀ q ∈ T.tns, p.1 = q.1 → p.2 = q.2 := fun p hp q hq e => by
  obtain ⟨a, ha, rfl⟩ := List.mem_map.mp hp
  obtain ⟨b, hb, rfl⟩ := List.mem_map.mp hq
  have h1 := List.all_eq_true.mp (List.all_eq_true.mp h a ha) b hb
  have e : a.2.1 = b.2.1 := e
  simp only [Bool.or_eq_true, Bool.not_eq_true', e, beq_self_eq_true, Bool.true_eq_false, false_or, beq_iff_eq] at h1
  show lamN a.2.2 = lamN b.2.2
  rw [h1]
abbrev LT.tn (T : LT) (h : T.uniqB = true) : Tn := ⟨T.tns, LT.uniq_of h⟩
/-- what is known of a maker -/
structure LTok (q : Program) (K : PySem.W.Frag) (t : Addr × Addr × Str) : Prop where
  tab : PySem.W.tabIn K t.2.2 = some (t.1, t.2.1)
  out : K.lookup t.2.1 = none
  rec' : ∃ dL, (recsOf q).find? (fun e => e.name == t.2.2) = some dL
theorem lamF_of {K : PySem.W.Frag} {mg : Str → Option Value} {base : Heap} {f : Str} {fa fb c P : Addr} {fd : FuncData} {st : Stmt} [Tn] (ha : PySem.W.nsIn K mainGlobals f = some (some (.ref fb))) (h1 : mg f = some (.ref fb)) (h2 : mg f = some (.ref fa)) (F : L2.Fun K f f st fa fd)
    (ht : PySem.W.tabIn K f = some (c, P)) (tb : LamX.TabB base mg c P) (tn : Tn.tn P (lamN f)) : LamF mg base f fd := by
  have e : fb = fa := by rw [h1] at h2; cases h2; rfl
  subst e
  obtain ⟨oc, od, kV, doc, pm, an, cdv, ct, osl, rfl, lk, hcd⟩ := F.ex
  unfold PySem.W.tabIn at ht
  rw [ha] at ht
  simp only [lk] at ht
  cases cdv with
  | ref c0 =>
    simp only at ht
    split at ht
    · split at ht
      · cases ht
        exact ⟨c, P, rfl, tn, tb⟩
      · cases ht
    · cases ht
  | _ => cases ht
/-- all that the end asks -/
theorem law_at {l : PySem.W.OpenLaw} {q : Program} {w : World} {K : PySem.W.Frag} {mg : Str → Option Value} {fa : Addr} {h : Heap} {x : Str} {k : Nat} {T : LT} {t : Tbl} {gls : Str → D → Bool} {d : DefT} {fd : FuncData} (hu : T.uniqB = true) (tabs : TabsAt q K h) (ok : ∀ e ∈ T, LTok q K e)
    (fx : Facts K mg t gls) (hlam : ∀ f d, t.lookup f = some d → d.lam = true → ∃ e ∈ T, e.2.2 = f ∧ ∃ fb, PySem.W.nsIn K mainGlobals f = some (some (.ref fb)) ∧ mg f = some (.ref fb)) (hok : ∀ f d, t.lookup f = some d → okDef t gls d = true)
    (hf : t.lookup ("law" : Str) = some d) (h1 : d.fd.np = 1) (hx : d.N.take d.fd.np = [x]) (hmg : mg ("law" : Str) = some (.ref fa)) (F : L2.Fun K "law" "law" d.st fa fd) (hb : ∀ (s : Shared) (u : Value), BindsTo s fd ⟨[u], []⟩ [(x, u)])
    (hrun : ∀ ns : List Int, ns.length ≤ 63 → ∃ outs, run t.fds k "law" [.scr ns] = .ok (.bl true) outs) : LamX.LawAtS l w K (L2.CX l.prog w) (k + 4) 63 x mg fa h := by
  have look : ∀ p ∈ T.map (fun e => (e.1, e.2.1)), ∃ e ∈ T, p = (e.1, e.2.1) := fun p hp => by
    obtain ⟨e, he, rfl⟩ := List.mem_map.mp hp
    exact ⟨e, he, rfl⟩
  refine ⟨fd, T.map (fun e => (e.1, e.2.1)), @spLaw (T.tn hu) K 63, fun p hp => ?_, fun p hp => ?_, fun p hp => ?_, hb, fun H a ns hl _ hH hS => ⟨a, ns, rfl, hS, hl, fun P q' z => ?_, fun _ => rfl⟩, fun base hK hG tb => ?_⟩
  · obtain ⟨e, he, rfl⟩ := look p hp
    obtain ⟨dL, hd⟩ := (ok e he).rec'
    exact (tabs _ _ _ dL hd (ok e he).tab).2
  · obtain ⟨e, he, rfl⟩ := look p hp
    exact (ok e he).out
  · obtain ⟨e, he, rfl⟩ := look p hp
    obtain ⟨dL, hd⟩ := (ok e he).rec'
    exact (tabs _ _ _ dL hd (ok e he).tab).1
  · have z : (P, q') ∈ T.tns := z
    obtain ⟨e, he, z⟩ := List.mem_map.mp z
    cases z
    exact hH (e.1, e.2.1) (List.mem_map.mpr ⟨e, he, rfl⟩)
  · letI : Tn := T.tn hu
    have := law_ok (P := l.prog) (w := w) (base := base) (n := k) (m := 63) fx (fun f d' hd hl fa' fd' hm' F' => by
      obtain ⟨e, he, rfl, fb, e1, e2⟩ := hlam f d' hd hl
      exact lamF_of e1 e2 hm' F' (ok e he).tab (tb (e.1, e.2.1) (List.mem_map.mpr ⟨e, he, rfl⟩)) (List.mem_map.mpr ⟨e, he, rfl⟩)) hok hf h1 hmg F hrun
    rw [hx] at this
    exact this
end VI

namespace Lk33
open PySem PySem.Spec PyProof.Rows L2 VI
/-- 0 signs, 1 at, 2 sign -/
def i_need_signs : FD := { np := 1, ns := 3, io := [false], body :=
   [.fors (.tup [(.slot 1), (.slot 2)]) .enum [(.use 0)]
      [.ifs (.or (.op (.cmp .Eq) [(.var 1), (.glob "MOST_SIGNS" (.int 80))]) (.not (.chain .LtE .LtE (.cst (.str [32])) (.var 2) (.cst (.str [126])))))
        [.bad]
        []]] }
/-- 0 word, 1 sign -/
def i_is_name : FD := { np := 1, ns := 2, io := [false], body :=
   [.ret (.and (.chain .LtE .LtE (.cst (.int 1)) (.op (.fn .len) [(.var 0)]) (.glob "MOST_NAME" (.int 6))) (.op (.fn .all) [(.lc (.op (.cmp .In) [(.var 1), (.glob "LETTERS" (.str [97, 98, 99, 100, 101, 102, 103, 104, 105, 106, 107, 108, 109, 110, 111, 112, 113, 114, 115, 116, 117, 118, 119, 120, 121, 122]))]) (.slot 1) .seq [(.use 0)] [] [1])]))] }
/-- 0 signs, 1 some, 2 number, 3 mark, 4 hand, 5 layer, 6 first, 7 past, 8 word, 9 one -/
def i_need_marks : FD := { np := 2, ns := 10, io := [false, false], body :=
   [.fors (.tup [(.slot 2), (.slot 3)]) .enum [(.use 1)]
      [.asg (.tup [(.slot 4), (.slot 5), (.slot 6), (.slot 7), (.slot 8)]) (.use 3),
      .ifs (.or (.op (.cmp .Eq) [(.var 2), (.glob "MOST_MARKS" (.int 40))]) (.not (.op (.fn .all) [(.lc (.call "is_name" [(.use 9)]) (.slot 9) .seq [(.tup [(.use 4), (.use 5), (.use 8)])] [] [9])])))
        [.bad]
        [],
      .ifs (.not (.chain3 .LtE .Lt .LtE (.cst (.int 0)) (.var 6) (.var 7) (.op (.fn .len) [(.var 0)])))
        [.bad]
        []]] }
/-- 0 one, 1 other -/
def i_word_for : FD := { np := 2, ns := 2, io := [false, false], body :=
   [.ifs (.op (.cmp .Eq) [(.var 0), (.var 1)])
      [.ret (.cst (.str [115, 97, 109, 101]))]
      [],
    .ifs (.or (.op (.cmp .Lt) [(.op .ix [(.var 0), (.cst (.int 1))]), (.op .ix [(.var 1), (.cst (.int 0))])]) (.op (.cmp .Lt) [(.op .ix [(.var 1), (.cst (.int 1))]), (.op .ix [(.var 0), (.cst (.int 0))])]))
      [.ret (.ifx (.op (.cmp .Lt) [(.op .ix [(.var 0), (.cst (.int 1))]), (.op .ix [(.var 1), (.cst (.int 0))])]) (.cst (.str [97, 104, 101, 97, 100])) (.cst (.str [98, 101, 104, 105, 110, 100])))]
      [],
    .ifs (.or (.op (.cmp .Eq) [(.op .ix [(.var 0), (.cst (.int 1))]), (.op .ix [(.var 1), (.cst (.int 0))])]) (.op (.cmp .Eq) [(.op .ix [(.var 1), (.cst (.int 1))]), (.op .ix [(.var 0), (.cst (.int 0))])]))
      [.ret (.ifx (.op (.cmp .Eq) [(.op .ix [(.var 0), (.cst (.int 1))]), (.op .ix [(.var 1), (.cst (.int 0))])]) (.cst (.str [109, 101, 101, 116, 115])) (.cst (.str [109, 101, 116])))]
      [],
    .ifs (.op (.cmp .Eq) [(.op .ix [(.var 0), (.cst (.int 0))]), (.op .ix [(.var 1), (.cst (.int 0))])])
      [.ret (.ifx (.op (.cmp .Lt) [(.op .ix [(.var 0), (.cst (.int 1))]), (.op .ix [(.var 1), (.cst (.int 1))])]) (.cst (.str [98, 101, 103, 105, 110, 115])) (.cst (.str [98, 101, 103, 117, 110])))]
      [],
    .ifs (.op (.cmp .Eq) [(.op .ix [(.var 0), (.cst (.int 1))]), (.op .ix [(.var 1), (.cst (.int 1))])])
      [.ret (.ifx (.op (.cmp .Gt) [(.op .ix [(.var 0), (.cst (.int 0))]), (.op .ix [(.var 1), (.cst (.int 0))])]) (.cst (.str [101, 110, 100, 115])) (.cst (.str [101, 110, 100, 101, 100])))]
      [],
    .ifs (.op (.cmp .Gt) [(.op .ix [(.var 0), (.cst (.int 0))]), (.op .ix [(.var 1), (.cst (.int 0))])])
      [.ret (.ifx (.op (.cmp .Lt) [(.op .ix [(.var 0), (.cst (.int 1))]), (.op .ix [(.var 1), (.cst (.int 1))])]) (.cst (.str [119, 105, 116, 104, 105, 110])) (.cst (.str [99, 114, 111, 115, 115, 101, 100])))]
      [],
    .ret (.ifx (.op (.cmp .Gt) [(.op .ix [(.var 0), (.cst (.int 1))]), (.op .ix [(.var 1), (.cst (.int 1))])]) (.cst (.str [104, 111, 108, 100, 115])) (.cst (.str [99, 114, 111, 115, 115, 101, 115])))] }
/-- 0 signs, 1 some, 2 one, 3 other, 4 number -/
def i_relation : FD := { np := 4, ns := 5, io := [false, false, false, false], body :=
   [.expr (.call "need_signs" [(.use 0)]),
    .expr (.call "need_marks" [(.use 0), (.use 1)]),
    .fors (.slot 4) .seq [(.tup [(.use 2), (.use 3)])]
      [.ifs (.not (.chain .LtE .Lt (.cst (.int 0)) (.var 4) (.op (.fn .len) [(.var 1)])))
        [.bad]
        []],
    .ret (.call "word_for" [(.op (.sl true true) [(.op .ix [(.var 1), (.var 2)]), (.cst (.int 2)), (.cst (.int 4))]), (.op (.sl true true) [(.op .ix [(.var 1), (.var 3)]), (.cst (.int 2)), (.cst (.int 4))])])] }
/-- 0 some, 1 found, 2 one, 3 other -/
def i_crossings_of : FD := { np := 1, ns := 4, io := [false], body :=
   [.asg (.slot 1) (.lst []),
    .fors (.slot 2) .rng [(.op (.fn .len) [(.var 0)])]
      [.fors (.slot 3) .rng [(.op (.bin .Add) [(.var 2), (.cst (.int 1))]), (.op (.fn .len) [(.var 0)])]
        [.ifs (.op (.cmp .In) [(.call "word_for" [(.op (.sl true true) [(.op .ix [(.var 0), (.var 2)]), (.cst (.int 2)), (.cst (.int 4))]), (.op (.sl true true) [(.op .ix [(.var 0), (.var 3)]), (.cst (.int 2)), (.cst (.int 4))])]), (.tup [(.cst (.str [99, 114, 111, 115, 115, 101, 115])), (.cst (.str [99, 114, 111, 115, 115, 101, 100]))])])
          [.expr (.mut .append 1 [] [(.tup [(.use 2), (.use 3)])])]
          []]],
    .ret (.take 1)] }
/-- 0 signs, 1 some -/
def i_crossings : FD := { np := 2, ns := 2, io := [false, false], body :=
   [.expr (.call "need_signs" [(.use 0)]),
    .expr (.call "need_marks" [(.use 0), (.use 1)]),
    .ret (.call "crossings_of" [(.use 1)])] }
/-- 0 signs, 1 some, 2 number, 3 covers, 4 ends, 5 given, 6 free, 7 first, 8 past, 9 at, 10 row, 11 end, 12 mark -/
def i_rows_for : FD := { np := 2, ns := 13, io := [false, false], body :=
   [.expr (.call "need_signs" [(.use 0)]),
    .expr (.call "need_marks" [(.use 0), (.use 1)]),
    .multi [4, 5] [(.lst []), (.dnew false)],
    .fors (.slot 2) .seq [(.sortK (.op (.fn .len) [(.var 1)]) 2 [(.op .ix [(.op .ix [(.var 1), (.var 2)]), (.cst (.int 2))]), (.op .ix [(.op .ix [(.var 1), (.var 2)]), (.cst (.int 3))]), (.var 2)])]
      [.asg (.tup [(.slot 7), (.slot 8)]) (.op (.sl true true) [(.op .ix [(.var 1), (.var 2)]), (.cst (.int 2)), (.cst (.int 4))]),
      .asg (.slot 6) (.lcE 4 (.use 10) (.tup [(.slot 10), (.slot 11)]) [(.op (.cmp .LtE) [(.var 11), (.var 7)])] [10, 11]),
      .ifs (.op (.cmp .Eq) [(.var 6), (.lst [])])
        [.expr (.mut .append 4 [] [(.use 8)]),
        .dstore 5 (.use 2) (.op (.bin .Sub) [(.op (.fn .len) [(.var 4)]), (.cst (.int 1))])]
        [.store 4 [] (.op .ix [(.var 6), (.cst (.int 0))]) (.use 8),
        .dstore 5 (.use 2) (.op .ix [(.var 6), (.cst (.int 0))])]],
    .ifs (.op (.cmp .Eq) [(.var 4), (.lst [])])
      [.ret (.tup [(.fz (.lst [])), (.cst .non)])]
      [],
    .asg (.slot 3) (.lc (.op (.fn .len) [(.lc (.use 12) (.slot 12) .seq [(.use 1)] [(.chain .LtE .Lt (.op .ix [(.var 12), (.cst (.int 2))]) (.var 9) (.op .ix [(.var 12), (.cst (.int 3))]))] [12])]) (.slot 9) .rng [(.op (.fn .len) [(.var 0)])] [] [9]),
    .ret (.tup [(.fz (.lc (.op .dget [(.var 5), (.var 2)]) (.slot 2) .rng [(.op (.fn .len) [(.var 1)])] [] [2])), (.idx 3 [(.op (.fn .len) [(.var 4)])])])] }
/-- 0 signs, 1 some, 2 found, 3 one, 4 other, 5 number, 6 mark, 7 holding, 8 more, 9 is_like -/
def i_tree_of : FD := { np := 2, ns := 10, io := [false, false], body :=
   [.expr (.call "need_signs" [(.use 0)]),
    .expr (.call "need_marks" [(.use 0), (.use 1)]),
    .fors (.tup [(.slot 3), (.slot 4)]) .seq [(.call "crossings_of" [(.use 1)])]
      [.bad],
    .asg (.slot 2) (.lst []),
    .fors (.tup [(.slot 5), (.slot 6)]) .enum [(.use 1)]
      [.asg (.slot 7) (.lst []),
      .fors (.tup [(.slot 4), (.slot 8)]) .enum [(.use 1)]
        [.asg (.slot 9) (.op (.cmp .Eq) [(.op (.sl true true) [(.var 8), (.cst (.int 2)), (.cst (.int 4))]), (.op (.sl true true) [(.var 6), (.cst (.int 2)), (.cst (.int 4))])]),
        .ifs (.and (.op (.cmp .NotEq) [(.var 4), (.var 5)]) (.and (.op (.cmp .LtE) [(.op .ix [(.var 8), (.cst (.int 2))]), (.op .ix [(.var 6), (.cst (.int 2))])]) (.and (.op (.cmp .LtE) [(.op .ix [(.var 6), (.cst (.int 3))]), (.op .ix [(.var 8), (.cst (.int 3))])]) (.or (.not (.var 9)) (.op (.cmp .Lt) [(.var 4), (.var 5)])))))
          [.expr (.mut .append 7 [] [(.tup [(.op (.bin .Sub) [(.op .ix [(.var 8), (.cst (.int 3))]), (.op .ix [(.var 8), (.cst (.int 2))])]), (.op (.bin .Sub) [(.cst (.int 0)), (.var 4)])])])]
          []],
      .expr (.mut .append 2 [] [(.ifx (.op (.cmp .NotEq) [(.var 7), (.lst [])]) (.op (.bin .Sub) [(.cst (.int 0)), (.op .ix [(.op (.fn .min) [(.var 7)]), (.cst (.int 1))])]) (.cst .non))])],
    .ret (.take 2)] }
/-- 0 _law_script, 1 _law_seed, 2 _law_mixed, 3 _law_cell -/
def i_law_mix : FD := { np := 2, ns := 4, io := [false, false], body :=
   [.asg (.slot 2) (.use 1),
    .fors (.slot 3) .seq [(.use 0)]
      [.asg (.slot 2) (.op (.bin .Mod) [(.op (.bin .Add) [(.op (.bin .Add) [(.op (.bin .Mult) [(.var 2), (.cst (.int 48271))]), (.op (.bin .Mod) [(.var 3), (.cst (.int 2147483629))])]), (.cst (.int 1))]), (.cst (.int 2147483647))])],
    .ret (.lst [(.use 2), (.op (.fn .list) [(.var 0)]), (.cst (.int 0))])] }
/-- 0 _law_h, 1 _law_many, 2 _law_cell -/
def i_law_next : FD := { np := 2, ns := 3, io := [true, false], body :=
   [.asg (.slot 2) (.op .ix [(.op (.bin .Add) [(.op .ix [(.var 0), (.cst (.int 1))]), (.lst [(.cst (.int 0))])]), (.op (.bin .Mod) [(.op .ix [(.var 0), (.cst (.int 2))]), (.op (.fn .max) [(.cst (.int 1)), (.op (.fn .len) [(.op .ix [(.var 0), (.cst (.int 1))])])])])]),
    .ifs (.op (.cmp .GtE) [(.var 2), (.op (.bin .Pow) [(.cst (.int 10)), (.cst (.int 18))])])
      [.store 0 [(.cst (.int 1))] (.op (.bin .Mod) [(.op .ix [(.var 0), (.cst (.int 2))]), (.op (.fn .len) [(.op .ix [(.var 0), (.cst (.int 1))])])]) (.op (.bin .FloorDiv) [(.var 2), (.var 1)]),
      .ret (.op (.bin .Mod) [(.var 2), (.var 1)])]
      [],
    .store 0 [] (.cst (.int 0)) (.op (.bin .Mod) [(.op (.bin .Add) [(.op (.bin .Add) [(.op (.bin .Mult) [(.op .ix [(.var 0), (.cst (.int 0))]), (.cst (.int 48271))]), (.op (.bin .Mult) [(.var 2), (.cst (.int 69621))])]), (.cst (.int 11))]), (.cst (.int 2147483647))]),
    .store 0 [] (.cst (.int 2)) (.op (.bin .Add) [(.op .ix [(.var 0), (.cst (.int 2))]), (.cst (.int 1))]),
    .ret (.op (.bin .Mod) [(.op (.bin .FloorDiv) [(.op .ix [(.var 0), (.cst (.int 0))]), (.cst (.int 7))]), (.var 1)])] }
/-- 0 _law_h, 1 _law_most, 2 _law_some, 3 _law_k -/
def i_law_signs : FD := { np := 2, ns := 4, io := [true, false], body :=
   [.asg (.slot 2) (.op .ix [(.lst [(.cst (.str [97, 98])), (.cst (.str [97, 98, 32, 99])), (.cst (.str [97, 98, 99, 100, 101, 102, 103, 104, 32, 126, 33]))]), (.call "_law_next" [(.lend 0), (.cst (.int 3))])]),
    .ret (.op (.mt (.join [])) [(.lc (.op .ix [(.var 2), (.call "_law_next" [(.lend 0), (.op (.fn .len) [(.var 2)])])]) (.slot 3) .rng [(.call "_law_next" [(.lend 0), (.op (.bin .Add) [(.var 1), (.cst (.int 1))])])] [] [3])])] }
/-- 0 _law_h, 1 _law_body, 2 _law_most, 3 _law_found, 4 _law_k, 5 _law_first, 6 _law_past, 7 _law_hand, 8 _law_layer -/
def i_law_marks : FD := { np := 3, ns := 9, io := [true, false, false], body :=
   [.asg (.slot 3) (.lst []),
    .fors (.slot 4) .rng [(.ifx (.op (.cmp .NotEq) [(.var 1), (.cst (.str []))]) (.call "_law_next" [(.lend 0), (.op (.bin .Add) [(.var 2), (.cst (.int 1))])]) (.cst (.int 0)))]
      [.asg (.slot 5) (.call "_law_next" [(.lend 0), (.op (.fn .len) [(.var 1)])]),
      .asg (.slot 6) (.op (.bin .Add) [(.op (.bin .Add) [(.var 5), (.cst (.int 1))]), (.call "_law_next" [(.lend 0), (.op (.fn .min) [(.op (.bin .Sub) [(.op (.fn .len) [(.var 1)]), (.var 5)]), (.op .ix [(.lst [(.cst (.int 3)), (.cst (.int 80))]), (.call "_law_next" [(.lend 0), (.cst (.int 2))])])])])]),
      .multi [7, 8] [(.op .ix [(.lst [(.cst (.str [97, 110, 110])), (.cst (.str [98, 111, 98])), (.cst (.str [99, 121]))]), (.call "_law_next" [(.lend 0), (.cst (.int 3))])]), (.op .ix [(.lst [(.cst (.str [112, 111, 115])), (.cst (.str [110, 101, 114]))]), (.call "_law_next" [(.lend 0), (.cst (.int 2))])])],
      .expr (.mut .append 3 [] [(.tup [(.use 7), (.use 8), (.use 5), (.use 6), (.op .ix [(.lst [(.cst (.str [110])), (.cst (.str [118])), (.cst (.str [97, 100, 106]))]), (.call "_law_next" [(.lend 0), (.cst (.int 3))])])])])],
    .ret (.take 3)] }
/-- 0 _law_script, 1 _law_h, 2 _law_turn, 3 _law_body, 4 _law_rows, 5 _law_cut, 6 _law_one, 7 _law_kept, 8 _law_mark, 9 _law_tree, 10 _law_k, 11 _law_every, 12 _law_few, 13 _law_many, 14 _law_less, 15 _law_other, 16 _law_holds, 17 _law_j, 18 _law_apart, 19 _law_deep, 20 _law_up, 21 _law_word, 22 _law_pair -/
def i_law : FD := { np := 1, ns := 23, io := [false], body :=
   [.asg (.slot 1) (.call "_law_mix" [(.use 0), (.cst (.int 139))]),
    .fors (.slot 2) .rng [(.cst (.int 5))]
      [.asg (.slot 3) (.op (.bin .Add) [(.cst (.str [97, 98])), (.call "_law_signs" [(.lend 1), (.cst (.int 40))])]),
      .asg (.slot 4) (.call "_law_marks" [(.lend 1), (.use 3), (.cst (.int 12))]),
      .asg (.slot 5) (.call "_law_next" [(.lend 1), (.op (.bin .Add) [(.op (.fn .len) [(.var 4)]), (.cst (.int 1))])]),
      .multi [11, 12] [(.op .ix [(.call "rows_for" [(.use 3), (.use 4)]), (.cst (.int 0))]), (.op .ix [(.call "rows_for" [(.use 3), (.op (.sl false true) [(.var 4), (.var 5)])]), (.cst (.int 0))])],
      .multi [13, 14] [(.op (.bin .Add) [(.op (.fn .max) [(.op (.bin .Add) [(.var 11), (.lst [(.op .neg [(.cst (.int 1))])])])]), (.cst (.int 1))]), (.op (.bin .Add) [(.op (.fn .max) [(.op (.bin .Add) [(.var 12), (.lst [(.op .neg [(.cst (.int 1))])])])]), (.cst (.int 1))])],
      .ifs (.or (.op (.cmp .Gt) [(.var 14), (.var 13)]) (.or (.op (.cmp .Gt) [(.var 13), (.op (.bin .Sub) [(.op (.bin .Add) [(.var 14), (.op (.fn .len) [(.var 4)])]), (.var 5)])]) (.op (.cmp .NotEq) [(.op .sset [(.var 11)]), (.op .lrng [(.var 13)])])))
        [.ret (.cst (.bl false))]
        [],
      .fors (.slot 6) .rng [(.op (.fn .len) [(.var 4)])]
        [.fors (.slot 15) .rng [(.var 6)]
          [.asg (.slot 18) (.or (.op (.cmp .LtE) [(.op .ix [(.op .ix [(.var 4), (.var 6)]), (.cst (.int 3))]), (.op .ix [(.op .ix [(.var 4), (.var 15)]), (.cst (.int 2))])]) (.op (.cmp .LtE) [(.op .ix [(.op .ix [(.var 4), (.var 15)]), (.cst (.int 3))]), (.op .ix [(.op .ix [(.var 4), (.var 6)]), (.cst (.int 2))])])),
          .ifs (.and (.op (.cmp .Eq) [(.op .ix [(.var 11), (.var 6)]), (.op .ix [(.var 11), (.var 15)])]) (.not (.var 18)))
            [.ret (.cst (.bl false))]
            []]],
      .ifs (.op (.cmp .NotEq) [(.lc (.use 22) (.slot 22) .seq [(.call "crossings" [(.use 3), (.use 4)])] [(.op (.cmp .Lt) [(.op .ix [(.var 22), (.cst (.int 1))]), (.var 5)])] [22]), (.call "crossings" [(.use 3), (.op (.sl false true) [(.var 4), (.var 5)])])])
        [.ret (.cst (.bl false))]
        [],
      .asg (.slot 7) (.lst []),
      .fors (.slot 8) .seq [(.use 4)]
        [.ifs (.op (.cmp .Eq) [(.call "crossings" [(.use 3), (.op (.bin .Add) [(.var 7), (.lst [(.use 8)])])]), (.lst [])])
          [.expr (.mut .append 7 [] [(.use 8)])]
          []],
      .asg (.slot 9) (.call "tree_of" [(.use 3), (.use 7)]),
      .fors (.slot 10) .rng [(.op (.fn .len) [(.var 7)])]
        [.multi [19, 20] [(.cst (.int 0)), (.op .ix [(.var 9), (.var 10)])],
        .whl 2000 (.op (.cmp .IsNot) [(.var 20), (.cst .non)])
          [.ifs (.op (.cmp .NotIn) [(.call "relation" [(.use 3), (.use 7), (.use 20), (.use 10)]), (.tup [(.cst (.str [115, 97, 109, 101])), (.cst (.str [104, 111, 108, 100, 115])), (.cst (.str [98, 101, 103, 117, 110])), (.cst (.str [101, 110, 100, 101, 100]))])])
            [.ret (.cst (.bl false))]
            [],
          .multi [19, 20] [(.op (.bin .Add) [(.var 19), (.cst (.int 1))]), (.op .ix [(.var 9), (.var 20)])]],
        .asg (.slot 16) (.cst (.int 0)),
        .fors (.slot 17) .rng [(.op (.fn .len) [(.var 7)])]
          [.asg (.slot 21) (.call "relation" [(.use 3), (.use 7), (.use 17), (.use 10)]),
          .asg (.slot 16) (.op (.bin .Add) [(.var 16), (.op (.fn .int) [(.or (.op (.cmp .In) [(.var 21), (.tup [(.cst (.str [104, 111, 108, 100, 115])), (.cst (.str [98, 101, 103, 117, 110])), (.cst (.str [101, 110, 100, 101, 100]))])]) (.and (.op (.cmp .Eq) [(.var 21), (.cst (.str [115, 97, 109, 101]))]) (.op (.cmp .Lt) [(.var 17), (.var 10)])))])])],
        .ifs (.op (.cmp .NotEq) [(.var 16), (.var 19)])
          [.ret (.cst (.bl false))]
          []]],
    .ret (.cst (.bl true))] }
def topS (i : Nat) : Stmt := PySem.Challenge.pw_marksheaf_k33_whole_marks_more_and_fewer.main.body.getD i (.Pass ⟨0, 0, 0, 0⟩)
def d_need_signs : DefT := ⟨topS 7, ["signs", "at", "sign"], i_need_signs, false⟩
def d_is_name : DefT := ⟨topS 12, ["word", "sign"], i_is_name, false⟩
def d_need_marks : DefT := ⟨topS 13, ["signs", "some", "number", "mark", "hand", "layer", "first", "past", "word", "one"], i_need_marks, false⟩
def d_word_for : DefT := ⟨topS 14, ["one", "other"], i_word_for, false⟩
def d_relation : DefT := ⟨topS 15, ["signs", "some", "one", "other", "number"], i_relation, false⟩
def d_crossings_of : DefT := ⟨topS 16, ["some", "found", "one", "other"], i_crossings_of, false⟩
def d_crossings : DefT := ⟨topS 17, ["signs", "some"], i_crossings, false⟩
def d_rows_for : DefT := ⟨topS 18, ["signs", "some", "number", "covers", "ends", "given", "free", "first", "past", "at", "row", "end", "mark"], i_rows_for, true⟩
def d_tree_of : DefT := ⟨topS 19, ["signs", "some", "found", "one", "other", "number", "mark", "holding", "more", "is_like"], i_tree_of, false⟩
def d_law_mix : DefT := ⟨topS 21, ["_law_script", "_law_seed", "_law_mixed", "_law_cell"], i_law_mix, false⟩
def d_law_next : DefT := ⟨topS 22, ["_law_h", "_law_many", "_law_cell"], i_law_next, false⟩
def d_law_signs : DefT := ⟨topS 24, ["_law_h", "_law_most", "_law_some", "_law_k"], i_law_signs, false⟩
def d_law_marks : DefT := ⟨topS 26, ["_law_h", "_law_body", "_law_most", "_law_found", "_law_k", "_law_first", "_law_past", "_law_hand", "_law_layer"], i_law_marks, false⟩
def d_law : DefT := ⟨topS 27, ["_law_script", "_law_h", "_law_turn", "_law_body", "_law_rows", "_law_cut", "_law_one", "_law_kept", "_law_mark", "_law_tree", "_law_k", "_law_every", "_law_few", "_law_many", "_law_less", "_law_other", "_law_holds", "_law_j", "_law_apart", "_law_deep", "_law_up", "_law_word", "_law_pair"], i_law, false⟩
def tbl : Tbl := [("need_signs", d_need_signs), ("is_name", d_is_name), ("need_marks", d_need_marks), ("word_for", d_word_for), ("relation", d_relation), ("crossings_of", d_crossings_of), ("crossings", d_crossings), ("rows_for", d_rows_for), ("tree_of", d_tree_of), ("_law_mix", d_law_mix), ("_law_next", d_law_next), ("_law_signs", d_law_signs), ("_law_marks", d_law_marks), ("law", d_law)]
def consts : List (Str × GV) := [("MOST_SIGNS", .int (80)), ("MOST_MARKS", .int (40)), ("MOST_NAME", .int (6)), ("LETTERS", .str [97, 98, 99, 100, 101, 102, 103, 104, 105, 106, 107, 108, 109, 110, 111, 112, 113, 114, 115, 116, 117, 118, 119, 120, 121, 122])]
def gl : Str → D → Bool := glB consts
end Lk33

open PySem L2 VI
local macro_rules | `(tactic| decreasing_trivial_pre_omega) => `(tactic| (repeat' (first
  | ((with_reducible refine WXi ?_); first
    | with_reducible refine X_for ?_
    | ((with_reducible refine X_step ?_); dsimp only [band_t, band_f, bor_t, bor_f, bnot_t, bnot_f, wpS, wpE, wpR, wpC, wpA, getP, inR, tgP_s, tgP_t, tgP_l, tgP_m, tgP_cut, tgP_put, tgPs_n, tgPs_c, pAll, purP, fewP, brB_t, brB_f, brF_t, brF_f, truP_bl, truP_non, truP_int, truP_str, truP_lst, truP_tup, blP_bl, isLT_l, isLs_l, isDT_d, isDs_d, isDs_t, isIn_i, flat2P_i, flat2P_s, wOp, fetchP, nshares, shares, sharesL, quiet, quietL, varOf, lendOf, List.set_cons_zero, List.set_cons_succ, wipeD, useP_non, useP_bl, useP_int, useP_str, useP_scr, pur1_non, pur1_bl, pur1_int, pur1_str, cnd_f, cnd_t, nsh_f])
    | ((with_reducible refine X_nil ?_); try dsimp only)
    | with_reducible refine X_store ?_
    | fail)
  | ((with_reducible refine WRi ?_); first
    | with_reducible refine W_lc ?_
    | with_reducible refine W_disp ?_
    | with_reducible refine W_chain3 ?_
    | ((with_reducible refine W_step ?_); dsimp only [band_t, band_f, bor_t, bor_f, bnot_t, bnot_f, wpS, wpE, wpR, wpC, wpA, getP, inR, tgP_s, tgP_t, tgP_l, tgP_m, tgP_cut, tgP_put, tgPs_n, tgPs_c, pAll, purP, fewP, brB_t, brB_f, brF_t, brF_f, truP_bl, truP_non, truP_int, truP_str, truP_lst, truP_tup, blP_bl, isLT_l, isLs_l, isDT_d, isDs_d, isDs_t, isIn_i, flat2P_i, flat2P_s, wOp, fetchP, nshares, shares, sharesL, quiet, quietL, varOf, lendOf, List.set_cons_zero, List.set_cons_succ, wipeD, useP_non, useP_bl, useP_int, useP_str, useP_scr, pur1_non, pur1_bl, pur1_int, pur1_str, cnd_f, cnd_t, nsh_f])
    | ((with_reducible refine W_stepC ?_); dsimp only [band_t, band_f, bor_t, bor_f, bnot_t, bnot_f, wpS, wpE, wpR, wpC, wpA, getP, inR, tgP_s, tgP_t, tgP_l, tgP_m, tgP_cut, tgP_put, tgPs_n, tgPs_c, pAll, purP, fewP, brB_t, brB_f, brF_t, brF_f, truP_bl, truP_non, truP_int, truP_str, truP_lst, truP_tup, blP_bl, isLT_l, isLs_l, isDT_d, isDs_d, isDs_t, isIn_i, flat2P_i, flat2P_s, wOp, fetchP, nshares, shares, sharesL, quiet, quietL, varOf, lendOf, List.set_cons_zero, List.set_cons_succ, wipeD, useP_non, useP_bl, useP_int, useP_str, useP_scr, pur1_non, pur1_bl, pur1_int, pur1_str, cnd_f, cnd_t, nsh_f])
    | ((with_reducible refine W_stepR ?_); dsimp only [band_t, band_f, bor_t, bor_f, bnot_t, bnot_f, wpS, wpE, wpR, wpC, wpA, getP, inR, tgP_s, tgP_t, tgP_l, tgP_m, tgP_cut, tgP_put, tgPs_n, tgPs_c, pAll, purP, fewP, brB_t, brB_f, brF_t, brF_f, truP_bl, truP_non, truP_int, truP_str, truP_lst, truP_tup, blP_bl, isLT_l, isLs_l, isDT_d, isDs_d, isDs_t, isIn_i, flat2P_i, flat2P_s, wOp, fetchP, nshares, shares, sharesL, quiet, quietL, varOf, lendOf, List.set_cons_zero, List.set_cons_succ, wipeD, useP_non, useP_bl, useP_int, useP_str, useP_scr, pur1_non, pur1_bl, pur1_int, pur1_str, cnd_f, cnd_t, nsh_f])
    | ((with_reducible refine W_stepA ?_); dsimp only [band_t, band_f, bor_t, bor_f, bnot_t, bnot_f, wpS, wpE, wpR, wpC, wpA, getP, inR, tgP_s, tgP_t, tgP_l, tgP_m, tgP_cut, tgP_put, tgPs_n, tgPs_c, pAll, purP, fewP, brB_t, brB_f, brF_t, brF_f, truP_bl, truP_non, truP_int, truP_str, truP_lst, truP_tup, blP_bl, isLT_l, isLs_l, isDT_d, isDs_d, isDs_t, isIn_i, flat2P_i, flat2P_s, wOp, fetchP, nshares, shares, sharesL, quiet, quietL, varOf, lendOf, List.set_cons_zero, List.set_cons_succ, wipeD, useP_non, useP_bl, useP_int, useP_str, useP_scr, pur1_non, pur1_bl, pur1_int, pur1_str, cnd_f, cnd_t, nsh_f])
    | fail)
  | ((with_reducible refine Stop.mk ?_); with_reducible first
    | refine W_lc ?_
    | refine W_disp ?_
    | refine W_chain3 ?_
    | fail)
  | dsimp only [band_t, band_f, bor_t, bor_f, bnot_t, bnot_f, wpS, wpE, wpR, wpC, wpA, getP, inR, tgP_s, tgP_t, tgP_l, tgP_m, tgP_cut, tgP_put, tgPs_n, tgPs_c, pAll, purP, fewP, brB_t, brB_f, brF_t, brF_f, truP_bl, truP_non, truP_int, truP_str, truP_lst, truP_tup, blP_bl, isLT_l, isLs_l, isDT_d, isDs_d, isDs_t, isIn_i, flat2P_i, flat2P_s, wOp, fetchP, nshares, shares, sharesL, quiet, quietL, varOf, lendOf, List.set_cons_zero, List.set_cons_succ, wipeD, useP_non, useP_bl, useP_int, useP_str, useP_scr, pur1_non, pur1_bl, pur1_int, pur1_str, cnd_f, cnd_t, nsh_f]
  | ((with_reducible refine OPi ?_); with_reducible first
    | refine OP_addI ?_
    | refine OP_subI ?_
    | refine OP_neg ?_
    | refine OP_lt ?_
    | refine OP_le ?_
    | refine OP_gt ?_
    | refine OP_ge ?_
    | refine OP_eqI ?_
    | refine OP_neI ?_
    | refine OP_eqS ?_
    | refine OP_neS ?_
    | refine OP_isN ?_
    | refine OP_notN ?_
    | refine OP_lenL ?_
    | refine OP_lenT ?_
    | refine OP_max2 ?_
    | refine OP_min2 ?_
    | refine OP_of ?_)
  | ((with_reducible refine WOi ?_); first
    | ((with_reducible refine O_lenS ?_ ?_); (focus ((first | with_reducible assumption | omega | (simp [lim] <;> omega)); done)))
    | ((with_reducible refine O_mulR ?_ ?_); (focus ((decide); done)))
    | ((with_reducible refine O_mod ?_ ?_); (focus ((first | with_reducible assumption | omega | (simp [lim] <;> omega)); done)))
    | ((with_reducible refine O_div ?_ ?_); (focus ((first | with_reducible assumption | omega | (simp [lim] <;> omega)); done)))
    | ((with_reducible refine O_slToS2 ?_ ?_); (focus ((first | with_reducible assumption | omega | (simp [lim] <;> omega)); done)))
    | ((with_reducible refine O_slFromS2 ?_ ?_); (focus ((first | with_reducible assumption | omega | (simp [lim] <;> omega)); done)))
    | ((with_reducible refine O_slMidS2 ?_ ?_ ?_); (focus ((first | with_reducible assumption | omega | (simp [lim] <;> omega)); done)); (focus ((first | with_reducible assumption | omega); done)))
    | ((with_reducible refine O_slToS ?_ ?_); (focus ((first | with_reducible assumption | omega | (simp [lim] <;> omega)); done)))
    | ((with_reducible refine O_slFromS ?_ ?_); (focus ((first | with_reducible assumption | omega | (simp [lim] <;> omega)); done)))
    | ((with_reducible refine O_addS ?_ ?_); (focus ((first | with_reducible assumption | omega | (simp [lim] <;> omega)); done)))
    | ((with_reducible refine O_addL ?_ ?_ ?_ ?_); (focus ((simp only [pure_es, pure_ms, pure_os]); done)); (focus ((simp only [pure_es, pure_ms, pure_os]); done)); (focus ((simp [lim, invs_len] <;> omega); done)))
    | ((with_reducible refine O_addL ?_ ?_ ?_ ?_); (focus ((simp [pureL, D.pure, pure_ints, pure_es, pure_ms]); done)); (focus ((simp [pureL, D.pure, pure_ints, pure_es, pure_ms]); done)); (focus ((simp [lim, invs_len] <;> omega); done)))
    | ((with_reducible refine O_mulN ?_ ?_); (focus ((simp; omega); done)))
    | ((with_reducible refine O_mulZ ?_ ?_); (focus ((first | omega | (simp; omega)); done)))
    | with_reducible refine O_tupE ?_ | with_reducible refine O_listE ?_ | with_reducible refine O_slToE ?_ | with_reducible refine O_slFromE ?_ | with_reducible refine O_neE ?_
    | ((with_reducible refine O_ixTab ?_ ?_); (focus ((omega); done))) | ((with_reducible refine O_ixTab1 ?_ ?_); (focus ((omega); done))) | ((with_reducible refine O_ixRow ?_ ?_); (focus ((omega); done))) | ((with_reducible refine O_ixRow1 ?_ ?_); (focus ((omega); done))) | ((with_reducible refine O_mul0 ?_ ?_); (focus ((omega); done))) | ((with_reducible refine O_ixRM ?_ ?_); (focus ((omega); done))) | ((with_reducible refine O_ixRM1 ?_ ?_); (focus ((omega); done))) | ((with_reducible refine O_lrng1 ?_ ?_); (focus ((omega); done)))
    | with_reducible refine O_ixS (by simp [lim] <;> omega) (by with_reducible assumption) ?_
    | with_reducible refine O_ixL (by with_reducible assumption) ?_
    | ((with_reducible refine gDget ?_); refine O_dget (by first | with_reducible assumption | rfl) (by first | rfl | with_reducible assumption) ?_)
    | ((with_reducible refine gDict ?_); refine O_dictP (by first | rfl | with_reducible assumption) (by first | decide | (simp [lim]; omega)) ?_)
    | with_reducible refine O_ixT (by with_reducible assumption) ?_
    | with_reducible refine ON_to ?_ | with_reducible refine ON_from ?_ | with_reducible refine ON_from2 ?_ | ((with_reducible refine ON_mid2 ?_ ?_); (focus ((omega); done))) | with_reducible refine ON_rev ?_ | with_reducible refine ON_neE ?_ | ((with_reducible refine ON_add ?_ ?_); (focus ((omega); done)))
    | with_reducible refine O_eqN ?_ | with_reducible refine O_eqN0 ?_ | with_reducible refine O_inI ?_ | ((with_reducible refine O_lrng2 ?_ ?_ ?_); (focus ((omega); done)); (focus ((omega); done))) | with_reducible refine O_notInP ?_ | with_reducible refine O_notInI ?_ | with_reducible refine O_sl24 ?_ | with_reducible refine O_lenQ ?_ | with_reducible refine O_eqP ?_ | with_reducible refine O_inNon ?_ | with_reducible refine O_neG ?_ | with_reducible refine O_allT ?_ | with_reducible refine O_neM ?_
    | ((with_reducible refine O_tupP ?_ ?_); (focus (first | with_reducible with_reducible assumption | with_reducible exact pure_es _ | with_reducible exact pure_ms _ | with_reducible exact pure_os _ | with_reducible exact pure_nats _ | with_reducible exact pure_prs _))) | ((with_reducible refine O_listP ?_ ?_); (focus (first | with_reducible with_reducible assumption | with_reducible exact pure_es _ | with_reducible exact pure_ms _ | with_reducible exact pure_os _ | with_reducible exact pure_nats _ | with_reducible exact pure_prs _))) | ((with_reducible refine O_slToL ?_ ?_); (focus (first | with_reducible with_reducible assumption | with_reducible exact pure_es _ | with_reducible exact pure_ms _ | with_reducible exact pure_os _ | with_reducible exact pure_nats _ | with_reducible exact pure_prs _))) | ((with_reducible refine O_slFromL ?_ ?_); (focus (first | with_reducible with_reducible assumption | with_reducible exact pure_es _ | with_reducible exact pure_ms _ | with_reducible exact pure_os _ | with_reducible exact pure_nats _ | with_reducible exact pure_prs _)))
    | ((fail_if_success (with_reducible refine gLrng ?_)); refine O_any rfl ?_)
    | fail)
  | ((with_reducible refine useP_L ?_ ?_); (focus ((first | with_reducible assumption | rfl | with_reducible exact pure_es _ | with_reducible exact pure_ms _ | with_reducible exact pure_os _ | with_reducible exact pure_nats _ | with_reducible exact pure_prs _ | (simp [pureL, D.pure, pure_ints, pure_mk]; done)); done)))
  | ((with_reducible refine fzP_L ?_ ?_); (focus ((first | with_reducible assumption | rfl | with_reducible exact pure_es _ | with_reducible exact pure_ms _ | with_reducible exact pure_os _ | with_reducible exact pure_nats _ | with_reducible exact pure_prs _ | (simp [pureL, D.pure, pure_ints, pure_mk]; done)); done)))
  | ((with_reducible refine useP_T ?_ ?_); (focus ((first | with_reducible assumption | rfl | with_reducible exact pure_es _ | with_reducible exact pure_ms _ | with_reducible exact pure_os _ | with_reducible exact pure_nats _ | with_reducible exact pure_prs _ | (simp [pureL, D.pure, pure_ints, pure_mk]; done)); done)))
  | ((with_reducible refine useP_Q ?_ ?_); (focus ((first | with_reducible assumption | rfl | with_reducible exact pure_es _ | with_reducible exact pure_ms _ | with_reducible exact pure_os _ | with_reducible exact pure_nats _); done)))
  | ((with_reducible refine pur1_of ?_ ?_); (focus ((first | with_reducible assumption | rfl | (simp [pureL, D.pure, pure_es, pure_ints, pure_strs, pure_mk, pure_oD, pure_tD, pure_ms, pure_os, pure_ed]; done)); done)))
  | ((with_reducible refine useP_P ?_ ?_); (focus ((first | with_reducible assumption | with_reducible exact pure_mk _ | with_reducible exact pure_ed _ | with_reducible exact pure_oD _ | with_reducible exact pure_tD _ | with_reducible exact pure_pD _); done)))
  | with_reducible refine brB_of ?_
  | with_reducible refine brF_of ?_
  | with_reducible first
    | refine cmpP_lt ?_
    | refine cmpP_le ?_
    | refine cmpP_gt ?_
    | refine cmpP_ge ?_
    | refine cmpP_of ?_
    | refine binP_addI ?_
    | refine binP_subI ?_
    | refine binP_of ?_
  | ((with_reducible refine gEx ?_); first
    | ((with_reducible refine ex_dput ?_ ?_); (focus ((first | decide | (simp [lim]; omega)); done)))
    | ((with_reducible refine ex_dup ?_ ?_ ?_); (focus ((first | rfl | with_reducible assumption); done)); (focus ((first | decide | (simp [lim]; omega)); done)))
    | ((with_reducible refine I_app ?_ ?_); (focus ((simp [lim] <;> omega); done)))
    | with_reducible refine I_ext (pure_es _) (by simp [lim] <;> omega) ?_
    | ((with_reducible refine I_rng2 ?_ ?_ ?_); (focus ((first | omega | (simp; omega) | fail); done)); (focus ((first | omega | (simp; omega) | fail); done)))
    | ((with_reducible refine I_rng1 ?_ ?_); (focus ((first | omega | (simp; omega) | fail); done))) | ((with_reducible refine I_rngD ?_ ?_); (focus ((omega); done)))
    | ((with_reducible refine I_rng ?_ ?_); (focus ((first | omega | (simp; omega) | fail); done))) | with_reducible refine I_rngC rfl ?_
    | refine ⟨_, rfl, ?_⟩ | refine ⟨_, _, rfl, ?_⟩
    | refine ⟨_, _, tab_set (by omega) (by omega), ?_⟩
    | fail)
  | ((with_reducible refine gEq ?_); first
    | refine ⟨rfl, ?_⟩
    | ((with_reducible refine and_bt ?_ ?_); (focus ((first | decide | (simp [lim, pureL, D.pure, pure_es, pure_ints, pure_strs, pure_mk, pure_oD, pure_tD, pure_ms, pure_os, pure_ed, shares, sharesL, quiet, quietL] <;> omega) | fail); done)))
    | refine and_bt (tab_path (by omega)) ?_
    | fail)
  | ((with_reducible refine gBr ?_); first
    | refine ⟨fun _ => ?_, fun z => (by first | (cases z; done) | (simp [lt1p] at z; done) | (simp [lt1p] at z; omega))⟩
    | refine ⟨fun z => (by first | (cases z; done) | (simp [lt1p] at z; done) | (simp [lt1p] at z; omega)), fun _ => ?_⟩
    | fail)
  | ((with_reducible refine and_le ?_ ?_); (focus ((simp [lim] <;> omega); done)))
  | ((with_reducible refine gR ?_); with_reducible rfl)
  | fail)))

namespace Lk33
open PySem L2 VI
abbrev cl (n : Nat) : CallT := run tbl.fds n
def hD (m : Int) (cs : List Int) (k : Int) : D := .lst true [.int m, .lst true (cs.map .int), .int k]
def G (h : D) : Prop := ∃ m cs k, h = hD m cs k ∧ cs.length ≤ 63
theorem lim64 {n : Nat} (h : n ≤ 63) : n + 1 ≤ lim := by unfold lim; omega
set_option maxHeartbeats 1000000 in
theorem next_ok (n : Nat) (h : D) (many : Int) (g : G h) (h1 : 1 ≤ many) (h2 : many < 1073741824) : ∃ r h', cl (n + 1) "_law_next" [h, .int many] = .ok (.int r) [some h', none] ∧ 0 ≤ r ∧ r < many ∧ G h' := by
  have main : ∃ d outs, cl (n + 1) "_law_next" [h, .int many] = .ok d outs ∧ ∃ r h', d = .int r ∧ outs = [some h', none] ∧ 0 ≤ r ∧ r < many ∧ G h' := by
    obtain ⟨m, cs, k, rfl, hl⟩ := g
    refine F_run (fd := i_law_next) rfl rfl ?_
    show WX (exs (run tbl.fds n) i_law_next.body [some (hD m cs k), some (.int many), none]) _
    unfold i_law_next hD
    have hmp : (0 : Int) < many := by omega
    decreasing_trivial_pre_omega
    -- the cell
    have hL : (0 : Int) < (if ((cs.map D.int).length : Int) > 1 then ((cs.map D.int).length : Int) else 1) := by split <;> omega
    generalize hM : (if ((cs.map D.int).length : Int) > 1 then ((cs.map D.int).length : Int) else 1) = M at hL ⊢
    obtain ⟨j, hj⟩ : ∃ j : Nat, k % M = (j : Int) := ⟨(k % M).toNat, by have := Int.emod_nonneg k (show M ≠ 0 by omega); omega⟩
    have hjM : (j : Int) < M := by rw [← hj]; exact Int.emod_lt_of_pos k hL
    have hjl : j < cs.length + 1 := by rw [List.length_map] at hM; split at hM <;> omega
    have hat : atI (cs.map D.int ++ [.int 0]) (j : Int) = some (.int ((cs ++ [0])[j]'(by simpa using hjl))) := by
      rw [atD_nat (by simpa using hjl)]
      have : cs.map D.int ++ [D.int 0] = (cs ++ [0]).map D.int := by simp
      rw [this, List.getElem?_map, List.getElem?_eq_getElem (by simpa using hjl)]; rfl
    rw [hj]
    generalize (cs ++ [0])[j]'(by simpa using hjl) = c at hat
    try refine O_ixL hat ?_
    decreasing_trivial_pre_omega
    refine ⟨fun ht => ?_, fun ht => ?_⟩
    · have hc : 10 ^ 18 ≤ c := of_decide_eq_true ht
      have hjc : j < cs.length := by
        rcases Nat.lt_or_ge j cs.length with h | h
        · exact h
        · have : j = cs.length := by omega
          subst this
          rw [atD_nat (by simp)] at hat
          simp at hat
          omega
      have hM2 : ((cs.map D.int).length : Int) = M := by rw [List.length_map] at hM ⊢; split at hM <;> omega
      have hL2 : (0 : Int) < ((cs.map D.int).length : Int) := by omega
      decreasing_trivial_pre_omega
      rw [hM2, hj]
      refine ⟨hD m (cs.set j (c / many)) k, .non, ?_, ?_⟩
      · have : setAt (cs.map D.int) (j : Int) (.int (c / many)) = some ((cs.map D.int).set j (.int (c / many))) := by
          unfold setAt; rw [ixN_nat (by simpa using hjc)]; rfl
        show ((some (D.lst true (cs.map .int))).bind fun x => (setO (j : Int) (.int (c / many)) x).bind fun p => (setAt [.int m, .lst true (cs.map .int), .int k] 1 p.1).map fun ys => (D.lst true ys, p.2)) = _
        simp only [Option.bind_some, setO, this, Option.map_some]
        rw [← List.map_set]; rfl
      · decreasing_trivial_pre_omega
        exact ⟨_, _, rfl, rfl, Int.emod_nonneg _ (by omega), Int.emod_lt_of_pos _ hmp, _, _, _, rfl, by simpa using hl⟩
    · decreasing_trivial_pre_omega
      exact ⟨_, _, rfl, rfl, Int.emod_nonneg _ (by omega), Int.emod_lt_of_pos _ hmp, _, _, _, rfl, hl⟩
  obtain ⟨d, outs, e, r, h', rfl, rfl, q⟩ := main
  exact ⟨r, h', e, q⟩
end Lk33

namespace Lk33
open PySem L2 VI
def NextOk (call : CallT) : Prop := ∀ h many, G h → 1 ≤ many → many < 1073741824 → ∃ (r : Nat) (h' : D), call "_law_next" [h, .int many] = .ok (.int (r : Int)) [some h', none] ∧ (r : Int) < many ∧ G h'
theorem nextOk (n : Nat) : NextOk (cl (n + 1)) := fun h many g h1 h2 => by
  obtain ⟨r, h', e, r0, r1, g'⟩ := next_ok n h many g h1 h2
  refine ⟨r.toNat, h', ?_, by omega, g'⟩
  rw [Int.toNat_of_nonneg r0]; exact e
theorem mix_ok (n : Nat) (ns : List Int) (seed : Int) (hl : ns.length ≤ 63) : ∃ h outs, cl (n + 1) "_law_mix" [.scr ns, .int seed] = .ok h outs ∧ outs = [none, none] ∧ G h := by
  refine F_run (fd := i_law_mix) rfl rfl ?_
  show WX (exs (run tbl.fds n) i_law_mix.body [some (.scr ns), some (.int seed), none, none]) _
  generalize run tbl.fds n = call
  unfold i_law_mix
  decreasing_trivial_pre_omega
  decreasing_trivial_pre_omega
  refine ⟨fun _ ρ => ∃ m x, ρ = [some (.scr ns), some (.int seed), some (.int m), x], ⟨_, _, rfl⟩, ?_, ?_⟩
  · rintro i x ρ hx ⟨m, y, rfl⟩
    obtain ⟨v, rfl⟩ : ∃ v, x = .int v := by
      rw [List.getElem?_map] at hx
      cases h : ns[i]? with
      | none => rw [h] at hx; cases hx
      | some v => rw [h] at hx; cases hx; exact ⟨v, rfl⟩
    refine ⟨_, rfl, ?_⟩
    decreasing_trivial_pre_omega
    first | exact ⟨_, _, rfl⟩ | exact ⟨_, rfl⟩
  · rintro ρ ⟨m, y, rfl⟩
    decreasing_trivial_pre_omega
    first | exact ⟨_, _, _, rfl, hl⟩ | exact ⟨rfl, _, _, _, rfl, hl⟩ | exact ⟨_, rfl, hl⟩
def SignsOk (call : CallT) : Prop := ∀ h (most : Nat), G h → most ≤ 80 → ∃ (s : List Nat) (h' : D), call "_law_signs" [h, .int (most : Int)] = .ok (.str s) [some h', none] ∧ s.length ≤ most ∧ gd s ∧ G h'
set_option maxHeartbeats 1000000 in
theorem signsOk {n : Nat} (hn : NextOk (cl n)) : SignsOk (cl (n + 1)) := fun h most g hm => by
  have main : ∃ d outs, cl (n + 1) "_law_signs" [h, .int (most : Int)] = .ok d outs ∧ ∃ s h', d = .str s ∧ outs = [some h', none] ∧ s.length ≤ most ∧ gd s ∧ G h' := by
    refine F_run (fd := i_law_signs) rfl rfl ?_
    show WX (exs (run tbl.fds n) i_law_signs.body [some h, some (.int (most : Int)), none, none]) _
    unfold cl at hn
    generalize run tbl.fds n = call at hn ⊢
    unfold i_law_signs
    decreasing_trivial_pre_omega
    obtain ⟨r, h1, e1, r1, g1⟩ := hn h 3 g (by decide) (by decide)
    refine ⟨_, _, e1, ?_⟩
    dsimp only [back, List.set]
    decreasing_trivial_pre_omega
    obtain ⟨s0, hs0, hne, hlen, hg0⟩ : ∃ s0 : List Nat, atI [D.str [97, 98], .str [97, 98, 32, 99], .str [97, 98, 99, 100, 101, 102, 103, 104, 32, 126, 33]] (r : Int) = some (.str s0) ∧ 1 ≤ s0.length ∧ s0.length ≤ 11 ∧ gd s0 := by
      have : r = 0 ∨ r = 1 ∨ r = 2 := by omega
      rcases this with rfl | rfl | rfl
      · exact ⟨_, rfl, by decide, by decide, by unfold gd; decide⟩
      · exact ⟨_, rfl, by decide, by decide, by unfold gd; decide⟩
      · exact ⟨_, rfl, by decide, by decide, by unfold gd; decide⟩
    decreasing_trivial_pre_omega
    try refine O_ixL hs0 ?_
    decreasing_trivial_pre_omega
    decreasing_trivial_pre_omega
    obtain ⟨k, h2, e2, r2, g2⟩ := hn h1 ((most : Int) + 1) g1 (by omega) (by omega)
    refine ⟨_, _, e2, ?_⟩
    dsimp only [back, List.set]
    decreasing_trivial_pre_omega
    decreasing_trivial_pre_omega
    refine W_lcloop (fun i acc ρ => ∃ h', G h' ∧ ρ = [some h', some (.int (most : Int)), some (.str s0), none] ∧ ∃ cs : List Nat, acc = cs.map (fun c => .str [c]) ∧ gd cs) ⟨h2, g2, rfl, [], rfl, fun c hc => by cases hc⟩ ?_ (by rw [rngO_len]; unfold lim; omega) ?_
    · rintro i x acc ρ hx ha ⟨h', g', rfl, cs, rfl, gc⟩
      refine W_lcF rfl ?_
      decreasing_trivial_pre_omega
      obtain ⟨q, h3, e3, r3, g3⟩ := hn h' (s0.length : Int) g' (by omega) (by omega)
      decreasing_trivial_pre_omega
      refine ⟨_, _, e3, ?_⟩
      dsimp only [back, List.set]
      decreasing_trivial_pre_omega
      decreasing_trivial_pre_omega
      have hq : q < s0.length := by omega
      have ha : atI s0 (q : Int) = some (s0[q]'hq) := by rw [atD_nat hq]; exact List.getElem?_eq_getElem hq
      try refine O_ixS (by unfold lim; omega) ha ?_
      decreasing_trivial_pre_omega
      exact ⟨h3, g3, rfl, cs ++ [s0[q]'(by omega)], by simp, gd_app gc fun c hc => by simp at hc; subst hc; exact hg0 _ (List.getElem_mem _)⟩
    · rintro acc ρ ha ⟨h', g', rfl, cs, rfl, gc⟩
      rw [rngO_len] at ha
      have hcs : cs.length ≤ most := by simp at ha; omega
      decreasing_trivial_pre_omega
      try refine O_any (d := .str cs) ?_ ?_
      · simp only [opD, mtO, joinO, strs_one, Option.bind_some, sum_one, join_one]
        rw [if_pos]
        simp [lim]; omega
      · decreasing_trivial_pre_omega
        exact ⟨cs, h', rfl, rfl, hcs, gc, g'⟩
  obtain ⟨d, outs, e, s, h', rfl, rfl, q⟩ := main
  exact ⟨s, h', e, q⟩
end Lk33

namespace Lk33
open PySem L2 VI
theorem lt1 (a b : Nat) : decide ([a] < [b]) = decide (a < b) := by
  rw [decide_eq_decide]
  simp [List.cons_lt_cons_iff]
theorem needOk (n : Nat) (s : List Nat) (hl : s.length ≤ 80) (g : gd s) : cl (n + 1) "need_signs" [.str s] = .ok .non [none] := by
  have main : ∃ d outs, cl (n + 1) "need_signs" [.str s] = .ok d outs ∧ (d = .non ∧ outs = [none]) := by
    refine F_run (fd := i_need_signs) rfl rfl ?_
    show WX (exs (run tbl.fds n) i_need_signs.body [some (.str s), none, none]) _
    generalize run tbl.fds n = call
    unfold i_need_signs
    decreasing_trivial_pre_omega
    decreasing_trivial_pre_omega
    refine ⟨fun _ ρ => ∃ x y, ρ = [some (.str s), x, y], ⟨_, _, rfl⟩, ?_, ?_⟩
    · rintro i x ρ hx ⟨y, z, rfl⟩
      obtain ⟨c, hc, rfl⟩ : ∃ c, s[i]? = some c ∧ x = .tup [.int (i : Int), .str [c]] := by
        have hi : i < s.length := by
          have := (List.getElem?_eq_some_iff.mp hx).1
          rw [enumD_len] at this; simpa using this
        refine ⟨s[i], List.getElem?_eq_getElem hi, ?_⟩
        have := enumD_at 0 (s.map fun c => .str [c]) i (.str [s[i]]) (by simp [hi])
        rw [this] at hx
        simpa using hx.symm
      have hi : i < s.length := (List.getElem?_eq_some_iff.mp hc).1
      obtain ⟨g1, g2⟩ := g c (List.mem_of_getElem? hc)
      refine ⟨_, rfl, ?_⟩
      decreasing_trivial_pre_omega
      exact ⟨_, _, rfl⟩
    · rintro ρ ⟨y, z, rfl⟩
      decreasing_trivial_pre_omega
      exact rfl
  obtain ⟨d, outs, e, rfl, rfl⟩ := main
  exact e
end Lk33

namespace Lk33
open PySem L2 VI
def NmP (d : D) (outs : List (Option D)) : Prop := d = .bl true ∧ outs = [none]
theorem nameOk (n : Nat) (s : List Nat) (h : nm s) : cl (n + 1) "is_name" [.str s] = .ok (.bl true) [none] := by
  obtain ⟨h1, h2, h3⟩ := h
  have main : ∃ d outs, cl (n + 1) "is_name" [.str s] = .ok d outs ∧ NmP d outs := by
    refine F_run (fd := i_is_name) rfl rfl ?_
    show WX (exs (run tbl.fds n) i_is_name.body [some (.str s), none]) _
    generalize run tbl.fds n = call
    unfold i_is_name
    decreasing_trivial_pre_omega
    refine W_lcloop (fun i acc ρ => ρ = [some (.str s), none] ∧ acc = List.replicate i (.bl true)) ⟨rfl, rfl⟩ ?_ (by simp [lim]; omega) ?_
    · rintro i x acc ρ hx ha ⟨rfl, rfl⟩
      have hi : i < s.length := by
        have := (List.getElem?_eq_some_iff.mp hx).1
        simpa using this
      have ex : x = .str [s[i]] := by
        rw [List.getElem?_map, List.getElem?_eq_getElem hi] at hx
        simpa using hx.symm
      subst ex
      have hc := h3 _ (List.getElem_mem hi)
      generalize s[i] = c at hc ⊢
      refine W_lcF rfl ?_
      decreasing_trivial_pre_omega
      have e1 : decide (c ∈ abc) = true := decide_eq_true hc
      rw [e1, List.replicate_succ']
    · rintro acc ρ ha ⟨rfl, rfl⟩
      decreasing_trivial_pre_omega
      all_goals (first | exact ⟨rfl, rfl⟩ | exact rfl)
  obtain ⟨d, outs, e, rfl, rfl⟩ := main
  exact e
def NsP (d : D) (outs : List (Option D)) : Prop := d = .non ∧ outs = [none, none]
set_option maxHeartbeats 1000000 in
theorem marksOk {n : Nat} (hn : ∀ s, nm s → cl n "is_name" [.str s] = .ok (.bl true) [none]) (b : Option Bool) (s : List Nat) (ms : List Mk) (hs : s.length ≤ 80) (hl : ms.length ≤ 40) (ho : ∀ m ∈ ms, m.ok s.length) : cl (n + 1) "need_marks" [.str s, seqL b (ms.map Mk.d)] = .ok .non [none, none] := by
  have main : ∃ d outs, cl (n + 1) "need_marks" [.str s, seqL b (ms.map Mk.d)] = .ok d outs ∧ NsP d outs := by
    refine F_run (fd := i_need_marks) rfl rfl ?_
    show WX (exs (run tbl.fds n) i_need_marks.body [some (.str s), some (seqL b (ms.map Mk.d)), none, none, none, none, none, none, none, none]) _
    unfold cl at hn
    generalize run tbl.fds n = call at hn ⊢
    unfold i_need_marks
    decreasing_trivial_pre_omega
    try refine W_useQ rfl (pure_ms _) ?_
    try dsimp only [List.set]
    decreasing_trivial_pre_omega
    refine I_enum (pure_ms _) ?_
    refine ⟨fun i ρ => ∃ x2 x3 x4 x5 x6 x7 x8, ρ = [some (.str s), some (seqL (frzB b) (ms.map Mk.d)), x2, x3, x4, x5, x6, x7, x8, none], ⟨_, _, _, _, _, _, _, rfl⟩, ?_, ?_⟩
    · rintro i x ρ hx ⟨x2, x3, x4, x5, x6, x7, x8, rfl⟩
      have hi : i < ms.length := by
        have := (List.getElem?_eq_some_iff.mp hx).1
        rw [enumD_len] at this; simpa using this
      have ex : x = .tup [.int (i : Int), (ms[i]).d] := by
        have := enumD_at 0 (ms.map Mk.d) i (ms[i]).d (by simp [hi])
        rw [this] at hx
        simpa using hx.symm
      subst ex
      have hm := ho _ (List.getElem_mem hi)
      generalize ms[i] = m at hm ⊢
      obtain ⟨hand, layer, first, past, word⟩ := m
      obtain ⟨n1, n2, n3, n4, n5⟩ := hm
      dsimp only at n1 n2 n3 n4 n5
      have hp : pureL [D.str hand, .str layer, .int (first : Int), .int (past : Int), .str word] = true := rfl
      refine ⟨_, rfl, ?_⟩
      try dsimp only [List.set]
      decreasing_trivial_pre_omega
      rw [show frzL [D.str hand, .str layer, .str word] = [D.str hand, .str layer, .str word] by simp [frzL, D.frz]]
      refine W_lcloop (fun k acc ρ => ρ = [some (.str s), some (seqL (frzB b) (ms.map Mk.d)), some (.int (i : Int)), some (.tup [.str hand, .str layer, .int (first : Int), .int (past : Int), .str word]), some (.str hand), some (.str layer), some (.int (first : Int)), some (.int (past : Int)), some (.str word), none] ∧ acc = List.replicate k (.bl true)) ⟨rfl, rfl⟩ ?_ (by simp [lim]) ?_
      · rintro k x acc ρ hx ha ⟨rfl, rfl⟩
        obtain ⟨z, rfl, hz⟩ : ∃ z, x = .str z ∧ nm z := by
          match k, hx with
          | 0, h => cases h; exact ⟨_, rfl, n1⟩
          | 1, h => cases h; exact ⟨_, rfl, n2⟩
          | 2, h => cases h; exact ⟨_, rfl, n3⟩
          | k + 3, h => simp at h
        refine W_lcF rfl ?_
        decreasing_trivial_pre_omega
        refine ⟨_, _, hn z hz, ?_⟩
        dsimp only [back, List.set]
        decreasing_trivial_pre_omega
        rw [List.replicate_succ']
      · rintro acc ρ ha ⟨rfl, rfl⟩
        decreasing_trivial_pre_omega
        exact ⟨_, _, _, _, _, _, _, rfl⟩
    · rintro ρ ⟨x2, x3, x4, x5, x6, x7, x8, rfl⟩
      decreasing_trivial_pre_omega
      all_goals (first | exact ⟨rfl, rfl⟩ | exact rfl)
  obtain ⟨d, outs, e, rfl, rfl⟩ := main
  exact e
end Lk33

namespace Lk33
open PySem L2 VI
def MarksOk (call : CallT) : Prop := ∀ h (body : List Nat) (most : Nat), G h → body.length ≤ 80 → most ≤ 40 → ∃ (ms : List Mk) (h' : D), call "_law_marks" [h, .str body, .int (most : Int)] = .ok (.lst true (ms.map Mk.d)) [some h', none, none] ∧ ms.length ≤ most ∧ (∀ m ∈ ms, m.ok body.length) ∧ G h'
def MaP (body : List Nat) (most : Nat) (d : D) (outs : List (Option D)) : Prop := ∃ (ms : List Mk) (h' : D), d = .lst true (ms.map Mk.d) ∧ outs = [some h', none, none] ∧ ms.length ≤ most ∧ (∀ m ∈ ms, m.ok body.length) ∧ G h'
theorem pick3 (x y z : List Nat) (r : Nat) (h : r < 3) : ∃ s, atI [D.str x, .str y, .str z] (r : Int) = some (.str s) ∧ (s = x ∨ s = y ∨ s = z) := by
  have : r = 0 ∨ r = 1 ∨ r = 2 := by omega
  rcases this with rfl | rfl | rfl
  · exact ⟨x, rfl, .inl rfl⟩
  · exact ⟨y, rfl, .inr (.inl rfl)⟩
  · exact ⟨z, rfl, .inr (.inr rfl)⟩
theorem pick2 (x y : List Nat) (r : Nat) (h : r < 2) : ∃ s, atI [D.str x, .str y] (r : Int) = some (.str s) ∧ (s = x ∨ s = y) := by
  have : r = 0 ∨ r = 1 := by omega
  rcases this with rfl | rfl
  · exact ⟨x, rfl, .inl rfl⟩
  · exact ⟨y, rfl, .inr rfl⟩
set_option maxHeartbeats 4000000 in
theorem lawMarksOk {n : Nat} (hn : NextOk (cl n)) : MarksOk (cl (n + 1)) := fun h body most g hb hm => by
  have main : ∃ d outs, cl (n + 1) "_law_marks" [h, .str body, .int (most : Int)] = .ok d outs ∧ MaP body most d outs := by
    refine F_run (fd := i_law_marks) rfl rfl ?_
    show WX (exs (run tbl.fds n) i_law_marks.body [some h, some (.str body), some (.int (most : Int)), none, none, none, none, none, none]) _
    unfold cl at hn
    generalize run tbl.fds n = call at hn ⊢
    unfold i_law_marks
    by_cases hb0 : body = []
    · subst hb0
      decreasing_trivial_pre_omega
      refine ⟨fun i ρ => ρ = [some h, some (.str []), some (.int (most : Int)), some (.lst true []), none, none, none, none, none], rfl, ?_, ?_⟩
      · intro i x ρ hx
        cases hx
      · rintro ρ rfl
        decreasing_trivial_pre_omega
        exact ⟨[], h, rfl, rfl, by simp, by simp, g⟩
    · have hpos : 1 ≤ body.length := List.length_pos_iff.mpr hb0
      have hne : ∀ z : List Nat, z = body → ¬ z = [] := fun z h1 h2 => hb0 (h1 ▸ h2)
      decreasing_trivial_pre_omega
      refine ⟨fun _ => ?_, fun z => absurd z (by simp [hb0])⟩
      decreasing_trivial_pre_omega
      obtain ⟨k, h0, e0, l0, g0⟩ := hn h ((most : Int) + 1) g (by omega) (by omega)
      refine ⟨_, _, e0, ?_⟩
      dsimp only [back, List.set]
      decreasing_trivial_pre_omega
      refine ⟨fun i ρ => ∃ (h' : D) (ms : List Mk) (x4 x5 x6 x7 x8 : Option D), ρ = [some h', some (.str body), some (.int (most : Int)), some (.lst true (ms.map Mk.d)), x4, x5, x6, x7, x8] ∧ G h' ∧ ms.length ≤ i ∧ ∀ m ∈ ms, m.ok body.length, ⟨h0, [], _, _, _, _, _, rfl, g0, Nat.le_refl _, by simp⟩, ?_, ?_⟩
      · rintro i x ρ hx ⟨h', ms, x4, x5, x6, x7, x8, rfl, gg, hi, ho⟩
        have hik : i < k := by
          have := (List.getElem?_eq_some_iff.mp hx).1
          rw [rngO_len] at this; simpa using this
        refine ⟨_, rfl, ?_⟩
        try dsimp only [List.set]
        decreasing_trivial_pre_omega
        obtain ⟨a, h1, e1, l1, g1⟩ := hn h' (body.length : Int) gg (by omega) (by omega)
        refine ⟨_, _, e1, ?_⟩
        dsimp only [back, List.set]
        decreasing_trivial_pre_omega
        obtain ⟨r2, h2, e2, l2, g2⟩ := hn h1 2 g1 (by decide) (by decide)
        refine ⟨_, _, e2, ?_⟩
        dsimp only [back, List.set]
        obtain ⟨v, hv, hv1⟩ : ∃ v : Int, atI [D.int 3, .int 80] (r2 : Int) = some (.int v) ∧ 2 ≤ v ∧ v ≤ 80 := by
          have : r2 = 0 ∨ r2 = 1 := by omega
          rcases this with rfl | rfl
          · exact ⟨3, rfl, by decide, by decide⟩
          · exact ⟨80, rfl, by decide, by decide⟩
        decreasing_trivial_pre_omega
        obtain ⟨r3, h3, e3, l3, g3⟩ := hn h2 (if v < (body.length : Int) - (a : Int) then v else (body.length : Int) - (a : Int)) g2 (by split <;> omega) (by split <;> omega)
        refine ⟨_, _, e3, ?_⟩
        dsimp only [back, List.set]
        have hc : (a : Int) + 1 + (r3 : Int) = ((a + 1 + r3 : Nat) : Int) := by omega
        have hle : a + 1 + r3 ≤ body.length := by split at l3 <;> omega
        decreasing_trivial_pre_omega
        rw [hc]
        obtain ⟨r4, h4, e4, l4, g4⟩ := hn h3 3 g3 (by decide) (by decide)
        obtain ⟨r5, h5, e5, l5, g5⟩ := hn h4 2 g4 (by decide) (by decide)
        obtain ⟨r6, h6, e6, l6, g6⟩ := hn h5 3 g5 (by decide) (by decide)
        obtain ⟨s1, p1, q1⟩ := pick3 [97, 110, 110] [98, 111, 98] [99, 121] r4 (by omega)
        obtain ⟨s2, p2, q2⟩ := pick2 [112, 111, 115] [110, 101, 114] r5 (by omega)
        obtain ⟨s3, p3, q3⟩ := pick3 [110] [118] [97, 100, 106] r6 (by omega)
        have n1 : nm s1 := by rcases q1 with rfl | rfl | rfl <;> exact ⟨by decide, by decide, by decide⟩
        have n2 : nm s2 := by rcases q2 with rfl | rfl <;> exact ⟨by decide, by decide, by decide⟩
        have n3 : nm s3 := by rcases q3 with rfl | rfl | rfl <;> exact ⟨by decide, by decide, by decide⟩
        refine ⟨_, _, e4, ?_⟩
        dsimp only [back, List.set]
        decreasing_trivial_pre_omega
        refine ⟨_, _, e5, ?_⟩
        dsimp only [back, List.set]
        decreasing_trivial_pre_omega
        refine ⟨_, _, e6, ?_⟩
        dsimp only [back, List.set]
        decreasing_trivial_pre_omega
        refine ⟨h6, ms ++ [⟨s1, s2, a, a + 1 + r3, s3⟩], _, _, _, _, _, by rw [List.map_append]; rfl, g6, by simp; omega, ?_⟩
        intro m hm
        rcases List.mem_append.mp hm with hm | hm
        · exact ho m hm
        · simp at hm
          subst hm
          exact ⟨n1, n2, n3, by simp; omega, hle⟩
      · rintro ρ ⟨h', ms, x4, x5, x6, x7, x8, rfl, gg, hi, ho⟩
        rw [rngO_len] at hi
        decreasing_trivial_pre_omega
        exact ⟨ms, h', rfl, rfl, by omega, ho, gg⟩
  obtain ⟨d, outs, e, ms, h', rfl, rfl, q⟩ := main
  exact ⟨ms, h', e, q⟩
end Lk33

namespace Lk33
open PySem L2 VI
def WdP (w : List Nat) (d : D) (outs : List (Option D)) : Prop := d = .str w ∧ outs = [none, none]
set_option maxHeartbeats 4000000 in
theorem wordOk (n : Nat) (f p g q : Nat) : cl (n + 1) "word_for" [.tup [.int (f : Int), .int (p : Int)], .tup [.int (g : Int), .int (q : Int)]] = .ok (.str (wordF f p g q)) [none, none] := by
  have main : ∃ d outs, cl (n + 1) "word_for" [.tup [.int (f : Int), .int (p : Int)], .tup [.int (g : Int), .int (q : Int)]] = .ok d outs ∧ WdP (wordF f p g q) d outs := by
    refine F_run (fd := i_word_for) rfl rfl ?_
    show WX (exs (run tbl.fds n) i_word_for.body [some (.tup [.int (f : Int), .int (p : Int)]), some (.tup [.int (g : Int), .int (q : Int)])]) _
    generalize run tbl.fds n = call
    unfold i_word_for
    unfold wordF
    by_cases h1 : f = g ∧ p = q
    · rw [if_pos h1]
      decreasing_trivial_pre_omega
      all_goals (first | exact ⟨rfl, rfl⟩ | exact rfl)
    rw [if_neg h1]
    by_cases h2 : p < g
    · rw [if_pos h2]
      decreasing_trivial_pre_omega
      all_goals (first | exact ⟨rfl, rfl⟩ | exact rfl)
    rw [if_neg h2]
    by_cases h3 : q < f
    · rw [if_pos h3]
      decreasing_trivial_pre_omega
      all_goals (first | exact ⟨rfl, rfl⟩ | exact rfl)
    rw [if_neg h3]
    by_cases h4 : p = g
    · rw [if_pos h4]
      decreasing_trivial_pre_omega
      all_goals (first | exact ⟨rfl, rfl⟩ | exact rfl)
    rw [if_neg h4]
    by_cases h5 : q = f
    · rw [if_pos h5]
      decreasing_trivial_pre_omega
      all_goals (first | exact ⟨rfl, rfl⟩ | exact rfl)
    rw [if_neg h5]
    by_cases h6 : f = g
    · rw [if_pos h6]
      by_cases h7 : p < q
      · rw [if_pos h7]
        decreasing_trivial_pre_omega
        all_goals (first | exact ⟨rfl, rfl⟩ | exact rfl)
      rw [if_neg h7]
      decreasing_trivial_pre_omega
      all_goals (first | exact ⟨rfl, rfl⟩ | exact rfl)
    rw [if_neg h6]
    by_cases h8 : p = q
    · rw [if_pos h8]
      by_cases h7 : g < f
      · rw [if_pos h7]
        decreasing_trivial_pre_omega
        all_goals (first | exact ⟨rfl, rfl⟩ | exact rfl)
      rw [if_neg h7]
      decreasing_trivial_pre_omega
      all_goals (first | exact ⟨rfl, rfl⟩ | exact rfl)
    rw [if_neg h8]
    by_cases h9 : g < f
    · rw [if_pos h9]
      by_cases h7 : p < q
      · rw [if_pos h7]
        decreasing_trivial_pre_omega
        all_goals (first | exact ⟨rfl, rfl⟩ | exact rfl)
      rw [if_neg h7]
      decreasing_trivial_pre_omega
      all_goals (first | exact ⟨rfl, rfl⟩ | exact rfl)
    rw [if_neg h9]
    by_cases h7 : q < p
    · rw [if_pos h7]
      decreasing_trivial_pre_omega
      all_goals (first | exact ⟨rfl, rfl⟩ | exact rfl)
    rw [if_neg h7]
    decreasing_trivial_pre_omega
    all_goals (first | exact ⟨rfl, rfl⟩ | exact rfl)
  obtain ⟨d, outs, e, rfl, rfl⟩ := main
  exact e
end Lk33

namespace Lk33
open PySem L2 VI
structure Rl (call : CallT) : Prop where
  need : ∀ (s : List Nat), s.length ≤ 80 → gd s → call "need_signs" [.str s] = .ok .non [none]
  mks : ∀ (b : Option Bool) (s : List Nat) (ms : List Mk), s.length ≤ 80 → ms.length ≤ 40 → (∀ m ∈ ms, m.ok s.length) → call "need_marks" [.str s, seqL b (ms.map Mk.d)] = .ok .non [none, none]
  wrd : ∀ (f p g q : Nat), call "word_for" [.tup [.int (f : Int), .int (p : Int)], .tup [.int (g : Int), .int (q : Int)]] = .ok (.str (wordF f p g q)) [none, none]
theorem rl (n : Nat) : Rl (cl (n + 2)) := ⟨fun s h g => needOk (n + 1) s h g, fun b s ms h1 h2 h3 => marksOk (n := n + 1) (fun s h => nameOk n s h) b s ms h1 h2 h3, fun f p g q => wordOk (n + 1) f p g q⟩
def ReP (ms : List Mk) (i j : Nat) (d : D) (outs : List (Option D)) : Prop := d = .str (wordF (spF ms i) (spP ms i) (spF ms j) (spP ms j)) ∧ outs = [none, none, none, none]
theorem mk_eta (m : Mk) : m.d = .tup [.str m.hand, .str m.layer, .int (m.first : Int), .int (m.past : Int), .str m.word] := rfl
set_option maxHeartbeats 2000000 in
theorem relOk {n : Nat} (lo : Rl (cl n)) (b : Option Bool) (s : List Nat) (ms : List Mk) (i j : Nat) (hs : s.length ≤ 80) (g : gd s) (hm : ms.length ≤ 40) (ho : ∀ m ∈ ms, m.ok s.length) (hi : i < ms.length) (hj : j < ms.length) : cl (n + 1) "relation" [.str s, seqL b (ms.map Mk.d), .int (i : Int), .int (j : Int)] = .ok (.str (wordF (spF ms i) (spP ms i) (spF ms j) (spP ms j))) [none, none, none, none] := by
  have main : ∃ d outs, cl (n + 1) "relation" [.str s, seqL b (ms.map Mk.d), .int (i : Int), .int (j : Int)] = .ok d outs ∧ ReP ms i j d outs := by
    refine F_run (fd := i_relation) rfl rfl ?_
    show WX (exs (run tbl.fds n) i_relation.body [some (.str s), some (seqL b (ms.map Mk.d)), some (.int (i : Int)), some (.int (j : Int)), none]) _
    unfold cl at lo
    generalize run tbl.fds n = call at lo ⊢
    unfold i_relation
    decreasing_trivial_pre_omega
    refine ⟨_, _, lo.need s hs g, ?_⟩
    dsimp only [back, List.set]
    decreasing_trivial_pre_omega
    try refine W_useQ rfl (pure_ms _) ?_
    try dsimp only [List.set]
    decreasing_trivial_pre_omega
    refine ⟨_, _, lo.mks _ s ms hs hm ho, ?_⟩
    dsimp only [back, List.set]
    decreasing_trivial_pre_omega
    rw [show frzL [D.int (i : Int), .int (j : Int)] = [D.int (i : Int), .int (j : Int)] by simp [frzL, D.frz]]
    refine ⟨fun _ ρ => ∃ x4, ρ = [some (.str s), some (seqL (frzB b) (ms.map Mk.d)), some (.int (i : Int)), some (.int (j : Int)), x4], ⟨_, rfl⟩, ?_, ?_⟩
    · rintro k x ρ hx ⟨x4, rfl⟩
      obtain ⟨v, rfl, hv⟩ : ∃ v : Nat, x = .int (v : Int) ∧ v < ms.length := by
        match k, hx with
        | 0, h => cases h; exact ⟨_, rfl, hi⟩
        | 1, h => cases h; exact ⟨_, rfl, hj⟩
        | k + 2, h => simp at h
      refine ⟨_, rfl, ?_⟩
      try dsimp only [List.set]
      decreasing_trivial_pre_omega
      exact ⟨_, rfl⟩
    · rintro ρ ⟨x4, rfl⟩
      have e1 := spF_at hi
      have e2 := spP_at hi
      have e3 := spF_at hj
      have e4 := spP_at hj
      unfold ReP
      rw [e1, e2, e3, e4]
      decreasing_trivial_pre_omega
      try refine seq_at hi ?_
      decreasing_trivial_pre_omega
      try refine seq_at hj ?_
      decreasing_trivial_pre_omega
      refine ⟨_, _, lo.wrd _ _ _ _, ?_⟩
      dsimp only [back, List.set]
      decreasing_trivial_pre_omega
      all_goals (first | exact ⟨rfl, rfl⟩ | exact rfl)
  obtain ⟨d, outs, e, rfl, rfl⟩ := main
  exact e
def CoP (ms : List Mk) (d : D) (outs : List (Option D)) : Prop := d = .lst true ((crF ms.length ms.length (crossB ms)).map pairD) ∧ outs = [none]
set_option maxHeartbeats 4000000 in
theorem crosOfOk {n : Nat} (lo : ∀ (f p g q : Nat), cl n "word_for" [.tup [.int (f : Int), .int (p : Int)], .tup [.int (g : Int), .int (q : Int)]] = .ok (.str (wordF f p g q)) [none, none]) (b : Option Bool) (N : Nat) (ms : List Mk) (hm : ms.length ≤ 40) (ho : ∀ m ∈ ms, m.ok N) : cl (n + 1) "crossings_of" [seqL b (ms.map Mk.d)] = .ok (.lst true ((crF ms.length ms.length (crossB ms)).map pairD)) [none] := by
  have main : ∃ d outs, cl (n + 1) "crossings_of" [seqL b (ms.map Mk.d)] = .ok d outs ∧ CoP ms d outs := by
    refine F_run (fd := i_crossings_of) rfl rfl ?_
    show WX (exs (run tbl.fds n) i_crossings_of.body [some (seqL b (ms.map Mk.d)), none, none, none]) _
    unfold cl at lo
    generalize run tbl.fds n = call at lo ⊢
    unfold i_crossings_of
    decreasing_trivial_pre_omega
    refine ⟨fun i ρ => ∃ x2 x3, ρ = [some (seqL b (ms.map Mk.d)), some (.lst true ((crF i ms.length (crossB ms)).map pairD)), x2, x3], ⟨_, _, rfl⟩, ?_, ?_⟩
    · rintro i x ρ hx ⟨x2, x3, rfl⟩
      obtain ⟨hi, rfl⟩ := rngO_at hx
      rw [List.length_map] at hi
      have hcl := crF_len ms.length (crossB ms) i
      have hcl2 : (crF i ms.length (crossB ms)).length ≤ 1600 := Nat.le_trans hcl (Nat.le_trans (Nat.mul_le_mul (by omega : i ≤ 40) hm) (by decide))
      refine ⟨_, rfl, ?_⟩
      try dsimp only [List.set]
      decreasing_trivial_pre_omega
      refine ⟨fun k ρ => ∃ x3, ρ = [some (seqL b (ms.map Mk.d)), some (.lst true ((crF i ms.length (crossB ms) ++ rowP i (i + 1 + k) (crossB ms)).map pairD)), some (.int (i : Int)), x3], ⟨x3, ?_⟩, ?_, ?_⟩
      · rw [rowP_low _ (by omega), List.append_nil]
      · rintro k x ρ hx ⟨x3, rfl⟩
        rw [List.length_map] at hx
        obtain ⟨hj, rfl⟩ := rngO2_at hx
        have hrl := rowP_len i (i + 1 + k) (crossB ms)
        have hsu := rowP_succ i (i + 1 + k) (crossB ms)
        rw [show i + 1 + k + 1 = i + 1 + (k + 1) by omega] at hsu
        generalize hjj : i + 1 + k = j at hj hrl hsu ⊢
        have hij : i < j := by omega
        have hci : (ms[i]).first < (ms[i]).past := (ho _ (List.getElem_mem hi)).2.2.2.1
        have hcj : (ms[j]).first < (ms[j]).past := (ho _ (List.getElem_mem hj)).2.2.2.1
        have hinc := in_cross hci hcj
        have hcb : crossB ms i j = decide (crossP (ms[i]).first (ms[i]).past (ms[j]).first (ms[j]).past) := by unfold crossB; rw [spF_at hi, spP_at hi, spF_at hj, spP_at hj]
        refine ⟨_, rfl, ?_⟩
        try dsimp only [List.set]
        decreasing_trivial_pre_omega
        try refine seq_at hi ?_
        decreasing_trivial_pre_omega
        try refine seq_at hj ?_
        decreasing_trivial_pre_omega
        refine ⟨_, _, lo _ _ _ _, ?_⟩
        dsimp only [back, List.set]
        decreasing_trivial_pre_omega
        rw [hinc]
        refine ⟨fun ht => ?_, fun ht => ?_⟩
        · have hb : crossB ms i j = true := by rw [hcb]; exact ht
          rw [if_pos (by rw [hb, decide_eq_true hij]; rfl)] at hsu
          have fin : (crF i ms.length (crossB ms) ++ (rowP i j (crossB ms) ++ [(i, j)])).map pairD = (crF i ms.length (crossB ms) ++ rowP i j (crossB ms)).map pairD ++ [pairD (i, j)] := by
            rw [← List.append_assoc, List.map_append]; rfl
          decreasing_trivial_pre_omega
          exact ⟨_, by rw [hsu, fin]; rfl⟩
        · have hb : crossB ms i j = false := by rw [hcb]; exact ht
          rw [if_neg (by rw [hb, Bool.and_false]; decide), List.append_nil] at hsu
          decreasing_trivial_pre_omega
          exact ⟨_, by rw [hsu]⟩
      · rintro ρ ⟨x3, rfl⟩
        rw [List.length_map, rngO2_len, show i + 1 + (ms.length - (i + 1)) = ms.length by omega, ← crF_succ]
        decreasing_trivial_pre_omega
        exact ⟨_, _, rfl⟩
    · rintro ρ ⟨x2, x3, rfl⟩
      rw [rngO_n, List.length_map]
      decreasing_trivial_pre_omega
      all_goals (first | exact ⟨rfl, rfl⟩ | exact rfl)
  obtain ⟨d, outs, e, rfl, rfl⟩ := main
  exact e
def CrP (ms : List Mk) (d : D) (outs : List (Option D)) : Prop := d = .lst true ((crF ms.length ms.length (crossB ms)).map pairD) ∧ outs = [none, none]
theorem crosOk {n : Nat} (need : ∀ (s : List Nat), s.length ≤ 80 → gd s → cl n "need_signs" [.str s] = .ok .non [none])
    (mks : ∀ (b : Option Bool) (s : List Nat) (ms : List Mk), s.length ≤ 80 → ms.length ≤ 40 → (∀ m ∈ ms, m.ok s.length) → cl n "need_marks" [.str s, seqL b (ms.map Mk.d)] = .ok .non [none, none])
    (crs : ∀ (b : Option Bool) (N : Nat) (ms : List Mk), ms.length ≤ 40 → (∀ m ∈ ms, m.ok N) → cl n "crossings_of" [seqL b (ms.map Mk.d)] = .ok (.lst true ((crF ms.length ms.length (crossB ms)).map pairD)) [none])
    (b : Option Bool) (s : List Nat) (ms : List Mk) (hs : s.length ≤ 80) (g : gd s) (hm : ms.length ≤ 40) (ho : ∀ m ∈ ms, m.ok s.length) : cl (n + 1) "crossings" [.str s, seqL b (ms.map Mk.d)] = .ok (.lst true ((crF ms.length ms.length (crossB ms)).map pairD)) [none, none] := by
  have main : ∃ d outs, cl (n + 1) "crossings" [.str s, seqL b (ms.map Mk.d)] = .ok d outs ∧ CrP ms d outs := by
    refine F_run (fd := i_crossings) rfl rfl ?_
    show WX (exs (run tbl.fds n) i_crossings.body [some (.str s), some (seqL b (ms.map Mk.d))]) _
    unfold cl at need mks crs
    generalize run tbl.fds n = call at need mks crs ⊢
    unfold i_crossings
    decreasing_trivial_pre_omega
    refine ⟨_, _, need s hs g, ?_⟩
    dsimp only [back, List.set]
    decreasing_trivial_pre_omega
    try refine W_useQ rfl (pure_ms _) ?_
    try dsimp only [List.set]
    decreasing_trivial_pre_omega
    refine ⟨_, _, mks _ s ms hs hm ho, ?_⟩
    dsimp only [back, List.set]
    decreasing_trivial_pre_omega
    try refine W_useQ rfl (pure_ms _) ?_
    try dsimp only [List.set]
    rw [frzB2]
    decreasing_trivial_pre_omega
    refine ⟨_, _, crs _ _ ms hm ho, ?_⟩
    dsimp only [back, List.set]
    decreasing_trivial_pre_omega
    all_goals (first | exact ⟨rfl, rfl⟩ | exact rfl)
  obtain ⟨d, outs, e, rfl, rfl⟩ := main
  exact e
end Lk33

namespace Lk33
open PySem L2 VI
def TrP (ms : List Mk) (d : D) (outs : List (Option D)) : Prop := ∃ T, d = .lst true (T.map tD) ∧ outs = [none, none] ∧ treeM ms T ms.length
set_option maxHeartbeats 8000000 in
theorem treeOfOk {n : Nat} (need : ∀ (s : List Nat), s.length ≤ 80 → gd s → cl n "need_signs" [.str s] = .ok .non [none])
    (mks : ∀ (b : Option Bool) (s : List Nat) (ms : List Mk), s.length ≤ 80 → ms.length ≤ 40 → (∀ m ∈ ms, m.ok s.length) → cl n "need_marks" [.str s, seqL b (ms.map Mk.d)] = .ok .non [none, none])
    (crs : ∀ (b : Option Bool) (N : Nat) (ms : List Mk), ms.length ≤ 40 → (∀ m ∈ ms, m.ok N) → cl n "crossings_of" [seqL b (ms.map Mk.d)] = .ok (.lst true ((crF ms.length ms.length (crossB ms)).map pairD)) [none])
    (b : Option Bool) (s : List Nat) (ms : List Mk) (hs : s.length ≤ 80) (g : gd s) (hm : ms.length ≤ 40) (ho : ∀ m ∈ ms, m.ok s.length) (hno : crF ms.length ms.length (crossB ms) = []) : ∃ T, cl (n + 1) "tree_of" [.str s, seqL b (ms.map Mk.d)] = .ok (.lst true (T.map tD)) [none, none] ∧ treeM ms T ms.length := by
  have main : ∃ d outs, cl (n + 1) "tree_of" [.str s, seqL b (ms.map Mk.d)] = .ok d outs ∧ TrP ms d outs := by
    refine F_run (fd := i_tree_of) rfl rfl ?_
    show WX (exs (run tbl.fds n) i_tree_of.body [some (.str s), some (seqL b (ms.map Mk.d)), none, none, none, none, none, none, none, none]) _
    have hc := crs (frzB b) s.length ms hm ho
    rw [hno] at hc
    unfold cl at need mks hc
    clear crs
    generalize run tbl.fds n = call at need mks hc ⊢
    unfold i_tree_of
    decreasing_trivial_pre_omega
    refine ⟨_, _, need s hs g, ?_⟩
    dsimp only [back, List.set]
    decreasing_trivial_pre_omega
    try refine W_useQ rfl (pure_ms _) ?_
    try dsimp only [List.set]
    decreasing_trivial_pre_omega
    refine ⟨_, _, mks _ s ms hs hm ho, ?_⟩
    dsimp only [back, List.set]
    decreasing_trivial_pre_omega
    try refine W_useQ rfl (pure_ms _) ?_
    try dsimp only [List.set]
    rw [frzB2]
    decreasing_trivial_pre_omega
    refine ⟨_, _, hc, ?_⟩
    dsimp only [back, List.set, List.map]
    decreasing_trivial_pre_omega
    refine ⟨fun i ρ => ρ = [some (.str s), some (seqL (frzB b) (ms.map Mk.d)), none, none, none, none, none, none, none, none], rfl, ?_, ?_⟩
    · intro i x ρ hx
      cases hx
    rintro ρ rfl
    decreasing_trivial_pre_omega
    try refine W_useQ rfl (pure_ms _) ?_
    try dsimp only [List.set]
    rw [frzB2]
    decreasing_trivial_pre_omega
    refine I_enum (pure_ms _) ?_
    refine ⟨fun i ρ => ∃ (T : List (Option Nat)) (x3 x4 x5 x6 x7 x8 x9 : Option D), ρ = [some (.str s), some (seqL (frzB b) (ms.map Mk.d)), some (.lst true (T.map tD)), x3, x4, x5, x6, x7, x8, x9] ∧ treeM ms T i, ⟨[], _, _, _, _, _, _, _, rfl, rfl, fun i hi => by omega⟩, ?_, ?_⟩
    · rintro i x ρ hx ⟨T, x3, x4, x5, x6, x7, x8, x9, rfl, hT⟩
      have hi : i < ms.length := by
        have := (List.getElem?_eq_some_iff.mp hx).1
        rw [enumD_len] at this; simpa using this
      have ex : x = .tup [.int (i : Int), (ms[i]).d] := by
        have := enumD_at 0 (ms.map Mk.d) i (ms[i]).d (by simp [hi])
        rw [this] at hx
        simpa using hx.symm
      subst ex
      have hTl : T.length ≤ 40 := by rw [hT.1]; omega
      have f1 := spF_at hi
      have f2 := spP_at hi
      rw [mk_eta, ← f1, ← f2]
      generalize ms[i] = mi
      refine ⟨_, rfl, ?_⟩
      try dsimp only [List.set]
      decreasing_trivial_pre_omega
      try refine W_useQ rfl (pure_ms _) ?_
      try dsimp only [List.set]
      rw [frzB2]
      decreasing_trivial_pre_omega
      refine I_enum (pure_ms _) ?_
      refine ⟨fun j ρ => ∃ (y4 y8 y9 : Option D), ρ = [some (.str s), some (seqL (frzB b) (ms.map Mk.d)), some (.lst true (T.map tD)), x3, y4, some (.int (i : Int)), some (.tup [.str mi.hand, .str mi.layer, .int (spF ms i : Int), .int (spP ms i : Int), .str mi.word]), some (.lst true ((hlF ms i j).map (hpD ms))), y8, y9], ⟨_, _, _, rfl⟩, ?_, ?_⟩
      · rintro j x ρ hx ⟨y4, y8, y9, rfl⟩
        have hj : j < ms.length := by
          have := (List.getElem?_eq_some_iff.mp hx).1
          rw [enumD_len] at this; simpa using this
        have ex : x = .tup [.int (j : Int), (ms[j]).d] := by
          have := enumD_at 0 (ms.map Mk.d) j (ms[j]).d (by simp [hj])
          rw [this] at hx
          simpa using hx.symm
        subst ex
        have g1 := spF_at hj
        have g2 := spP_at hj
        rw [mk_eta, ← g1, ← g2]
        generalize ms[j] = mj
        have hlen := hlF_len ms i j
        have hsu := hlF_succ ms i j
        have fin : (hlF ms i (j + 1)).map (hpD ms) = (hlF ms i j).map (hpD ms) ++ (if holdB ms i j = true then [hpD ms j] else []) := by
          rw [hsu, List.map_append]; split <;> rfl
        by_cases hb : holdB ms i j = true
        · rw [if_pos hb] at fin
          have hb' := of_decide_eq_true hb
          obtain ⟨c1, c2, c3, c4⟩ := hb'
          refine ⟨_, rfl, ?_⟩
          try dsimp only [List.set]
          by_cases c5 : spF ms j = spF ms i ∧ spP ms j = spP ms i
          · have c6 : j < i := by rcases c4 with z | z; exact absurd c5 z; exact z
            decreasing_trivial_pre_omega
            exact ⟨_, _, _, by first | (rw [fin]; done) | (rw [fin]; rfl)⟩
          · decreasing_trivial_pre_omega
            exact ⟨_, _, _, by first | (rw [fin]; done) | (rw [fin]; rfl)⟩
        · rw [if_neg hb, List.append_nil] at fin
          have hb' : ¬ (j ≠ i ∧ spF ms j ≤ spF ms i ∧ spP ms i ≤ spP ms j ∧ (¬ (spF ms j = spF ms i ∧ spP ms j = spP ms i) ∨ j < i)) := fun z => hb (decide_eq_true z)
          refine ⟨_, rfl, ?_⟩
          try dsimp only [List.set]
          by_cases c1 : j = i
          · decreasing_trivial_pre_omega
            exact ⟨_, _, _, by first | (rw [fin]; done) | (rw [fin]; rfl)⟩
          by_cases c2 : spF ms j ≤ spF ms i
          · by_cases c3 : spP ms i ≤ spP ms j
            · have c4 : spF ms j = spF ms i ∧ spP ms j = spP ms i := by omega
              have c5 : ¬ j < i := by omega
              decreasing_trivial_pre_omega
              exact ⟨_, _, _, by first | (rw [fin]; done) | (rw [fin]; rfl)⟩
            · decreasing_trivial_pre_omega
              exact ⟨_, _, _, by first | (rw [fin]; done) | (rw [fin]; rfl)⟩
          · decreasing_trivial_pre_omega
            exact ⟨_, _, _, by first | (rw [fin]; done) | (rw [fin]; rfl)⟩
      · rintro ρ ⟨y4, y8, y9, rfl⟩
        rw [enumD_len, List.length_map]
        have hmem := fun j => hlF_mem (ms := ms) (i := i) (k := ms.length) (j := j)
        generalize hlF ms i ms.length = hl at hmem
        cases hl with
        | nil =>
          dsimp only [List.map]
          decreasing_trivial_pre_omega
          refine ⟨T ++ [none], _, _, _, _, _, _, _, by rw [List.map_append]; rfl, treeM_snoc hT (fun _ j hj => ?_) (fun j z => by cases z)⟩
          cases hh : holdB ms i j with
          | false => rfl
          | true => exact absurd ((hmem j).mpr ⟨hj, hh⟩) (by simp)
        | cons k l =>
          decreasing_trivial_pre_omega
          try refine O_neH ?_
          decreasing_trivial_pre_omega
          try refine O_minH2 fun j hj hl => ?_
          obtain ⟨hj1, hj2⟩ := (hmem j).mp hj
          decreasing_trivial_pre_omega
          rw [show (0 : Int) - (0 - (j : Int)) = (j : Int) by omega]
          refine ⟨T ++ [some j], _, _, _, _, _, _, _, by rw [List.map_append]; rfl, treeM_snoc hT (fun z => by cases z) (fun j' z => by cases z; exact ⟨hj1, hj2, fun i h1 h2 => hl i ((hmem i).mpr ⟨h1, h2⟩)⟩)⟩
    · rintro ρ ⟨T, x3, x4, x5, x6, x7, x8, x9, rfl, hT⟩
      rw [enumD_len, List.length_map] at hT
      decreasing_trivial_pre_omega
      exact ⟨T, rfl, rfl, hT⟩
  obtain ⟨d, outs, e, T, rfl, rfl, hT⟩ := main
  exact ⟨T, e, hT⟩
end Lk33

namespace Lk33
open PySem L2 VI
/-- what rows_for tells -/
def rowsD (ms : List Mk) : List D := (List.range ms.length).map fun i => .int (rowAt (rR (spF ms) (spP ms) (ordF ms)) i : Int)
def rowsN (ms : List Mk) : Nat := (rE (spF ms) (spP ms) (ordF ms)).length
def spotO (L : Nat) (ms : List Mk) : Option Nat := (List.range L).find? fun a => decide ((covL (spF ms) (spP ms) ms.length a).length = rowsN ms)
theorem mo_appN {l : List Nat} {x : Nat} (hl : l.length < 10000) : moD .append (.lst true (nat' l)) [.int (x : Int)] = some (.lst true (nat' (l ++ [x])), .non) := by
  simp only [moD]
  rw [if_pos (by rw [nat_len]; simp [lim]; omega), ← nat_app]
  rfl
theorem rE_len (F P : Nat → Nat) (l : List Nat) : ∀ k, (rE F P (l.take k)).length ≤ k
  | 0 => Nat.le_refl 0
  | k + 1 => by
    have ih := rE_len F P l k
    by_cases h : k < l.length
    · rw [List.take_succ_eq_append_getElem h]
      unfold rE
      rw [rst_snoc]
      show (putR _ _ _).length ≤ _
      unfold putR
      split
      · rw [List.length_set]; omega
      · rw [List.length_append]; simp; omega
    · rw [List.take_of_length_le (by omega)]
      rw [List.take_of_length_le (by omega)] at ih
      omega
def RoP (L : Nat) (ms : List Mk) (d : D) (outs : List (Option D)) : Prop := d = .tup [.lst false (rowsD ms), if ms.length = 0 then .non else tD (spotO L ms)] ∧ outs = [none, none]
set_option maxHeartbeats 8000000 in
theorem rowsOk {n : Nat} (need : ∀ (s : List Nat), s.length ≤ 80 → gd s → cl n "need_signs" [.str s] = .ok .non [none])
    (mks : ∀ (b : Option Bool) (s : List Nat) (ms : List Mk), s.length ≤ 80 → ms.length ≤ 40 → (∀ m ∈ ms, m.ok s.length) → cl n "need_marks" [.str s, seqL b (ms.map Mk.d)] = .ok .non [none, none])
    (b : Option Bool) (s : List Nat) (ms : List Mk) (hs : s.length ≤ 80) (g : gd s) (hm : ms.length ≤ 40) (ho : ∀ m ∈ ms, m.ok s.length) : cl (n + 1) "rows_for" [.str s, seqL b (ms.map Mk.d)] = .ok (.tup [.lst false (rowsD ms), if ms.length = 0 then .non else tD (spotO s.length ms)]) [none, none] := by
  have main : ∃ d outs, cl (n + 1) "rows_for" [.str s, seqL b (ms.map Mk.d)] = .ok d outs ∧ RoP s.length ms d outs := by
    refine F_run (fd := i_rows_for) rfl rfl ?_
    show WX (exs (run tbl.fds n) i_rows_for.body [some (.str s), some (seqL b (ms.map Mk.d)), none, none, none, none, none, none, none, none, none, none, none]) _
    unfold cl at need mks
    generalize run tbl.fds n = call at need mks ⊢
    unfold i_rows_for
    decreasing_trivial_pre_omega
    refine ⟨_, _, need s hs g, ?_⟩
    dsimp only [back, List.set]
    decreasing_trivial_pre_omega
    try refine W_useQ rfl (pure_ms _) ?_
    try dsimp only [List.set]
    decreasing_trivial_pre_omega
    refine ⟨_, _, mks _ s ms hs hm ho, ?_⟩
    dsimp only [back, List.set]
    decreasing_trivial_pre_omega
    refine ⟨W_sortK (keyG ms) ?_⟩
    decreasing_trivial_pre_omega
    refine ⟨⟨_, rfl, by rw [List.length_map]; omega, rfl, ?_, ?_⟩⟩
    · intro i hi
      have hi : i < ms.length := by rw [List.length_map] at hi; exact hi
      have e1 := spF_at hi
      have e2 := spP_at hi
      decreasing_trivial_pre_omega
      try refine seq_at hi ?_
      decreasing_trivial_pre_omega
      try refine seq_at hi ?_
      decreasing_trivial_pre_omega
      refine ⟨?_, keyG_ne _ _⟩
      unfold keyG
      rw [show ((i : Int)).toNat = i from by simp, e1, e2]; rfl
    rw [show (ms.map Mk.d).length = ms.length from List.length_map .., ord_nat]
    refine I_seq (b := some true) (pure_nats _) ?_
    have olen := ord_len ms
    refine ⟨fun i ρ => ∃ (x2 x6 x7 x8 : Option D), ρ = [some (.str s), some (seqL (frzB b) (ms.map Mk.d)), x2, none, some (.lst true (nat' (rE (spF ms) (spP ms) ((ordF ms).take i)))), some (.dic true (ik (rowT (rR (spF ms) (spP ms) ((ordF ms).take i))))), x6, x7, x8, none, none, none, none], ⟨_, _, _, _, rfl⟩, ?_, ?_⟩
    · rintro k x ρ hx ⟨x2, x6, x7, x8, rfl⟩
      have hk : k < (ordF ms).length := by
        have := (List.getElem?_eq_some_iff.mp hx).1
        rw [nat_len] at this; exact this
      have ex : x = .int (((ordF ms)[k] : Nat) : Int) := by
        have := nats_at hk
        rw [atD_nat (by rw [nat_len]; omega), hx] at this
        simpa using this
      subst ex
      have ri := ord_RI ho k
      have tk : (ordF ms).take (k + 1) = (ordF ms).take k ++ [(ordF ms)[k]] := List.take_succ_eq_append_getElem hk
      have hi : (ordF ms)[k] < ms.length := ord_lt (List.getElem_mem hk)
      have hout : (ordF ms)[k] ∉ (ordF ms).take k := fun z => by
        obtain ⟨m, hm', e⟩ := List.mem_take_iff_getElem.mp z
        have := (List.getElem_inj (ord_nd ms)).mp e
        omega
      have rlen : (rR (spF ms) (spP ms) ((ordF ms).take k)).length = ((ordF ms).take k).length := by
        have := congrArg List.length (rst_keys (spF ms) (spP ms) ((ordF ms).take k))
        rwa [List.length_map] at this
      have hsn := rst_snoc (spF ms) (spP ms) ((ordF ms).take k) (ordF ms)[k]
      refine ⟨_, rfl, ?_⟩
      try dsimp only [List.set]
      unfold rE rR
      rw [tk, hsn]
      dsimp only
      generalize (ordF ms)[k] = i at hi hout ⊢
      have hd := mk_lt ho hi
      generalize hE : rE (spF ms) (spP ms) ((ordF ms).take k) = E
      have hE' : (rst (spF ms) (spP ms) ((ordF ms).take k)).1 = E := hE
      generalize hR : rR (spF ms) (spP ms) ((ordF ms).take k) = R at rlen
      have hR' : (rst (spF ms) (spP ms) ((ordF ms).take k)).2 = R := hR
      rw [hE', hR']
      have hfl := freeR_le E (spF ms i)
      have hel : E.length ≤ 40 := by
        have := rE_len (spF ms) (spP ms) (ordF ms) k
        rw [hE] at this; omega
      decreasing_trivial_pre_omega
      try refine seq_at hi ?_
      decreasing_trivial_pre_omega
      have hcut : ∀ (a b c d e : D), cutD [a, b, c, d, e] (some 2) (some 4) = [c, d] := fun _ _ _ _ _ => rfl
      rw [hcut, ← spF_at hi, ← spP_at hi]
      generalize spF ms i = f at *
      generalize spP ms i = p at *
      decreasing_trivial_pre_omega
      refine ⟨W_lcE rfl (by rw [intsO_nat]; rfl) ?_⟩
      dsimp only [List.set, wipeD]
      refine W_lcloop (fun j acc ρ => ρ = [some (.str s), some (seqL (frzB b) (ms.map Mk.d)), some (.int (i : Int)), none, none, some (.dic true (ik (rowT R))), x6, some (.int (f : Int)), some (.int (p : Int)), none, none, none, none] ∧ acc = nat' ((List.range j).filter fun r => decide (E.getD r 0 ≤ f))) ⟨rfl, rfl⟩ ?_ (by rw [enumD_len, nat_len]; simp [lim]; omega) ?_
      · rintro j x acc ρ hx ha ⟨rfl, rfl⟩
        have hj : j < E.length := by
          have := (List.getElem?_eq_some_iff.mp hx).1
          rw [enumD_len, nat_len] at this; exact this
        have hxe : x = .tup [.int (j : Int), .int ((E.getD j 0 : Nat) : Int)] := by
          have h1 := enumD_at 0 (nat' E) j (.int ((E.getD j 0 : Nat) : Int)) (by unfold nat'; rw [List.getElem?_map, List.getElem?_eq_getElem hj]; simp [List.getElem?_eq_getElem hj])
          rw [hx] at h1
          simpa using h1
        subst hxe
        rw [List.range_succ, List.filter_append, List.filter_cons, ← nat_app]
        generalize E.getD j 0 = e
        refine W_lcF1 rfl ?_
        decreasing_trivial_pre_omega
        refine ⟨fun hc => ?_, fun hc => ?_⟩
        · have hc : e ≤ f := by have := of_decide_eq_true hc; omega
          decreasing_trivial_pre_omega
          rw [decide_eq_true hc]
          first | exact rfl | exact ⟨rfl, rfl⟩
        · have hc : ¬ e ≤ f := by have := of_decide_eq_false hc; omega
          rw [decide_eq_false hc]
          first | exact (List.append_nil _).symm | exact ⟨rfl, (List.append_nil _).symm⟩
      rintro acc ρ ha ⟨rfl, rfl⟩
      rw [enumD_len, nat_len]
      have hfr : (List.range E.length).filter (fun r => decide (E.getD r 0 ≤ f)) = freL E f := rfl
      rw [hfr]
      try dsimp only [List.set]
      decreasing_trivial_pre_omega
      have hi' : i ∉ R.map (·.1) := by rw [← hR, rst_keys]; exact hout
      have hnew := rowT_out hi'
      have hl : (rowT R).length < lim := by rw [rowT_len, rlen, List.length_take]; simp [lim]; omega
      refine ⟨fun hc => ?_, fun hc => ?_⟩
      · have hc := freL_nil.mp (of_decide_eq_true hc)
        have e1 : putR E (freeR E f) p = E ++ [p] := by unfold putR; rw [if_neg hc]
        have e2 : freeR E f = E.length := by omega
        rw [e1, e2]
        decreasing_trivial_pre_omega
        refine ⟨_, _, mo_appN (by omega), ?_⟩
        decreasing_trivial_pre_omega
        rw [show (((nat' (E ++ [p])).length : Nat) : Int) - 1 = (E.length : Int) from by rw [nat_len]; simp]
        refine ex_iput hnew hl ?_
        rw [rowT_snoc]
        decreasing_trivial_pre_omega
        exact ⟨_, _, _, _, rfl⟩
      · have hc : freeR E f < E.length := by
          have h1 := of_decide_eq_false hc
          by_cases h : freeR E f < E.length
          · exact h
          · exact absurd (freL_nil.mpr h) h1
        have e1 : putR E (freeR E f) p = E.set (freeR E f) p := by unfold putR; rw [if_pos hc]
        have h0 := freL_first (E := E) (f := f)
        rw [if_pos hc] at h0
        have h0 := nat_first h0
        rw [e1]
        generalize freeR E f = r at *
        decreasing_trivial_pre_omega
        refine ⟨_, _, nat_set hc, ?_⟩
        decreasing_trivial_pre_omega
        refine ex_iput hnew hl ?_
        rw [rowT_snoc]
        decreasing_trivial_pre_omega
        exact ⟨_, _, _, _, rfl⟩
    rintro ρ ⟨x2, x6, x7, x8, rfl⟩
    rw [nat_len, List.take_length]
    have ri := ord_RIa ho
    have hnone := ri.none (ord_perm ms)
    have hrw := fun i hi => ri.row (i := i) (ord_perm ms) hi
    have hel : (rE (spF ms) (spP ms) (ordF ms)).length ≤ 40 := by
      have := rE_len (spF ms) (spP ms) (ordF ms) (ordF ms).length
      rw [List.take_length] at this; omega
    unfold RoP rowsD spotO rowsN
    have hge := ri.cov_ge (ord_perm ms)
    have hle := ri.cov_le (ord_perm ms)
    have hky := rst_keys (spF ms) (spP ms) (ordF ms)
    have hperm := ord_perm ms
    generalize hE : rE (spF ms) (spP ms) (ordF ms) = E at *
    generalize hR : rR (spF ms) (spP ms) (ordF ms) = R at *
    decreasing_trivial_pre_omega
    refine ⟨fun hc => ?_, fun hc => ?_⟩
    · have hc : E = [] := of_decide_eq_true hc
      have hz : ms.length = 0 := hnone.mp (by rw [hc]; rfl)
      decreasing_trivial_pre_omega
      rw [if_pos hz, hz]
      exact ⟨rfl, rfl⟩
    have hc : ¬ E = [] := of_decide_eq_false hc
    have hz : ¬ ms.length = 0 := fun z => hc (List.length_eq_zero_iff.mp (hnone.mpr z))
    decreasing_trivial_pre_omega
    refine W_lcloop (fun j acc ρ => ρ = [some (.str s), some (seqL (frzB b) (ms.map Mk.d)), x2, none, some (.lst true (nat' E)), some (.dic true (ik (rowT R))), x6, x7, x8, none, none, none, none] ∧ acc = nat' ((List.range j).map fun a => (covL (spF ms) (spP ms) ms.length a).length)) ⟨rfl, rfl⟩ ?_ (by rw [rngO_len]; simp [lim]; omega) ?_
    · rintro j x acc ρ hx ha ⟨rfl, rfl⟩
      obtain ⟨hj, rfl⟩ := rngO_at hx
      refine W_lcF rfl ?_
      decreasing_trivial_pre_omega
      rw [frzB2]
      refine I_seq (pure_ms _) ?_
      refine W_lcloop (fun q acc ρ => ρ = [some (.str s), some (seqL (frzB b) (ms.map Mk.d)), x2, none, some (.lst true (nat' E)), some (.dic true (ik (rowT R))), x6, x7, x8, some (.int (j : Int)), none, none, none] ∧ acc = ((ms.take q).filter fun m => decide (m.first ≤ j ∧ j < m.past)).map Mk.d) ⟨rfl, rfl⟩ ?_ (by rw [List.length_map]; simp [lim]; omega) ?_
      · rintro q x acc ρ hx ha2 ⟨rfl, rfl⟩
        have hq : q < ms.length := by
          have := (List.getElem?_eq_some_iff.mp hx).1
          rw [List.length_map] at this; exact this
        have ex : x = (ms[q]).d := by
          rw [List.getElem?_map, List.getElem?_eq_getElem hq] at hx
          exact (Option.some.inj hx).symm
        subst ex
        rw [List.take_succ_eq_append_getElem hq, List.filter_append, List.map_append, List.filter_cons]
        generalize ms[q] = m
        refine W_lcF1 rfl ?_
        rw [mk_eta]
        decreasing_trivial_pre_omega
        refine ⟨fun h1 => ?_, fun h1 => ?_⟩
        · have h1 : m.first ≤ j := by have := of_decide_eq_true h1; omega
          decreasing_trivial_pre_omega
          refine ⟨fun h2 => ?_, fun h2 => ?_⟩
          · have h2 : j < m.past := by have := of_decide_eq_true h2; omega
            decreasing_trivial_pre_omega
            rw [if_pos (decide_eq_true ⟨h1, h2⟩)]
            first | exact rfl | exact ⟨rfl, rfl⟩
          · have h2 : ¬ j < m.past := by have := of_decide_eq_false h2; omega
            rw [if_neg (fun z => h2 (of_decide_eq_true z).2)]
            first | exact (List.append_nil _).symm | exact ⟨rfl, (List.append_nil _).symm⟩
        · have h1 : ¬ m.first ≤ j := by have := of_decide_eq_false h1; omega
          decreasing_trivial_pre_omega
          rw [if_neg (fun z => h1 (of_decide_eq_true z).1)]
          first | exact (List.append_nil _).symm | exact ⟨rfl, (List.append_nil _).symm⟩
      rintro acc ρ ha2 ⟨rfl, rfl⟩
      rw [List.length_map, List.take_length]
      try dsimp only [List.set]
      decreasing_trivial_pre_omega
      rw [List.length_map, cov_marks, List.range_succ, List.map_append, ← nat_app]
      rfl
    rintro acc ρ ha ⟨rfl, rfl⟩
    rw [rngO_n]
    try dsimp only [List.set]
    decreasing_trivial_pre_omega
    refine W_lcloop (fun q acc ρ => ρ = [some (.str s), some (seqL (frzB b) (ms.map Mk.d)), none, some (.lst true (nat' ((List.range s.length).map fun a => (covL (spF ms) (spP ms) ms.length a).length))), some (.lst true (nat' E)), some (.dic true (ik (rowT R))), x6, x7, x8, none, none, none, none] ∧ acc = (List.range q).map fun i => .int (rowAt R i : Int)) ⟨rfl, rfl⟩ ?_ (by rw [rngO_len, List.length_map]; simp [lim]; omega) ?_
    · rintro q x acc ρ hx ha2 ⟨rfl, rfl⟩
      obtain ⟨hq, rfl⟩ := rngO_at hx
      rw [List.length_map] at hq
      refine W_lcF rfl ?_
      have hin : q ∈ R.map (·.1) := by rw [hky]; exact hperm.mem_iff.mpr (List.mem_range.mpr hq)
      decreasing_trivial_pre_omega
      refine OI_dget (rowT_get hin) rfl ?_
      decreasing_trivial_pre_omega
      rw [List.range_succ, List.map_append]
      rfl
    rintro acc ρ ha2 ⟨rfl, rfl⟩
    rw [rngO_n, List.length_map]
    have hpure : pureL ((List.range ms.length).map fun i => D.int (rowAt R i : Int)) = true := by
      have : ∀ l : List Nat, pureL (l.map fun i => D.int (rowAt R i : Int)) = true := by
        intro l
        induction l with
        | nil => rfl
        | cons a l ih => simp only [List.map_cons, pureL, D.pure, ih, Bool.and_self]
      exact this _
    refine fzP_L hpure ?_
    decreasing_trivial_pre_omega
    obtain ⟨a0, ha0⟩ : ∃ a, (List.range s.length).find? (fun a => decide ((covL (spF ms) (spP ms) ms.length a).length = E.length)) = some a := by
      obtain ⟨a, h1, h2⟩ := hge
      have h3 := hle a
      have h4 : a < s.length := by
        rcases h2 with h2 | ⟨i, hi, h2⟩
        · exact absurd (hnone.mp h2) hz
        · have := (mk_lt ho hi).2; omega
      cases hf : (List.range s.length).find? (fun a => decide ((covL (spF ms) (spP ms) ms.length a).length = E.length)) with
      | some a => exact ⟨a, rfl⟩
      | none =>
        rw [List.find?_eq_none] at hf
        exact absurd (decide_eq_true (show (covL (spF ms) (spP ms) ms.length a).length = E.length by omega)) (hf a (List.mem_range.mpr h4))
    have hidx : idxO (.lst true (nat' ((List.range s.length).map fun a => (covL (spF ms) (spP ms) ms.length a).length))) [.int (E.length : Int)] = some (.int (a0 : Int)) := by
      simp only [idxO, intsO_nat, Option.bind_some, List.map_map]
      have := idxI_range (fun a => (covL (spF ms) (spP ms) ms.length a).length) E.length s.length 0
      rw [← List.range_eq_range', ha0] at this
      show (idxI _ _).map _ = _
      rw [show ((fun k : Nat => (k : Int)) ∘ fun a => (covL (spF ms) (spP ms) ms.length a).length) = fun a => (((covL (spF ms) (spP ms) ms.length a).length : Nat) : Int) from rfl, this]
      rfl
    rw [ha0]
    rw [nat_len]
    refine ⟨_, hidx, ?_⟩
    refine ⟨by simp only [D.pure, Bool.not_false, Bool.true_and]; exact hpure, ?_⟩
    decreasing_trivial_pre_omega
    rw [if_neg hz]
    exact ⟨rfl, rfl⟩
  obtain ⟨d, outs, e, rfl, rfl⟩ := main
  exact e
end Lk33

namespace Lk33
open PySem L2 VI
structure Top (call : CallT) : Prop where
  nxt : NextOk call
  mix : ∀ (ns : List Int) (seed : Int), ns.length ≤ 63 → ∃ h outs, call "_law_mix" [.scr ns, .int seed] = .ok h outs ∧ outs = [none, none] ∧ G h
  sgn : SignsOk call
  mrk : MarksOk call
  rws : ∀ (b : Option Bool) (s : List Nat) (ms : List Mk), s.length ≤ 80 → gd s → ms.length ≤ 40 → (∀ m ∈ ms, m.ok s.length) → call "rows_for" [.str s, seqL b (ms.map Mk.d)] = .ok (.tup [.lst false (rowsD ms), if ms.length = 0 then .non else tD (spotO s.length ms)]) [none, none]
  crs : ∀ (b : Option Bool) (s : List Nat) (ms : List Mk), s.length ≤ 80 → gd s → ms.length ≤ 40 → (∀ m ∈ ms, m.ok s.length) → call "crossings" [.str s, seqL b (ms.map Mk.d)] = .ok (.lst true ((crF ms.length ms.length (crossB ms)).map pairD)) [none, none]
  rel : ∀ (b : Option Bool) (s : List Nat) (ms : List Mk) (i j : Nat), s.length ≤ 80 → gd s → ms.length ≤ 40 → (∀ m ∈ ms, m.ok s.length) → i < ms.length → j < ms.length → call "relation" [.str s, seqL b (ms.map Mk.d), .int (i : Int), .int (j : Int)] = .ok (.str (wordF (spF ms i) (spP ms i) (spF ms j) (spP ms j))) [none, none, none, none]
  tre : ∀ (b : Option Bool) (s : List Nat) (ms : List Mk), s.length ≤ 80 → gd s → ms.length ≤ 40 → (∀ m ∈ ms, m.ok s.length) → crF ms.length ms.length (crossB ms) = [] → ∃ T, call "tree_of" [.str s, seqL b (ms.map Mk.d)] = .ok (.lst true (T.map tD)) [none, none] ∧ treeM ms T ms.length
theorem need (n : Nat) (s : List Nat) (h : s.length ≤ 80) (g : gd s) : cl (n + 1) "need_signs" [.str s] = .ok .non [none] := needOk n s h g
theorem mks (n : Nat) (b : Option Bool) (s : List Nat) (ms : List Mk) (h1 : s.length ≤ 80) (h2 : ms.length ≤ 40) (h3 : ∀ m ∈ ms, m.ok s.length) : cl (n + 2) "need_marks" [.str s, seqL b (ms.map Mk.d)] = .ok .non [none, none] := marksOk (n := n + 1) (fun s h => nameOk n s h) b s ms h1 h2 h3
theorem crof (n : Nat) (b : Option Bool) (N : Nat) (ms : List Mk) (hm : ms.length ≤ 40) (ho : ∀ m ∈ ms, m.ok N) : cl (n + 2) "crossings_of" [seqL b (ms.map Mk.d)] = .ok (.lst true ((crF ms.length ms.length (crossB ms)).map pairD)) [none] := crosOfOk (n := n + 1) (fun f p g q => wordOk n f p g q) b N ms hm ho
theorem top : Top (cl 4) where
  nxt := nextOk 3
  mix := fun ns seed h => mix_ok 3 ns seed h
  sgn := signsOk (n := 3) (nextOk 2)
  mrk := lawMarksOk (n := 3) (nextOk 2)
  rws := fun b s ms h1 h2 h3 h4 => rowsOk (n := 3) (fun s h g => need 2 s h g) (fun b s ms h1 h2 h3 => mks 1 b s ms h1 h2 h3) b s ms h1 h2 h3 h4
  crs := fun b s ms h1 h2 h3 h4 => crosOk (n := 3) (fun s h g => need 2 s h g) (fun b s ms h1 h2 h3 => mks 1 b s ms h1 h2 h3) (fun b N ms h1 h2 => crof 1 b N ms h1 h2) b s ms h1 h2 h3 h4
  rel := fun b s ms i j h1 h2 h3 h4 h5 h6 => relOk (n := 3) (rl 1) b s ms i j h1 h2 h3 h4 h5 h6
  tre := fun b s ms h1 h2 h3 h4 h5 => treeOfOk (n := 3) (fun s h g => need 2 s h g) (fun b s ms h1 h2 h3 => mks 1 b s ms h1 h2 h3) (fun b N ms h1 h2 => crof 1 b N ms h1 h2) b s ms h1 h2 h3 h4 h5
/-! ### facts of the law -/
theorem intsO_app1 (l : List Nat) (c : Int) : intsO (nat' l ++ [.int c]) = some (l.map (fun k : Nat => (k : Int)) ++ [c]) := by
  induction l with
  | nil => rfl
  | cons x l ih =>
    show intsO (.int (x : Int) :: (nat' l ++ [.int c])) = _
    simp only [intsO, ih]; rfl
theorem O_maxC {l : List Nat} {b : Bool} {c m : Int} {Qd : D → Prop} (h1 : m = c ∨ ∃ x ∈ l, (x : Int) = m) (h2 : c ≤ m) (h3 : ∀ x ∈ l, (x : Int) ≤ m) (q : Qd (.int m)) : WO (opD (.fn .max) [.lst b (nat' l ++ [.int c])]) Qd := by
  refine ⟨_, ?_, q⟩
  have hne : (l.map (fun k : Nat => (k : Int)) ++ [c]) ≠ [] := by simp
  have hm : maxL (l.map (fun k : Nat => (k : Int)) ++ [c]) = m := maxL_eq (by
    rcases h1 with rfl | ⟨x, hx, rfl⟩
    · simp
    · exact List.mem_append_left _ (List.mem_map.mpr ⟨x, hx, rfl⟩)) fun y hy => by
      rcases List.mem_append.mp hy with hy | hy
      · obtain ⟨x, hx, rfl⟩ := List.mem_map.mp hy; exact h3 x hx
      · simp at hy; omega
  show (intsO _).bind _ = _
  rw [intsO_app1]
  show (if _ = [] then none else some (D.int (maxL _))) = _
  rw [if_neg hne, hm]
theorem O_addC {l : List Nat} {c : Int} {m m' : Bool} {Qd : D → Prop} (hl : l.length ≤ 1000) (q : Qd (.lst true (nat' l ++ [.int c]))) : WO (opD (.bin .Add) [.lst m (nat' l), .lst m' [.int c]]) Qd :=
  O_addL (pure_nats _) rfl (by rw [nat_len]; simp [lim]; omega) q
/-- the rows as numbers -/
def rowL (ms : List Mk) : List Nat := (List.range ms.length).map (rowAt (rR (spF ms) (spP ms) (ordF ms)))
theorem rowsD_nat (ms : List Mk) : rowsD ms = nat' (rowL ms) := by unfold rowsD rowL nat'; rw [List.map_map]; rfl
theorem rowL_len (ms : List Mk) : (rowL ms).length = ms.length := by unfold rowL; simp
structure RowF (ms : List Mk) : Prop where
  len : (rowL ms).length = ms.length
  lt : ∀ x ∈ rowL ms, x < rowsN ms
  used : ∀ r, r < rowsN ms → r ∈ rowL ms
  none : rowsN ms = 0 ↔ ms.length = 0
  le : rowsN ms ≤ ms.length
  dj : ∀ i j (hi : i < ms.length) (hj : j < ms.length), i ≠ j → (rowL ms)[i]'(by rw [rowL_len]; exact hi) = (rowL ms)[j]'(by rw [rowL_len]; exact hj) → spP ms i ≤ spF ms j ∨ spP ms j ≤ spF ms i
theorem rowF {ms : List Mk} {N : Nat} (ho : ∀ m ∈ ms, m.ok N) : RowF ms := by
  have ri := ord_RIa ho
  have hpm := ord_perm ms
  have nd : ((rR (spF ms) (spP ms) (ordF ms)).map (·.1)).Nodup := by rw [rst_keys]; exact hpm.nodup_iff.mpr List.nodup_range
  refine ⟨rowL_len ms, fun x hx => ?_, fun r hr => ?_, ri.none hpm, ?_, fun i j hi hj ne e => ?_⟩
  · obtain ⟨i, hi, rfl⟩ := List.mem_map.mp hx
    exact ri.row_lt hpm (List.mem_range.mp hi)
  · obtain ⟨i, h1, _⟩ := ri.top r hr
    exact List.mem_map.mpr ⟨i, hpm.mem_iff.mp (mem_keys _ _ h1), rowAt_mem nd h1⟩
  · have := rE_len (spF ms) (spP ms) (ordF ms) (ordF ms).length
    rw [List.take_length, ord_len] at this
    exact this
  · unfold rowL at e
    simp only [List.getElem_map, List.getElem_range] at e
    have h1 := ri.row hpm hi
    have h2 := ri.row hpm hj
    rw [← e] at h2
    exact ri.dj _ _ _ h1 h2 ne
theorem rows_sset {ms : List Mk} (f : RowF ms) : ssetI ((rowL ms).map fun k : Nat => (k : Int)) = (List.range (rowsN ms)).map fun k : Nat => (k : Int) := by
  refine rise_uniq (sset_srt _) ?_ fun k => ?_
  · rw [List.pairwise_map]
    exact List.pairwise_lt_range.imp fun h => by omega
  · rw [sset_mem, List.mem_map, List.mem_map]
    constructor
    · rintro ⟨x, hx, rfl⟩; exact ⟨x, List.mem_range.mpr (f.lt x hx), rfl⟩
    · rintro ⟨x, hx, rfl⟩; exact ⟨x, f.used x (List.mem_range.mp hx), rfl⟩
theorem rows_less {ms : List Mk} {N c : Nat} (ho : ∀ m ∈ ms, m.ok N) (hc : c ≤ ms.length) : rowsN (ms.take c) ≤ rowsN ms ∧ rowsN ms ≤ rowsN (ms.take c) + (ms.length - c) := by
  have ho2 : ∀ m ∈ ms.take c, m.ok N := fun m hm => ho m (List.mem_of_mem_take hm)
  have r1 := ord_RIa ho
  have r2 := ord_RIa ho2
  have p1 := ord_perm ms
  have p2 := ord_perm (ms.take c)
  have lt : (ms.take c).length = c := by rw [List.length_take, Nat.min_eq_left hc]
  have cg : ∀ a, covL (spF (ms.take c)) (spP (ms.take c)) (ms.take c).length a = covL (spF ms) (spP ms) c a := fun a => by
    rw [lt]; exact covL_congr fun i hi => ⟨spF_take hi, spP_take hi⟩
  have ap : ∀ a, _ := fun a => covL_app (spF ms) (spP ms) c (ms.length - c) a
  rw [show c + (ms.length - c) = ms.length by omega] at ap
  constructor
  · obtain ⟨a, h1, _⟩ := r2.cov_ge p2
    have h2 := r1.cov_le p1 a
    rw [cg] at h1
    have := (ap a).1
    show (rE _ _ _).length ≤ (rE _ _ _).length
    omega
  · obtain ⟨a, h1, _⟩ := r1.cov_ge p1
    have h2 := r2.cov_le p2 a
    rw [cg] at h2
    have := (ap a).2
    show (rE _ _ _).length ≤ (rE _ _ _).length + _
    omega
end Lk33

namespace Lk33
open PySem L2 VI
def LwP (d : D) (outs : List (Option D)) : Prop := d = .bl true
theorem O_sset {ms : List Mk} {b : Bool} {Qd : D → Prop} (f : RowF ms) (h : ms.length ≤ 40) (q : Qd (.lst true (nat' (List.range (rowsN ms))))) : WO (opD .sset [.lst b (nat' (rowL ms))]) Qd := by
  refine ⟨_, ?_, q⟩
  show (intsO _).bind _ = _
  rw [intsO_nat]
  show (if _ then _ else _) = _
  rw [if_pos (by rw [List.length_map, f.len]; omega), rows_sset f]
  unfold nat'
  rw [List.map_map]; rfl
theorem O_neN {m m' : Bool} {a b : List Nat} {Qd : D → Prop} (q : Qd (.bl (!decide (a = b)))) : WO (opD (.cmp .NotEq) [.lst m (nat' a), .lst m' (nat' b)]) Qd :=
  ⟨_, by simp only [opD, cmpO, cmpB, eqO, okD_nat, Bool.and_self, if_true, deq, deqL_nat, Option.map_some], q⟩
theorem big_no {a b n c : Nat} (h : b ≤ a + (n - c)) (hc : c ≤ n) (q : decide ((a : Int) - 1 + 1 + (n : Int) - (c : Int) < (b : Int) - 1 + 1) = true) : False := by
  have := of_decide_eq_true q; omega
theorem okD_prs (m : Bool) (P : List (Nat × Nat)) : okD deep (.lst m (P.map pairD)) = true := by
  show (P.map pairD).all (okD 11) = true
  rw [List.all_map, List.all_eq_true]
  intro q _; rfl
theorem deqL_prs : ∀ P : List (Nat × Nat), deqL (P.map pairD) (P.map pairD) = true
  | [] => rfl
  | p :: P => by
    have := deqL_prs P
    simp [deqL, deq, pairD] at this ⊢
    exact this
theorem O_neSelf {m m' : Bool} {P : List (Nat × Nat)} {Qd : D → Prop} (q : Qd (.bl false)) : WO (opD (.cmp .NotEq) [.lst m (P.map pairD), .lst m' (P.map pairD)]) Qd := by
  refine ⟨_, ?_, q⟩
  simp only [opD, cmpO, cmpB, eqO, okD_prs, Bool.and_self, if_true, deq, deqL_prs, Option.map_some]
  rfl
theorem O_eqPrs {m m' : Bool} {P : List (Nat × Nat)} {Qd : D → Prop} (q : Qd (.bl (decide (P = [])))) : WO (opD (.cmp .Eq) [.lst m (P.map pairD), .lst m' []]) Qd := by
  refine ⟨_, ?_, q⟩
  have e : deq (.lst m (P.map pairD)) (.lst m' []) = decide (P = []) := by
    cases P with
    | nil => rfl
    | cons a R => simp [deq, deqL]
  show ((if (okD deep (.lst m (P.map pairD)) && okD deep (.lst m' [])) = true then some (deq (.lst m (P.map pairD)) (.lst m' [])) else none)).map D.bl = _
  rw [okD_prs, e]
  rfl
theorem t_at {T : List (Option Nat)} {i : Nat} (h : i < T.length) : atI (T.map tD) (i : Int) = some (tD (T.getD i none)) := by
  rw [atD_nat (by simpa using h)]
  simp [h]
theorem rngO_range (n : Nat) : rngO 0 (n : Int) = nat' (List.range n) := by
  unfold rngO nat'
  rw [show ((n : Int) - 0).toNat = n by omega]
  refine List.map_congr_left fun i _ => ?_
  simp
set_option maxHeartbeats 16000000 in
theorem hrun : ∀ ns : List Int, ns.length ≤ 63 → ∃ outs, run tbl.fds 5 "law" [.scr ns] = .ok (.bl true) outs := fun ns hns => by
  have main : ∃ d outs, run tbl.fds 5 "law" [.scr ns] = .ok d outs ∧ LwP d outs := by
    refine F_run (n := 4) (fd := i_law) rfl rfl ?_
    show WX (exs (run tbl.fds 4) i_law.body [some (.scr ns), none, none, none, none, none, none, none, none, none, none, none, none, none, none, none, none, none, none, none, none, none, none]) _
    have lo := top
    unfold cl at lo
    generalize run tbl.fds 4 = call at lo ⊢
    unfold i_law
    obtain ⟨h0, outs0, e0, rfl, g0⟩ := lo.mix ns 139 hns
    decreasing_trivial_pre_omega
    refine ⟨_, _, e0, ?_⟩
    dsimp only [back, List.set]
    decreasing_trivial_pre_omega
    refine ⟨fun _ ρ => ∃ h x2 x3 x4 x5 x6 x7 x8 x9 x10 x11 x12 x13 x14 x15 x16 x17 x18 x19 x20 x21, G h ∧ ρ = [some (.scr ns), some h, x2, x3, x4, x5, x6, x7, x8, x9, x10, x11, x12, x13, x14, x15, x16, x17, x18, x19, x20, x21, none], ⟨_, _, _, _, _, _, _, _, _, _, _, _, _, _, _, _, _, _, _, _, _, g0, rfl⟩, ?_, ?_⟩
    · rintro i x ρ hx ⟨h, x2, x3, x4, x5, x6, x7, x8, x9, x10, x11, x12, x13, x14, x15, x16, x17, x18, x19, x20, x21, g, rfl⟩
      refine ⟨_, rfl, ?_⟩
      try dsimp only [List.set]
      decreasing_trivial_pre_omega
      obtain ⟨s0, h1, e1, hs0, gs0, g1⟩ := lo.sgn h 40 g (by decide)
      refine ⟨_, _, e1, ?_⟩
      dsimp only [back, List.set]
      decreasing_trivial_pre_omega
      try refine O_addS (by simp [lim]; omega) ?_
      have gs : gd ([97, 98] ++ s0) := fun c hc => by
        rcases List.mem_append.mp hc with q | q
        · simp at q; omega
        · exact gs0 c q
      have hs : ([97, 98] ++ s0).length ≤ 42 := by simp; omega
      generalize [97, 98] ++ s0 = s at gs hs ⊢
      decreasing_trivial_pre_omega
      obtain ⟨ms, h2, e2, hml, hmo, g2⟩ := lo.mrk h1 s 12 g1 (by omega) (by decide)
      refine ⟨_, _, e2, ?_⟩
      dsimp only [back, List.set]
      have hlm : (ms.map Mk.d).length = ms.length := List.length_map ..
      decreasing_trivial_pre_omega
      rw [hlm]
      obtain ⟨c, h3, e3, hc, g3⟩ := lo.nxt h2 (ms.length + 1) g2 (by omega) (by omega)
      refine ⟨_, _, e3, ?_⟩
      dsimp only [back, List.set]
      have hcl : c ≤ ms.length := by omega
      have rf := rowF hmo
      have hmo2 : ∀ m ∈ ms.take c, m.ok s.length := fun m hm => hmo m (List.mem_of_mem_take hm)
      have rf2 := rowF hmo2
      obtain ⟨hl1, hl2⟩ := rows_less hmo hcl
      have hlt : (ms.take c).length = c := by rw [List.length_take, Nat.min_eq_left hcl]
      have pr1 : pureL (rowsD ms) = true := by rw [rowsD_nat]; exact pure_nats _
      have pr2 : pureL (rowsD (ms.take c)) = true := by rw [rowsD_nat]; exact pure_nats _
      have rl1 := rowL_len ms
      have rl2 := rowL_len (ms.take c)
      decreasing_trivial_pre_omega
      refine ⟨_, _, lo.rws (some false) s ms (by omega) gs (by omega) hmo, ?_⟩
      dsimp only [back, List.set]
      decreasing_trivial_pre_omega
      refine pur1_of (d := .lst false _) (by simp only [D.pure, pr1, Bool.not_false, Bool.true_and]) ?_
      decreasing_trivial_pre_omega
      rw [← List.map_take]
      refine ⟨_, _, lo.rws (some true) s (ms.take c) (by omega) gs (by omega) hmo2, ?_⟩
      dsimp only [back, List.set]
      decreasing_trivial_pre_omega
      refine pur1_of (d := .lst false _) (by simp only [D.pure, pr2, Bool.not_false, Bool.true_and]) ?_
      rw [rowsD_nat, rowsD_nat]
      have mx : ∀ ms' : List Mk, RowF ms' → ((rowsN ms' : Int) - 1 = -1 ∨ ∃ x ∈ rowL ms', (x : Int) = (rowsN ms' : Int) - 1) ∧ (-1 : Int) ≤ (rowsN ms' : Int) - 1 ∧ ∀ x ∈ rowL ms', (x : Int) ≤ (rowsN ms' : Int) - 1 := fun ms' f => by
        refine ⟨?_, by omega, fun x hx => by have := f.lt x hx; omega⟩
        by_cases hz : rowsN ms' = 0
        · exact .inl (by omega)
        · exact .inr ⟨rowsN ms' - 1, f.used _ (by omega), by omega⟩
      obtain ⟨ma1, ma2, ma3⟩ := mx ms rf
      obtain ⟨mb1, mb2, mb3⟩ := mx (ms.take c) rf2
      decreasing_trivial_pre_omega
      try refine O_addC (by omega) ?_
      decreasing_trivial_pre_omega
      try refine O_maxC ma1 ma2 ma3 ?_
      decreasing_trivial_pre_omega
      try refine O_addC (by omega) ?_
      decreasing_trivial_pre_omega
      try refine O_maxC mb1 mb2 mb3 ?_
      decreasing_trivial_pre_omega
      refine ⟨fun _ => ?_, fun q => by rw [hlm] at q; exact (big_no hl2 hcl q).elim⟩
      rw [show (rowsN ms : Int) - 1 + 1 = (rowsN ms : Int) from by omega, show (rowsN (ms.take c) : Int) - 1 + 1 = (rowsN (ms.take c) : Int) from by omega]
      refine ⟨O_sset rf (by omega) ?_⟩
      refine ⟨O_lrngN1 (rngO_range _) (by have := rf.le; omega) (by rw [List.length_range]; have := rf.le; omega) ?_⟩
      refine ⟨O_neN ?_⟩
      rw [decide_eq_true rfl]
      decreasing_trivial_pre_omega
      refine ⟨fun i ρ => ∃ x6 x15 x18, ρ = [some (.scr ns), some h3, some x, some (.str s), some (.lst false (ms.map Mk.d)), some (.int (c : Int)), x6, x7, x8, x9, x10, some (.lst false (nat' (rowL ms))), some (.lst false (nat' (rowL (ms.take c)))), some (.int (rowsN ms : Int)), some (.int (rowsN (ms.take c) : Int)), x15, x16, x17, x18, x19, x20, x21, none], ⟨_, _, _, rfl⟩, ?_, ?_⟩
      · rintro i y ρ hy ⟨x6, x15, x18, rfl⟩
        obtain ⟨hi, rfl⟩ := rngO_at hy
        rw [hlm] at hi
        refine ⟨_, rfl, ?_⟩
        try dsimp only [List.set]
        decreasing_trivial_pre_omega
        refine ⟨fun j ρ => ∃ x15 x18, ρ = [some (.scr ns), some h3, some x, some (.str s), some (.lst false (ms.map Mk.d)), some (.int (c : Int)), some (.int (i : Int)), x7, x8, x9, x10, some (.lst false (nat' (rowL ms))), some (.lst false (nat' (rowL (ms.take c)))), some (.int (rowsN ms : Int)), some (.int (rowsN (ms.take c) : Int)), x15, x16, x17, x18, x19, x20, x21, none], ⟨_, _, rfl⟩, ?_, ?_⟩
        · rintro j y ρ hy ⟨x15, x18, rfl⟩
          obtain ⟨hj, rfl⟩ := rngO_at hy
          refine ⟨_, rfl, ?_⟩
          try dsimp only [List.set]
          have f1 := spF_at hi
          have f2 := spP_at hi
          have g1 := spF_at (show j < ms.length by omega)
          have g2 := spP_at (show j < ms.length by omega)
          have hj2 : j < ms.length := by omega
          have dj := rf.dj i j hi hj2 (by omega)
          have r1 := nats_at (ks := rowL ms) (i := i) (by omega)
          have r2 := nats_at (ks := rowL ms) (i := j) (by omega)
          rw [f1, f2, g1, g2] at dj
          decreasing_trivial_pre_omega
          try refine seq_at (b := some _) hi ?_
          decreasing_trivial_pre_omega
          try refine seq_at (b := some _) hj2 ?_
          decreasing_trivial_pre_omega
          refine ⟨fun c1 => ?_, fun c1 => ?_⟩
          · have c1 := of_decide_eq_false c1
            refine ⟨seq_at (b := some _) hj2 ?_⟩
            decreasing_trivial_pre_omega
            try refine seq_at (b := some _) hi ?_
            decreasing_trivial_pre_omega
            refine ⟨fun q => ?_, fun q => ?_⟩
            · have q : (rowL ms)[i] = (rowL ms)[j] := by
                have := (by simpa using q : ((rowL ms)[i] : Int) = ((rowL ms)[j] : Int))
                omega
              have dj := dj q
              have e : decide (((ms[j]).past : Int) ≤ ((ms[i]).first : Int)) = true := decide_eq_true (by omega)
              rw [e]
              decreasing_trivial_pre_omega
              exact ⟨_, _, rfl⟩
            · decreasing_trivial_pre_omega
              exact ⟨_, _, rfl⟩
          · decreasing_trivial_pre_omega
            refine ⟨fun q => ?_, fun q => ?_⟩
            · decreasing_trivial_pre_omega
              exact ⟨_, _, rfl⟩
            · decreasing_trivial_pre_omega
              exact ⟨_, _, rfl⟩
        rintro ρ ⟨x15, x18, rfl⟩
        decreasing_trivial_pre_omega
        exact ⟨_, _, _, rfl⟩
      rintro ρ ⟨x6, x15, x18, rfl⟩
      decreasing_trivial_pre_omega
      refine ⟨_, _, lo.crs (some false) s ms (by omega) gs (by omega) hmo, ?_⟩
      dsimp only [back, List.set]
      decreasing_trivial_pre_omega
      have cl1 : (crF ms.length ms.length (crossB ms)).length ≤ 200 := by
        have h1 := crF_len ms.length (crossB ms) ms.length
        have h2 : ms.length * ms.length ≤ 12 * 12 := Nat.mul_le_mul hml hml
        omega
      have ct := cross_take hcl
      generalize crF ms.length ms.length (crossB ms) = C at ct cl1 ⊢
      refine I_seq (b := some true) (pure_prs _) ?_
      refine W_lcloop (fun q acc ρ => ρ = [some (.scr ns), some h3, some x, some (.str s), some (.lst false (ms.map Mk.d)), some (.int (c : Int)), x6, x7, x8, x9, x10, some (.lst false (nat' (rowL ms))), some (.lst false (nat' (rowL (ms.take c)))), some (.int (rowsN ms : Int)), some (.int (rowsN (ms.take c) : Int)), x15, x16, x17, x18, x19, x20, x21, none] ∧ acc = ((C.take q).filter fun z => decide (z.2 < c)).map pairD) ⟨rfl, rfl⟩ ?_ (by rw [List.length_map]; simp [lim]; omega) ?_
      · rintro q y acc ρ hy ha ⟨rfl, rfl⟩
        have hq : q < C.length := by
          have := (List.getElem?_eq_some_iff.mp hy).1
          rw [List.length_map] at this; exact this
        have ey : y = pairD (C[q]) := by
          rw [List.getElem?_map, List.getElem?_eq_getElem hq] at hy
          exact (Option.some.inj hy).symm
        subst ey
        rw [List.take_succ_eq_append_getElem hq, List.filter_append, List.filter_cons, List.map_append]
        generalize C[q] = z
        refine W_lcF1 rfl ?_
        unfold pairD
        decreasing_trivial_pre_omega
        refine ⟨fun h1 => ?_, fun h1 => ?_⟩
        · have h1 : z.2 < c := by have := of_decide_eq_true h1; omega
          decreasing_trivial_pre_omega
          rw [if_pos (decide_eq_true h1)]
          first | exact rfl | exact ⟨rfl, rfl⟩
        · have h1 : ¬ z.2 < c := by have := of_decide_eq_false h1; omega
          decreasing_trivial_pre_omega
          rw [if_neg (fun z => h1 (of_decide_eq_true z))]
          first | exact (List.append_nil _).symm | exact ⟨rfl, (List.append_nil _).symm⟩
      rintro acc ρ ha ⟨rfl, rfl⟩
      rw [List.length_map, List.take_length, ct]
      try dsimp only [List.set]
      decreasing_trivial_pre_omega
      rw [← List.map_take]
      refine ⟨_, _, lo.crs (some true) s (ms.take c) (by omega) gs (by omega) hmo2, ?_⟩
      dsimp only [back, List.set]
      refine ⟨O_neSelf ?_⟩
      decreasing_trivial_pre_omega
      refine I_seq (b := some false) (pure_ms _) ?_
      refine ⟨fun k ρ => ∃ (ks : List Mk) (x8 : Option D), ρ = [some (.scr ns), some h3, some x, some (.str s), some (.lst false (ms.map Mk.d)), some (.int (c : Int)), x6, some (.lst true (ks.map Mk.d)), x8, x9, x10, some (.lst false (nat' (rowL ms))), some (.lst false (nat' (rowL (ms.take c)))), some (.int (rowsN ms : Int)), some (.int (rowsN (ms.take c) : Int)), x15, x16, x17, x18, x19, x20, x21, none] ∧ ks.length ≤ k ∧ (∀ m ∈ ks, m.ok s.length) ∧ crF ks.length ks.length (crossB ks) = [], ⟨[], _, rfl, Nat.zero_le _, fun _ z => absurd z List.not_mem_nil, rfl⟩, ?_, ?_⟩
      · rintro k y ρ hy ⟨ks, x8, rfl, hk1, hk2, hk3⟩
        have hk : k < ms.length := by
          have := (List.getElem?_eq_some_iff.mp hy).1
          rw [List.length_map] at this; exact this
        have ey : y = (ms[k]).d := by
          rw [List.getElem?_map, List.getElem?_eq_getElem hk] at hy
          exact (Option.some.inj hy).symm
        subst ey
        refine ⟨_, rfl, ?_⟩
        try dsimp only [List.set]
        have hmk := hmo _ (List.getElem_mem hk)
        generalize ms[k] = m at hmk
        have pm1 : pureL [m.d] = true := pure_ms [m]
        have hk4 : ∀ m' ∈ ks ++ [m], m'.ok s.length := fun m' hm => by
          rcases List.mem_append.mp hm with q | q
          · exact hk2 m' q
          · simp at q; subst q; exact hmk
        have hap : ks.map Mk.d ++ [m.d] = (ks ++ [m]).map Mk.d := by rw [List.map_append]; rfl
        decreasing_trivial_pre_omega
        try refine O_addL (pure_ms _) pm1 (by rw [List.length_map]; simp [lim]; omega) ?_
        rw [hap]
        refine ⟨_, _, lo.crs (some true) s (ks ++ [m]) (by omega) gs (by simp; omega) hk4, ?_⟩
        dsimp only [back, List.set]
        refine ⟨O_eqPrs ?_⟩
        dsimp only [truP]
        by_cases hz : crF (ks ++ [m]).length (ks ++ [m]).length (crossB (ks ++ [m])) = []
        · rw [decide_eq_true hz]
          decreasing_trivial_pre_omega
          exact ⟨ks ++ [m], _, by rw [← hap], by simp; omega, hk4, hz⟩
        · rw [decide_eq_false hz]
          decreasing_trivial_pre_omega
          first | exact ⟨ks, _, rfl, by omega, hk2, hk3⟩ | exact ⟨by omega, hk2, hk3⟩ | exact ⟨rfl, by omega, hk2, hk3⟩
      rintro ρ ⟨ks, x8, rfl, hk1, hk2, hk3⟩
      rw [List.length_map] at hk1
      obtain ⟨T, eT, hT⟩ := lo.tre (some false) s ks (by omega) gs (by omega) hk2 hk3
      decreasing_trivial_pre_omega
      refine ⟨_, _, eT, ?_⟩
      dsimp only [back, List.set]
      have hlk : (ks.map Mk.d).length = ks.length := List.length_map ..
      decreasing_trivial_pre_omega
      refine ⟨fun k ρ => ∃ x10 x16 x17 x19 x20 x21, ρ = [some (.scr ns), some h3, some x, some (.str s), some (.lst false (ms.map Mk.d)), some (.int (c : Int)), x6, some (.lst false (ks.map Mk.d)), x8, some (.lst true (T.map tD)), x10, some (.lst false (nat' (rowL ms))), some (.lst false (nat' (rowL (ms.take c)))), some (.int (rowsN ms : Int)), some (.int (rowsN (ms.take c) : Int)), x15, x16, x17, x18, x19, x20, x21, none], ⟨_, _, _, _, _, _, rfl⟩, ?_, ?_⟩
      · rintro k y ρ hy ⟨x10, x16, x17, x19, x20, x21, rfl⟩
        obtain ⟨hk, rfl⟩ := rngO_at hy
        rw [hlk] at hk
        refine ⟨_, rfl, ?_⟩
        try dsimp only [List.set]
        have hTk := hT.2 k hk
        have hat := t_at (T := T) (i := k) (by rw [hT.1]; exact hk)
        decreasing_trivial_pre_omega
        try refine O_ixL hat ?_
        decreasing_trivial_pre_omega
        have hp0 : ∀ i, i < ks.length → spF ks i < spP ks i := fun i hi => (mk_lt hk2 hi).1
        have hhl : ∀ i, (hol ks i).length ≤ 12 := fun i => by have := hlF_len ks i ks.length; show (hlF ks i ks.length).length ≤ 12; omega
        have up : ∀ i, i < ks.length → (T.getD i none = none → (hol ks i).length = 0) ∧ ∀ j, T.getD i none = some j → j < ks.length ∧ (hol ks i).length = (hol ks j).length + 1 ∧ spF ks j ≤ spF ks i ∧ spP ks i ≤ spP ks j := fun i hi => by
          obtain ⟨a1, a2⟩ := hT.2 i hi
          refine ⟨fun z => hol_nil (a1 z), fun j z => ?_⟩
          obtain ⟨b1, b2, b3⟩ := a2 j z
          have b4 := hold_iff.mp b2
          exact ⟨b1, hol_step hk3 hp0 hi b1 b2 b3, b4.2.1, b4.2.2.1⟩
        refine X_whl (fun m ρ => ∃ (u : Option Nat) (d : Nat), d + m = (hol ks k).length ∧ (u = none → m = 0) ∧ (∀ j, u = some j → j < ks.length ∧ m = (hol ks j).length + 1 ∧ spF ks j ≤ spF ks k ∧ spP ks k ≤ spP ks j) ∧ ρ = [some (.scr ns), some h3, some x, some (.str s), some (.lst false (ms.map Mk.d)), some (.int (c : Int)), x6, some (.lst false (ks.map Mk.d)), x8, some (.lst true (T.map tD)), some (.int (k : Int)), some (.lst false (nat' (rowL ms))), some (.lst false (nat' (rowL (ms.take c)))), some (.int (rowsN ms : Int)), some (.int (rowsN (ms.take c) : Int)), x15, x16, x17, x18, some (.int (d : Int)), some (tD u), x21, none]) (hol ks k).length (by have := hhl k; omega) ⟨T.getD k none, 0, by omega, (up k hk).1, (up k hk).2, rfl⟩ ?_
        rintro m ρ ⟨u, d, hd, hu1, hu2, rfl⟩
        cases u with
        | none =>
          have hm0 := hu1 rfl
          rw [show tD none = D.non from rfl]
          decreasing_trivial_pre_omega
          refine ⟨fun q ρ => ∃ x17 x21, ρ = [some (.scr ns), some h3, some x, some (.str s), some (.lst false (ms.map Mk.d)), some (.int (c : Int)), x6, some (.lst false (ks.map Mk.d)), x8, some (.lst true (T.map tD)), some (.int (k : Int)), some (.lst false (nat' (rowL ms))), some (.lst false (nat' (rowL (ms.take c)))), some (.int (rowsN ms : Int)), some (.int (rowsN (ms.take c) : Int)), x15, some (.int ((hlF ks k q).length : Int)), x17, x18, some (.int (d : Int)), some .non, x21, none], ⟨_, _, rfl⟩, ?_, ?_⟩
          · rintro q y ρ hy ⟨x17, x21, rfl⟩
            obtain ⟨hq, rfl⟩ := rngO_at hy
            rw [hlk] at hq
            refine ⟨_, rfl, ?_⟩
            try dsimp only [List.set]
            have er := lo.rel (some false) s ks q k (by omega) gs (by omega) hk2 hq hk
            have hin := in_hold3 (hp0 q hq) (hp0 k hk)
            have hsm := is_same (spF ks q) (spP ks q) (spF ks k) (spP ks k)
            have hsu := hlF_succ ks k q
            have hln := hlF_len ks k q
            decreasing_trivial_pre_omega
            refine ⟨_, _, er, ?_⟩
            dsimp only [back, List.set]
            decreasing_trivial_pre_omega
            rw [hin]
            have hb := hold_iff (ms := ks) (i := k) (j := q)
            have pk := hp0 k hk
            refine ⟨fun c1 => ?_, fun c1 => ?_⟩
            · have c1 := of_decide_eq_false c1
              by_cases sm : spF ks q = spF ks k ∧ spP ks q = spP ks k
              · rw [hsm.mpr sm]
                by_cases hqk : q < k
                · rw [if_pos (hb.mpr (by omega))] at hsu
                  decreasing_trivial_pre_omega
                  rw [show ((hlF ks k q).length : Int) + (if decide ((q : Int) < (k : Int)) = true then 1 else 0) = ((hlF ks k (q + 1)).length : Int) from by rw [hsu, List.length_append, if_pos (decide_eq_true (by omega))]; simp]
                  exact ⟨_, _, rfl⟩
                · rw [if_neg (fun z => by have := hb.mp z; omega), List.append_nil] at hsu
                  rw [hsu]
                  decreasing_trivial_pre_omega
                  rw [if_neg (by simp; omega), Int.add_zero]
                  exact ⟨_, _, rfl⟩
              · have hnw : ¬ wordF (spF ks q) (spP ks q) (spF ks k) (spP ks k) = w_same := fun z => sm (hsm.mp z)
                rw [if_neg (fun z => by have := hb.mp z; omega), List.append_nil] at hsu
                rw [hsu]
                generalize wordF (spF ks q) (spP ks q) (spF ks k) (spP ks k) = w at hnw ⊢
                decreasing_trivial_pre_omega
                refine ⟨fun z => absurd (of_decide_eq_true z) hnw, fun _ => ?_⟩
                decreasing_trivial_pre_omega
                first | exact ⟨_, _, rfl⟩ | (rw [if_neg (by decide), Int.add_zero]; exact ⟨_, _, rfl⟩)
            · have c1 := of_decide_eq_true c1
              have : q ≠ k := fun e => by subst e; omega
              rw [if_pos (hb.mpr (by omega))] at hsu
              decreasing_trivial_pre_omega
              rw [show ((hlF ks k q).length : Int) + (if true = true then 1 else 0) = ((hlF ks k (q + 1)).length : Int) from by rw [hsu, List.length_append]; simp]
              exact ⟨_, _, rfl⟩
          · rintro ρ ⟨x17, x21, rfl⟩
            rw [hlk]
            have hdd : d = (hlF ks k ks.length).length := by
              have : d + 0 = (hlF ks k ks.length).length := by rw [← hm0]; exact hd
              omega
            rw [rngO_n, ← hdd]
            decreasing_trivial_pre_omega
            exact ⟨_, _, _, _, _, _, rfl⟩
        | some j =>
          obtain ⟨hj, hm, hf1, hf2⟩ := hu2 j rfl
          have hin := in_hold4 (hp0 j hj) (hp0 k hk)
          rw [decide_eq_true (show spF ks j ≤ spF ks k ∧ spP ks k ≤ spP ks j from ⟨hf1, hf2⟩)] at hin
          have er := lo.rel (some false) s ks j k (by omega) gs (by omega) hk2 hj hk
          have hat2 := t_at (T := T) (i := j) (by rw [hT.1]; exact hj)
          have hup := up j hj
          rw [show tD (some j) = D.int (j : Int) from rfl]
          decreasing_trivial_pre_omega
          refine ⟨(hol ks j).length, hm, ?_⟩
          decreasing_trivial_pre_omega
          refine ⟨_, _, er, ?_⟩
          dsimp only [back, List.set]
          decreasing_trivial_pre_omega
          rw [hin]
          refine ⟨fun z => absurd z (by decide), fun _ => ?_⟩
          decreasing_trivial_pre_omega
          try refine O_ixL hat2 ?_
          decreasing_trivial_pre_omega
          exact ⟨T.getD j none, d + 1, by omega, hup.1, fun j' hj' => by
            obtain ⟨u1, u2, u3, u4⟩ := hup.2 j' hj'
            exact ⟨u1, u2, by omega, by omega⟩, rfl⟩
      rintro ρ ⟨x10, x16, x17, x19, x20, x21, rfl⟩
      decreasing_trivial_pre_omega
      exact ⟨_, _, _, _, _, _, _, _, _, _, _, _, _, _, _, _, _, _, _, _, _, g3, rfl⟩
    · rintro ρ ⟨h, x2, x3, x4, x5, x6, x7, x8, x9, x10, x11, x12, x13, x14, x15, x16, x17, x18, x19, x20, x21, g, rfl⟩
      decreasing_trivial_pre_omega
      exact rfl
  obtain ⟨d, outs, e, rfl⟩ := main
  exact ⟨outs, e⟩
end Lk33

namespace Lk33
open PySem PySem.Spec PyProof.Rows L2 VI
theorem hok : ∀ f d, tbl.lookup f = some d → okDef tbl gl d = true := hok_of (by decide +kernel)
theorem all_mk {l : PySem.W.OpenLaw} {q : Program} {w : World} {K : PySem.W.Frag} {h : Heap} {mg : Str → Option Value} {fa : Addr} (X : K.In h) (G : h.Ns mainGlobals mg) (hfa : mg "law" = some (.ref fa)) (tabs : TabsAt q K h)
    {f0 : Addr} {od0 an0 : Option Addr} {sl0 : Array (Option Value)} {oc0 kV0 dc0 pm0 cd0 ct0 : Value}
    (a0 : PySem.W.nsIn K mainGlobals "need_signs" = some (some (.ref f0)))
    (l0 : K.lookup f0 = some ⟨oc0, od0, .func (PySem.W.fnOf "need_signs" "need_signs" (defArgs d_need_signs.st) (defBody d_need_signs.st) (defScope d_need_signs.st) .none kV0 dc0 pm0 an0 cd0 ct0), sl0⟩)
    (c0 : PySem.W.codeIn K cd0 "need_signs" = true) (k0 : PySem.W.keepIn K (.ref f0) = true)
    {f1 : Addr} {od1 an1 : Option Addr} {sl1 : Array (Option Value)} {oc1 kV1 dc1 pm1 cd1 ct1 : Value}
    (a1 : PySem.W.nsIn K mainGlobals "is_name" = some (some (.ref f1)))
    (l1 : K.lookup f1 = some ⟨oc1, od1, .func (PySem.W.fnOf "is_name" "is_name" (defArgs d_is_name.st) (defBody d_is_name.st) (defScope d_is_name.st) .none kV1 dc1 pm1 an1 cd1 ct1), sl1⟩)
    (c1 : PySem.W.codeIn K cd1 "is_name" = true) (k1 : PySem.W.keepIn K (.ref f1) = true)
    {f2 : Addr} {od2 an2 : Option Addr} {sl2 : Array (Option Value)} {oc2 kV2 dc2 pm2 cd2 ct2 : Value}
    (a2 : PySem.W.nsIn K mainGlobals "need_marks" = some (some (.ref f2)))
    (l2 : K.lookup f2 = some ⟨oc2, od2, .func (PySem.W.fnOf "need_marks" "need_marks" (defArgs d_need_marks.st) (defBody d_need_marks.st) (defScope d_need_marks.st) .none kV2 dc2 pm2 an2 cd2 ct2), sl2⟩)
    (c2 : PySem.W.codeIn K cd2 "need_marks" = true) (k2 : PySem.W.keepIn K (.ref f2) = true)
    {f3 : Addr} {od3 an3 : Option Addr} {sl3 : Array (Option Value)} {oc3 kV3 dc3 pm3 cd3 ct3 : Value}
    (a3 : PySem.W.nsIn K mainGlobals "word_for" = some (some (.ref f3)))
    (l3 : K.lookup f3 = some ⟨oc3, od3, .func (PySem.W.fnOf "word_for" "word_for" (defArgs d_word_for.st) (defBody d_word_for.st) (defScope d_word_for.st) .none kV3 dc3 pm3 an3 cd3 ct3), sl3⟩)
    (c3 : PySem.W.codeIn K cd3 "word_for" = true) (k3 : PySem.W.keepIn K (.ref f3) = true)
    {f4 : Addr} {od4 an4 : Option Addr} {sl4 : Array (Option Value)} {oc4 kV4 dc4 pm4 cd4 ct4 : Value}
    (a4 : PySem.W.nsIn K mainGlobals "relation" = some (some (.ref f4)))
    (l4 : K.lookup f4 = some ⟨oc4, od4, .func (PySem.W.fnOf "relation" "relation" (defArgs d_relation.st) (defBody d_relation.st) (defScope d_relation.st) .none kV4 dc4 pm4 an4 cd4 ct4), sl4⟩)
    (c4 : PySem.W.codeIn K cd4 "relation" = true) (k4 : PySem.W.keepIn K (.ref f4) = true)
    {f5 : Addr} {od5 an5 : Option Addr} {sl5 : Array (Option Value)} {oc5 kV5 dc5 pm5 cd5 ct5 : Value}
    (a5 : PySem.W.nsIn K mainGlobals "crossings_of" = some (some (.ref f5)))
    (l5 : K.lookup f5 = some ⟨oc5, od5, .func (PySem.W.fnOf "crossings_of" "crossings_of" (defArgs d_crossings_of.st) (defBody d_crossings_of.st) (defScope d_crossings_of.st) .none kV5 dc5 pm5 an5 cd5 ct5), sl5⟩)
    (c5 : PySem.W.codeIn K cd5 "crossings_of" = true) (k5 : PySem.W.keepIn K (.ref f5) = true)
    {f6 : Addr} {od6 an6 : Option Addr} {sl6 : Array (Option Value)} {oc6 kV6 dc6 pm6 cd6 ct6 : Value}
    (a6 : PySem.W.nsIn K mainGlobals "crossings" = some (some (.ref f6)))
    (l6 : K.lookup f6 = some ⟨oc6, od6, .func (PySem.W.fnOf "crossings" "crossings" (defArgs d_crossings.st) (defBody d_crossings.st) (defScope d_crossings.st) .none kV6 dc6 pm6 an6 cd6 ct6), sl6⟩)
    (c6 : PySem.W.codeIn K cd6 "crossings" = true) (k6 : PySem.W.keepIn K (.ref f6) = true)
    {f7 : Addr} {od7 an7 : Option Addr} {sl7 : Array (Option Value)} {oc7 kV7 dc7 pm7 cd7 ct7 : Value}
    (a7 : PySem.W.nsIn K mainGlobals "rows_for" = some (some (.ref f7)))
    (l7 : K.lookup f7 = some ⟨oc7, od7, .func (PySem.W.fnOf "rows_for" "rows_for" (defArgs d_rows_for.st) (defBody d_rows_for.st) (defScope d_rows_for.st) .none kV7 dc7 pm7 an7 cd7 ct7), sl7⟩)
    (c7 : PySem.W.codeIn K cd7 "rows_for" = true) (k7 : PySem.W.keepIn K (.ref f7) = true)
    {f8 : Addr} {od8 an8 : Option Addr} {sl8 : Array (Option Value)} {oc8 kV8 dc8 pm8 cd8 ct8 : Value}
    (a8 : PySem.W.nsIn K mainGlobals "tree_of" = some (some (.ref f8)))
    (l8 : K.lookup f8 = some ⟨oc8, od8, .func (PySem.W.fnOf "tree_of" "tree_of" (defArgs d_tree_of.st) (defBody d_tree_of.st) (defScope d_tree_of.st) .none kV8 dc8 pm8 an8 cd8 ct8), sl8⟩)
    (c8 : PySem.W.codeIn K cd8 "tree_of" = true) (k8 : PySem.W.keepIn K (.ref f8) = true)
    {f9 : Addr} {od9 an9 : Option Addr} {sl9 : Array (Option Value)} {oc9 kV9 dc9 pm9 cd9 ct9 : Value}
    (a9 : PySem.W.nsIn K mainGlobals "_law_mix" = some (some (.ref f9)))
    (l9 : K.lookup f9 = some ⟨oc9, od9, .func (PySem.W.fnOf "_law_mix" "_law_mix" (defArgs d_law_mix.st) (defBody d_law_mix.st) (defScope d_law_mix.st) .none kV9 dc9 pm9 an9 cd9 ct9), sl9⟩)
    (c9 : PySem.W.codeIn K cd9 "_law_mix" = true) (k9 : PySem.W.keepIn K (.ref f9) = true)
    {f10 : Addr} {od10 an10 : Option Addr} {sl10 : Array (Option Value)} {oc10 kV10 dc10 pm10 cd10 ct10 : Value}
    (a10 : PySem.W.nsIn K mainGlobals "_law_next" = some (some (.ref f10)))
    (l10 : K.lookup f10 = some ⟨oc10, od10, .func (PySem.W.fnOf "_law_next" "_law_next" (defArgs d_law_next.st) (defBody d_law_next.st) (defScope d_law_next.st) .none kV10 dc10 pm10 an10 cd10 ct10), sl10⟩)
    (c10 : PySem.W.codeIn K cd10 "_law_next" = true) (k10 : PySem.W.keepIn K (.ref f10) = true)
    {f11 : Addr} {od11 an11 : Option Addr} {sl11 : Array (Option Value)} {oc11 kV11 dc11 pm11 cd11 ct11 : Value}
    (a11 : PySem.W.nsIn K mainGlobals "_law_signs" = some (some (.ref f11)))
    (l11 : K.lookup f11 = some ⟨oc11, od11, .func (PySem.W.fnOf "_law_signs" "_law_signs" (defArgs d_law_signs.st) (defBody d_law_signs.st) (defScope d_law_signs.st) .none kV11 dc11 pm11 an11 cd11 ct11), sl11⟩)
    (c11 : PySem.W.codeIn K cd11 "_law_signs" = true) (k11 : PySem.W.keepIn K (.ref f11) = true)
    {f12 : Addr} {od12 an12 : Option Addr} {sl12 : Array (Option Value)} {oc12 kV12 dc12 pm12 cd12 ct12 : Value}
    (a12 : PySem.W.nsIn K mainGlobals "_law_marks" = some (some (.ref f12)))
    (l12 : K.lookup f12 = some ⟨oc12, od12, .func (PySem.W.fnOf "_law_marks" "_law_marks" (defArgs d_law_marks.st) (defBody d_law_marks.st) (defScope d_law_marks.st) .none kV12 dc12 pm12 an12 cd12 ct12), sl12⟩)
    (c12 : PySem.W.codeIn K cd12 "_law_marks" = true) (k12 : PySem.W.keepIn K (.ref f12) = true)
    {f13 : Addr} {od13 an13 : Option Addr} {sl13 : Array (Option Value)} {oc13 kV13 dc13 pm13 cd13 ct13 : Value}
    (a13 : PySem.W.nsIn K mainGlobals "law" = some (some (.ref f13)))
    (l13 : K.lookup f13 = some ⟨oc13, od13, .func (PySem.W.fnOf "law" "law" (defArgs d_law.st) (defBody d_law.st) (defScope d_law.st) .none kV13 dc13 pm13 an13 cd13 ct13), sl13⟩)
    (c13 : PySem.W.codeIn K cd13 "law" = true) (k13 : PySem.W.keepIn K (.ref f13) = true)
    (z0 : PySem.W.nsIn K mainGlobals "isinstance" = some none)
    (z1 : PySem.W.nsIn K mainGlobals "range" = some none)
    (z2 : PySem.W.nsIn K mainGlobals "enumerate" = some none)
    (z3 : PySem.W.nsIn K mainGlobals "zip" = some none)
    (z4 : PySem.W.nsIn K mainGlobals "list" = some none)
    (z5 : PySem.W.nsIn K mainGlobals "len" = some none)
    (z6 : PySem.W.nsIn K mainGlobals "abs" = some none)
    (z7 : PySem.W.nsIn K mainGlobals "max" = some none)
    (z8 : PySem.W.nsIn K mainGlobals "min" = some none)
    (z9 : PySem.W.nsIn K mainGlobals "sum" = some none)
    (z10 : PySem.W.nsIn K mainGlobals "sorted" = some none)
    (z11 : PySem.W.nsIn K mainGlobals "tuple" = some none)
    (z12 : PySem.W.nsIn K mainGlobals "int" = some none)
    (z13 : PySem.W.nsIn K mainGlobals "str" = some none)
    (z14 : PySem.W.nsIn K mainGlobals "all" = some none)
    (z15 : PySem.W.nsIn K mainGlobals "any" = some none)
    (z16 : PySem.W.nsIn K mainGlobals "dict" = some none)
    (z17 : PySem.W.nsIn K mainGlobals "set" = some none)
    (z18 : PySem.W.nsIn K mainGlobals "bool" = some none)
    {u0 : Value} (gg0 : PySem.W.nsIn K mainGlobals "MOST_SIGNS" = some (some u0)) (rr0 : RelV (GV.v (.int (80))) u0)
    {u1 : Value} (gg1 : PySem.W.nsIn K mainGlobals "MOST_MARKS" = some (some u1)) (rr1 : RelV (GV.v (.int (40))) u1)
    {u2 : Value} (gg2 : PySem.W.nsIn K mainGlobals "MOST_NAME" = some (some u2)) (rr2 : RelV (GV.v (.int (6))) u2)
    {u3 : Value} (gg3 : PySem.W.nsIn K mainGlobals "LETTERS" = some (some u3)) (rr3 : RelV (GV.v (.str [97, 98, 99, 100, 101, 102, 103, 104, 105, 106, 107, 108, 109, 110, 111, 112, 113, 114, 115, 116, 117, 118, 119, 120, 121, 122])) u3)
    {lc7 lp7 : Addr} (t7 : PySem.W.tabIn K "rows_for" = some (lc7, lp7)) (n7 : K.lookup lp7 = none) (r7 : ∃ dL, (recsOf q).find? (fun e => e.name == ("rows_for" : Str)) = some dL)
    (uu : LT.uniqB [(lc7, lp7, "rows_for")] = true) :
    LamX.LawAtS l w K (L2.CX l.prog w) (5 + 4) 63 "_law_script" mg fa h := by
  have e := hfa.symm.trans (PySem.W.mg_of X G a13)
  cases e
  have F0 := fun_mk (st := d_need_signs.st) l0 c0 k0
  have b0 := F0.binds (ps := ["signs"]) fun _ _ _ _ _ _ us hl => match us, hl with | [_], _ => rfl
  have F1 := fun_mk (st := d_is_name.st) l1 c1 k1
  have b1 := F1.binds (ps := ["word"]) fun _ _ _ _ _ _ us hl => match us, hl with | [_], _ => rfl
  have F2 := fun_mk (st := d_need_marks.st) l2 c2 k2
  have b2 := F2.binds (ps := ["signs", "some"]) fun _ _ _ _ _ _ us hl => match us, hl with | [_, _], _ => rfl
  have F3 := fun_mk (st := d_word_for.st) l3 c3 k3
  have b3 := F3.binds (ps := ["one", "other"]) fun _ _ _ _ _ _ us hl => match us, hl with | [_, _], _ => rfl
  have F4 := fun_mk (st := d_relation.st) l4 c4 k4
  have b4 := F4.binds (ps := ["signs", "some", "one", "other"]) fun _ _ _ _ _ _ us hl => match us, hl with | [_, _, _, _], _ => rfl
  have F5 := fun_mk (st := d_crossings_of.st) l5 c5 k5
  have b5 := F5.binds (ps := ["some"]) fun _ _ _ _ _ _ us hl => match us, hl with | [_], _ => rfl
  have F6 := fun_mk (st := d_crossings.st) l6 c6 k6
  have b6 := F6.binds (ps := ["signs", "some"]) fun _ _ _ _ _ _ us hl => match us, hl with | [_, _], _ => rfl
  have F7 := fun_mk (st := d_rows_for.st) l7 c7 k7
  have b7 := F7.binds (ps := ["signs", "some"]) fun _ _ _ _ _ _ us hl => match us, hl with | [_, _], _ => rfl
  have F8 := fun_mk (st := d_tree_of.st) l8 c8 k8
  have b8 := F8.binds (ps := ["signs", "some"]) fun _ _ _ _ _ _ us hl => match us, hl with | [_, _], _ => rfl
  have F9 := fun_mk (st := d_law_mix.st) l9 c9 k9
  have b9 := F9.binds (ps := ["_law_script", "_law_seed"]) fun _ _ _ _ _ _ us hl => match us, hl with | [_, _], _ => rfl
  have F10 := fun_mk (st := d_law_next.st) l10 c10 k10
  have b10 := F10.binds (ps := ["_law_h", "_law_many"]) fun _ _ _ _ _ _ us hl => match us, hl with | [_, _], _ => rfl
  have F11 := fun_mk (st := d_law_signs.st) l11 c11 k11
  have b11 := F11.binds (ps := ["_law_h", "_law_most"]) fun _ _ _ _ _ _ us hl => match us, hl with | [_, _], _ => rfl
  have F12 := fun_mk (st := d_law_marks.st) l12 c12 k12
  have b12 := F12.binds (ps := ["_law_h", "_law_body", "_law_most"]) fun _ _ _ _ _ _ us hl => match us, hl with | [_, _, _], _ => rfl
  have F13 := fun_mk (st := d_law.st) l13 c13 k13
  have b13 := F13.binds (ps := ["_law_script"]) fun _ _ _ _ _ _ us hl => match us, hl with | [_], _ => rfl
  have fx : Facts K mg tbl gl := ⟨fun x hx => ?_, glB_ok ?_, ?_⟩
  · refine law_at (T := [(lc7, lp7, "rows_for")]) uu tabs (fun e he => ?_) fx ?_ hok (t := tbl) (d := d_law) rfl rfl rfl hfa F13 (fun s v => .of_eq rfl) hrun
    · simp only [List.mem_cons, List.not_mem_nil, or_false] at he
      rcases he with rfl
      · exact ⟨t7, n7, r7⟩
    · exact lk_cons (fun h => absurd h (by decide)) (lk_cons (fun h => absurd h (by decide)) (lk_cons (fun h => absurd h (by decide)) (lk_cons (fun h => absurd h (by decide)) (lk_cons (fun h => absurd h (by decide)) (lk_cons (fun h => absurd h (by decide)) (lk_cons (fun h => absurd h (by decide)) (lk_cons (fun _ => ⟨(lc7, lp7, "rows_for"), by simp, rfl, _, a7, PySem.W.mg_of X G a7⟩) (lk_cons (fun h => absurd h (by decide)) (lk_cons (fun h => absurd h (by decide)) (lk_cons (fun h => absurd h (by decide)) (lk_cons (fun h => absurd h (by decide)) (lk_cons (fun h => absurd h (by decide)) (lk_cons (fun h => absurd h (by decide)) (lk_nil))))))))))))))
  · exact blt_ok (fun y hy => by
      simp only [bltL, List.mem_cons, List.not_mem_nil, or_false] at hy
      rcases hy with rfl | rfl | rfl | rfl | rfl | rfl | rfl | rfl | rfl | rfl | rfl | rfl | rfl | rfl | rfl | rfl | rfl | rfl | rfl
      · exact PySem.W.mg_none_of X G z0
      · exact PySem.W.mg_none_of X G z1
      · exact PySem.W.mg_none_of X G z2
      · exact PySem.W.mg_none_of X G z3
      · exact PySem.W.mg_none_of X G z4
      · exact PySem.W.mg_none_of X G z5
      · exact PySem.W.mg_none_of X G z6
      · exact PySem.W.mg_none_of X G z7
      · exact PySem.W.mg_none_of X G z8
      · exact PySem.W.mg_none_of X G z9
      · exact PySem.W.mg_none_of X G z10
      · exact PySem.W.mg_none_of X G z11
      · exact PySem.W.mg_none_of X G z12
      · exact PySem.W.mg_none_of X G z13
      · exact PySem.W.mg_none_of X G z14
      · exact PySem.W.mg_none_of X G z15
      · exact PySem.W.mg_none_of X G z16
      · exact PySem.W.mg_none_of X G z17
      · exact PySem.W.mg_none_of X G z18) x hx
  · exact lk_cons ⟨_, PySem.W.mg_of X G gg0, rr0⟩ (lk_cons ⟨_, PySem.W.mg_of X G gg1, rr1⟩ (lk_cons ⟨_, PySem.W.mg_of X G gg2, rr2⟩ (lk_cons ⟨_, PySem.W.mg_of X G gg3, rr3⟩ (lk_nil))))
  · exact lk_cons ⟨_, _, F0, PySem.W.mg_of X G a0, b0⟩ (lk_cons ⟨_, _, F1, PySem.W.mg_of X G a1, b1⟩ (lk_cons ⟨_, _, F2, PySem.W.mg_of X G a2, b2⟩ (lk_cons ⟨_, _, F3, PySem.W.mg_of X G a3, b3⟩ (lk_cons ⟨_, _, F4, PySem.W.mg_of X G a4, b4⟩ (lk_cons ⟨_, _, F5, PySem.W.mg_of X G a5, b5⟩ (lk_cons ⟨_, _, F6, PySem.W.mg_of X G a6, b6⟩ (lk_cons ⟨_, _, F7, PySem.W.mg_of X G a7, b7⟩ (lk_cons ⟨_, _, F8, PySem.W.mg_of X G a8, b8⟩ (lk_cons ⟨_, _, F9, PySem.W.mg_of X G a9, b9⟩ (lk_cons ⟨_, _, F10, PySem.W.mg_of X G a10, b10⟩ (lk_cons ⟨_, _, F11, PySem.W.mg_of X G a11, b11⟩ (lk_cons ⟨_, _, F12, PySem.W.mg_of X G a12, b12⟩ (lk_cons ⟨_, _, F13, PySem.W.mg_of X G a13, b13⟩ (lk_nil))))))))))))))
end Lk33
open PySem PySem.W PyProof.Rows
set_option maxHeartbeats 0 in
theorem PySem.Challenge.cw_marksheaf_k33_whole_marks_more_and_fewer_holds : PySem.Challenge.rw_marksheaf_k33_whole_marks_more_and_fewer.Holds := by
  w_on; o_law; k_head; (case hw => w_witness2)
  k_fill
  refine VI.walk_tabs (l := PySem.Challenge.rw_marksheaf_k33_whole_marks_more_and_fewer) (n := 63) (k := 5 + 4) (x := "_law_script") (CX := fun w => L2.CX PySem.Challenge.rw_marksheaf_k33_whole_marks_more_and_fewer.prog w) rfl (by decide) rfl ⟨rfl, by decide, by decide⟩ (fun w h Y => by first | exact PySem.W.km_in_of Y | exact PySem.W.kIn_of Y) ?F (fun _ _ _ _ _ h => VI.cx_false h)
  case F =>
    intro w mg fa h KX G hmg tabs
    refine' Lk33.all_mk KX G hmg tabs ?a0 ?l0 ?c0 ?k0 ?a1 ?l1 ?c1 ?k1 ?a2 ?l2 ?c2 ?k2 ?a3 ?l3 ?c3 ?k3 ?a4 ?l4 ?c4 ?k4 ?a5 ?l5 ?c5 ?k5 ?a6 ?l6 ?c6 ?k6 ?a7 ?l7 ?c7 ?k7 ?a8 ?l8 ?c8 ?k8 ?a9 ?l9 ?c9 ?k9 ?a10 ?l10 ?c10 ?k10 ?a11 ?l11 ?c11 ?k11 ?a12 ?l12 ?c12 ?k12 ?a13 ?l13 ?c13 ?k13 ?z0 ?z1 ?z2 ?z3 ?z4 ?z5 ?z6 ?z7 ?z8 ?z9 ?z10 ?z11 ?z12 ?z13 ?z14 ?z15 ?z16 ?z17 ?z18 ?gg0 ?rr0 ?gg1 ?rr1 ?gg2 ?rr2 ?gg3 ?rr3 ?t7 ?n7 ?r7 ?uu
    (case a0 => k_is); (case l0 => k_is); (case c0 => k_is); (case k0 => k_is); (case a1 => k_is); (case l1 => k_is); (case c1 => k_is); (case k1 => k_is); (case a2 => k_is); (case l2 => k_is); (case c2 => k_is); (case k2 => k_is); (case a3 => k_is); (case l3 => k_is); (case c3 => k_is); (case k3 => k_is); (case a4 => k_is); (case l4 => k_is); (case c4 => k_is); (case k4 => k_is); (case a5 => k_is); (case l5 => k_is); (case c5 => k_is); (case k5 => k_is); (case a6 => k_is); (case l6 => k_is); (case c6 => k_is); (case k6 => k_is); (case a7 => k_is); (case l7 => k_is); (case c7 => k_is); (case k7 => k_is); (case a8 => k_is); (case l8 => k_is); (case c8 => k_is); (case k8 => k_is); (case a9 => k_is); (case l9 => k_is); (case c9 => k_is); (case k9 => k_is); (case a10 => k_is); (case l10 => k_is); (case c10 => k_is); (case k10 => k_is); (case a11 => k_is); (case l11 => k_is); (case c11 => k_is); (case k11 => k_is); (case a12 => k_is); (case l12 => k_is); (case c12 => k_is); (case k12 => k_is); (case a13 => k_is); (case l13 => k_is); (case c13 => k_is); (case k13 => k_is); (case z0 => k_is); (case z1 => k_is); (case z2 => k_is); (case z3 => k_is); (case z4 => k_is); (case z5 => k_is); (case z6 => k_is); (case z7 => k_is); (case z8 => k_is); (case z9 => k_is); (case z10 => k_is); (case z11 => k_is); (case z12 => k_is); (case z13 => k_is); (case z14 => k_is); (case z15 => k_is); (case z16 => k_is); (case z17 => k_is); (case z18 => k_is); (case gg0 => k_is); (case rr0 => exact ⟨_, rfl⟩); (case gg1 => k_is); (case rr1 => exact ⟨_, rfl⟩); (case gg2 => k_is); (case rr2 => exact ⟨_, rfl⟩); (case gg3 => k_is); (case rr3 => exact ⟨_, rfl⟩); (case t7 => with_unfolding_all exact rfl); (case n7 => first | kernel_rfl | with_unfolding_all exact rfl); (case r7 => first | exact ⟨_, rfl⟩ | with_unfolding_all exact ⟨_, rfl⟩); (case uu => decide +kernel)

