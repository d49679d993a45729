import PyProof.Rows.All
import Wide.All
import OpenK.AllK
import Wide.FinOn
import HandS.ForMost
import HandS.Lambda
import PySem.Spec
import HandS.Style
import KE.IntText
import HandS.ForSpec
import HandS.Deep
import HandS.IsInst
import PyProof.StrOps2
import HandS.Wide
import HandS.Conv
import HandS.TupLe
import HandS.Exc
import KE.SortKeyHeap
import KE.KExcStr
import KE.KxPercent
import KE.KIntText
import HandS.SortInts
import HandS.More
import HandS.CallSlots
import HandS.Iter
import HandS.Walk
import KE.GoesMore
import HandS.TryOnly
import HandS.SetFor
import PyProof.SeqRoads2
import HandS.DictComp
import HandS.CallRecv
import HandS.Defaults
import HandS.ExcInit
import HandS.ClsMeth
import HandS.MakeKwOnly
import HandS.WordsExc
import HandS.ExcIs
import HandS.ExcField
import KE.DataFind
import KE.KExcIs
import HandS.Codes
import HandS.StrMore
import HandS.Strs
import PyProof.Rows.SortShellAny
import HandS.List
import HandS.Text
import HandS.Flow
import PyProof.ZipIter
import PyProof.SliceStr2
import KE.KRevSl
import KE.KEqDict
import KE.KDictKeyed
import KE.KDictSum
import HandS.DictTup
import HandS.DictSubView
import HandS.SetKeys
import KE.KDictCopyH
import HandS.EndTab
import PySem.Challenge.RW_marksheaf_k21_marks_written_and_read
set_option Elab.async false
set_option linter.all false
set_option maxRecDepth 100000
set_option autoImplicit false
namespace VI
open PySem PySem.Spec PyProof.Rows L2

inductive D where
  | non | bl (b : Bool) | int (i : Int) | str (s : List Nat)
  | tup (xs : List D)
  | lst (m : Bool) (xs : List D)
  | dic (m : Bool) (kvs : List (Key × D))
  | dit (m : Bool) (kvs : List (List Key × D))
  | ins (C : Str) (fs : List (Str × D))
  | scr (ns : List Int)
  deriving Inhabited

abbrev ST (l : List Nat) : Str := ⟨l.toArray⟩
def okCs (l : List Nat) : Bool := l.all fun c => decide (c < 0x110000)
def okK : Key → Bool
  | .inl _ => true
  | .inr x => okCs x.cps.toList
def okKs (k : List Key) : Bool := k.all okK

mutual
def D.pure : D → Bool
  | .non => true | .bl _ => true | .int _ => true | .str _ => true | .scr _ => true
  | .tup xs => pureL xs
  | .lst m xs => !m && pureL xs
  | .dic m kvs => !m && pureK kvs
  | .dit m kvs => !m && pureT kvs
  | .ins _ _ => false
def pureL : List D → Bool
  | [] => true
  | x :: xs => x.pure && pureL xs
def pureK : List (Key × D) → Bool
  | [] => true
  | (_, x) :: xs => x.pure && pureK xs
def pureT : List (List Key × D) → Bool
  | [] => true
  | (_, x) :: xs => x.pure && pureT xs
end

mutual
def D.frz : D → D
  | .tup xs => .tup (frzL xs)
  | .lst _ xs => .lst false (frzL xs)
  | .dic _ kvs => .dic false (frzK kvs)
  | .dit _ kvs => .dit false (frzT kvs)
  | .ins C fs => .ins C fs
  | .non => .non | .bl b => .bl b | .int i => .int i | .str s => .str s | .scr s => .scr s
def frzL : List D → List D
  | [] => []
  | x :: xs => x.frz :: frzL xs
def frzK : List (Key × D) → List (Key × D)
  | [] => []
  | (k, x) :: xs => (k, x.frz) :: frzK xs
def frzT : List (List Key × D) → List (List Key × D)
  | [] => []
  | (k, x) :: xs => (k, x.frz) :: frzT xs
end

mutual
/-- frozen data: it lies in the frozen part F -/
inductive Fz (K : PySem.W.Frag) (F : Hp) : V → D → Prop
  | non : Fz K F .non .non
  | bl (b : Bool) : Fz K F (.bl b) (.bl b)
  | int (i : Int) : Fz K F (.int i) (.int i)
  | str (l : List Nat) (h : okCs l = true) : Fz K F (.str ⟨l.toArray⟩) (.str l)
  | tup {a : Addr} {vs : List V} {ds : List D} : F a = some (.tup vs) → FzL K F vs ds → Fz K F (.ref a) (.tup ds)
  | lst {a : Addr} {vs : List V} {ds : List D} : F a = some (.lst vs) → FzL K F vs ds → Fz K F (.ref a) (.lst false ds)
  | dic {a : Addr} {o : Obj} {vs : List (Key × V)} {ds : List (Key × D)} : F a = some (.frz o (.dK vs)) → FzK K F vs ds → Fz K F (.ref a) (.dic false ds)
  | dit {a : Addr} {o : Obj} {vs : List (List Key × V)} {ds : List (List Key × D)} : F a = some (.frz o (.dT vs)) → FzT K F vs ds → Fz K F (.ref a) (.dit false ds)
  | scr {a : Addr} {ns : List Int} : SqL K F a (ns.map V.int) → Fz K F (.ref a) (.scr ns)
inductive FzL (K : PySem.W.Frag) (F : Hp) : List V → List D → Prop
  | nil : FzL K F [] []
  | cons {v d vs ds} : Fz K F v d → FzL K F vs ds → FzL K F (v :: vs) (d :: ds)
inductive FzK (K : PySem.W.Frag) (F : Hp) : List (Key × V) → List (Key × D) → Prop
  | nil : FzK K F [] []
  | cons {k v d vs ds} : okK k = true → Fz K F v d → FzK K F vs ds → FzK K F ((k, v) :: vs) ((k, d) :: ds)
inductive FzT (K : PySem.W.Frag) (F : Hp) : List (List Key × V) → List (List Key × D) → Prop
  | nil : FzT K F [] []
  | cons {k v d vs ds} : okKs k = true → Fz K F v d → FzT K F vs ds → FzT K F ((k, v) :: vs) ((k, d) :: ds)
end

class Tn where
  tns : List (Addr × Str)
  uniq : ∀ p ∈ tns, ∀ q ∈ tns, p.1 = q.1 → p.2 = q.2
variable [Tn]
def Tn.tn (P : Addr) (q : Str) : Prop := (P, q) ∈ Tn.tns
def Mtb : HO → Prop
  | .lst _ => True
  | .dK _ => True
  | .dT _ => True
  | .set _ _ => True
  | .ins _ _ _ => True
  | _ => False
theorem Mtb.mut {u : HO} (h : Mtb u) : Mut (some u) := by
  cases u <;> first | exact True.intro | exact h.elim
theorem Mtb.ntbl {u : HO} (h : Mtb u) : ∀ ps, u ≠ .tbl ps := fun ps z => by rw [z] at h; exact h
theorem Mtb.next {u : HO} (h : Mtb u) : ∀ φ, u ≠ .ext φ := fun ps z => by rw [z] at h; exact h
abbrev AS := Addr → Prop
def no : AS := fun _ => False
def cup (A B : AS) : AS := fun a => A a ∨ B a
def Dj (A B : AS) : Prop := ∀ a, A a → ¬ B a
def Sb (A B : AS) : Prop := ∀ a, A a → B a
theorem Dj.no_l {A : AS} : Dj no A := fun _ h => h.elim
theorem Dj.no_r {A : AS} : Dj A no := fun _ _ h => h
theorem Dj.symm {A B : AS} (h : Dj A B) : Dj B A := fun a b c => h a c b
theorem Sb.rfl' {A : AS} : Sb A A := fun _ h => h
theorem Sb.no_l {A : AS} : Sb no A := fun _ h => h.elim
theorem Sb.l {A B : AS} : Sb A (cup A B) := fun _ h => .inl h
theorem Sb.r {A B : AS} : Sb B (cup A B) := fun _ h => .inr h
theorem Sb.trans {A B C : AS} (h : Sb A B) (h' : Sb B C) : Sb A C := fun a x => h' a (h a x)
theorem Dj.sub {A B A' B' : AS} (h : Dj A B) (h1 : Sb A' A) (h2 : Sb B' B) : Dj A' B' := fun a x y => h a (h1 a x) (h2 a y)

mutual
/-- data that may have parts of its own: their addresses lie in A -/
inductive Own (K : PySem.W.Frag) (mg : Str → Option Value) (F H : Hp) : V → D → AS → Prop
  | fz {v d A} : Fz K F v d → Own K mg F H v d A
  | lst {a : Addr} {vs : List V} {ds : List D} {A B : AS} : H a = some (.lst vs) → A a → ¬ B a → Sb B A → OwnL K mg F H vs ds B → Own K mg F H (.ref a) (.lst true ds) A
  | dic {a : Addr} {vs : List (Key × V)} {ds : List (Key × D)} {A B : AS} : H a = some (.dK vs) → A a → ¬ B a → Sb B A → OwnK K mg F H vs ds B → Own K mg F H (.ref a) (.dic true ds) A
  | dit {a : Addr} {vs : List (List Key × V)} {ds : List (List Key × D)} {A B : AS} : H a = some (.dT vs) → A a → ¬ B a → Sb B A → OwnT K mg F H vs ds B → Own K mg F H (.ref a) (.dit true ds) A
  | ins {a C dx : Addr} {c : Str} {vs : List (Str × V)} {ds : List (Str × D)} {A B : AS} : mg c = some (.ref C) → H a = some (.ins C dx vs) → A a → ¬ B a → Sb B A → OwnF K mg F H vs ds B → Own K mg F H (.ref a) (.ins c ds) A
inductive OwnL (K : PySem.W.Frag) (mg : Str → Option Value) (F H : Hp) : List V → List D → AS → Prop
  | nil {A} : OwnL K mg F H [] [] A
  | cons {v d vs ds A1 A2 A} : Own K mg F H v d A1 → OwnL K mg F H vs ds A2 → Dj A1 A2 → Sb A1 A → Sb A2 A → OwnL K mg F H (v :: vs) (d :: ds) A
inductive OwnK (K : PySem.W.Frag) (mg : Str → Option Value) (F H : Hp) : List (Key × V) → List (Key × D) → AS → Prop
  | nil {A} : OwnK K mg F H [] [] A
  | cons {k v d vs ds A1 A2 A} : okK k = true → Own K mg F H v d A1 → OwnK K mg F H vs ds A2 → Dj A1 A2 → Sb A1 A → Sb A2 A → OwnK K mg F H ((k, v) :: vs) ((k, d) :: ds) A
inductive OwnT (K : PySem.W.Frag) (mg : Str → Option Value) (F H : Hp) : List (List Key × V) → List (List Key × D) → AS → Prop
  | nil {A} : OwnT K mg F H [] [] A
  | cons {k v d vs ds A1 A2 A} : okKs k = true → Own K mg F H v d A1 → OwnT K mg F H vs ds A2 → Dj A1 A2 → Sb A1 A → Sb A2 A → OwnT K mg F H ((k, v) :: vs) ((k, d) :: ds) A
inductive OwnF (K : PySem.W.Frag) (mg : Str → Option Value) (F H : Hp) : List (Str × V) → List (Str × D) → AS → Prop
  | nil {A} : OwnF K mg F H [] [] A
  | cons {k v d vs ds A1 A2 A} : Own K mg F H v d A1 → OwnF K mg F H vs ds A2 → Dj A1 A2 → Sb A1 A → Sb A2 A → OwnF K mg F H ((k, v) :: vs) ((k, d) :: ds) A
end

inductive Slots (K : PySem.W.Frag) (mg : Str → Option Value) (F H : Hp) : L2.St → List (Option D) → AS → Prop
  | nil {A} : Slots K mg F H [] [] A
  | skip {s σ ρ A} : Slots K mg F H σ ρ A → Slots K mg F H (s :: σ) (none :: ρ) A
  | cons {v d σ ρ A1 A2 A} : Own K mg F H v d A1 → Slots K mg F H σ ρ A2 → Dj A1 A2 → Sb A1 A → Sb A2 A → Slots K mg F H (some v :: σ) (some d :: ρ) A

structure Wd (F H : Hp) (A : AS) : Prop where
  same : Same F H
  own : ∀ a, A a → F a = none ∧ ∃ u, H a = some u ∧ Mtb u
  tab : ∀ P q, Tn.tn P q → LamX.TabS H P q
  nof : ∀ a ps, F a ≠ some (.tbl ps)

def Fk (H H' : Hp) : Prop := ∀ a C dx vs, H a = some (.ins C dx vs) → ∃ dx' vs', H' a = some (.ins C dx' vs') ∧ ∀ (f : Str) (p : Addr), vs.lookup f = some (.ref p) → vs'.lookup f = some (.ref p)
theorem Fk.refl {H : Hp} : Fk H H := fun _ _ dx vs e => ⟨dx, vs, e, fun _ _ q => q⟩
theorem Fk.trans {H H1 H2 : Hp} (a : Fk H H1) (b : Fk H1 H2) : Fk H H2 := fun x C dx vs e => by
  obtain ⟨dx1, vs1, e1, k1⟩ := a x C dx vs e
  obtain ⟨dx2, vs2, e2, k2⟩ := b x C dx1 vs1 e1
  exact ⟨dx2, vs2, e2, fun f p q => k2 f p (k1 f p q)⟩
theorem Fk.grow {H H' : Hp} (h : ∀ a o, H a = some o → H' a = some o) : Fk H H' := fun a C dx vs e => ⟨dx, vs, h a _ e, fun _ _ q => q⟩
theorem Fk.but {H H' : Hp} {p : Addr} (h : ∀ a, a ≠ p → H' a = H a) (n : ∀ C dx vs, H p ≠ some (.ins C dx vs)) : Fk H H' := fun a C dx vs e => ⟨dx, vs, by rw [h a fun z => n C dx vs (z ▸ e)]; exact e, fun _ _ q => q⟩
theorem Fk.upd {H : Hp} {p : Addr} {o : HO} (n : ∀ C dx vs, H p ≠ some (.ins C dx vs)) : Fk H (upd H p o) := Fk.but (fun a h => upd_ne h) n
def FkO (u : Option HO) (o : HO) : Prop := ∀ C dx vs, u = some (.ins C dx vs) → ∃ dx' vs', o = .ins C dx' vs' ∧ ∀ (f : Str) (p : Addr), vs.lookup f = some (.ref p) → vs'.lookup f = some (.ref p)
theorem FkO.of {u : Option HO} {x o : HO} (h : u = some x) (n : ∀ C dx vs, x ≠ .ins C dx vs := by exact fun _ _ _ z => nomatch z) : FkO u o := fun C dx vs e => by
  rw [h] at e
  exact absurd (Option.some.inj e) (n C dx vs)
theorem Fk.put {H : Hp} {p : Addr} {o : HO} (h : FkO (H p) o) : Fk H (L2.upd H p o) := fun a C dx vs e => by
  by_cases z : a = p
  · subst z
    obtain ⟨dx', vs', rfl, k⟩ := h C dx vs e
    exact ⟨dx', vs', upd_same, k⟩
  · exact ⟨dx, vs, by rw [upd_ne z]; exact e, fun _ _ q => q⟩
structure Ext (F H : Hp) (A : AS) (F' H' : Hp) (A' : AS) : Prop where
  fsame : Same F F'
  wd : Wd F' H' A'
  keep : ∀ a o, H a = some o → ¬ A a → (∀ ps, o ≠ .tbl ps) → H' a = some o
  tkeep : ∀ a ps, H a = some (.tbl ps) → ∃ ps', H' a = some (.tbl ps')
  fnew : ∀ a, F' a ≠ none → F a ≠ none ∨ H a = none ∨ A a ∨ ∃ vs, H a = some (.tup vs)
  anew : ∀ a, A' a → A a ∨ H a = none
  fk : Fk H H'

theorem Wd.sub {F H : Hp} {A B : AS} (w : Wd F H A) (h : Sb B A) : Wd F H B := ⟨w.same, fun a x => w.own a (h a x), w.tab, w.nof⟩
theorem Wd.no {F H : Hp} {A : AS} (w : Wd F H A) : Wd F H no := w.sub Sb.no_l
theorem Ext.refl {F H : Hp} {A : AS} (w : Wd F H A) : Ext F H A F H A := ⟨fun _ _ e => e, w, fun _ _ e _ _ => e, fun _ ps e => ⟨ps, e⟩, fun _ h => .inl h, fun _ h => .inl h, Fk.refl⟩
theorem Ext.sub {F H F' H' : Hp} {A A' B : AS} (e : Ext F H A F' H' A') (h : Sb B A') : Ext F H A F' H' B := ⟨e.fsame, e.wd.sub h, e.keep, e.tkeep, e.fnew, fun a x => e.anew a (h a x), e.fk⟩
theorem Ext.more {F H F' H' : Hp} {A A' B : AS} (e : Ext F H A F' H' A') (h : Sb A B) : Ext F H B F' H' A' :=
  ⟨e.fsame, e.wd, fun a o x n t => e.keep a o x (fun z => n (h a z)) t, e.tkeep, fun a x => (e.fnew a x).imp id (fun y => y.imp id (fun y => y.imp (h a) id)), fun a x => (e.anew a x).imp (h a) id, e.fk⟩
theorem Ext.still {F H F' H' : Hp} {A A' : AS} (e : Ext F H A F' H' A') {a : Addr} {o : HO} (h : H a = some o) (n : ¬ A a) : ∃ o', H' a = some o' ∧ ((∀ ps, o' ≠ .tbl ps) → o' = o) := by
  by_cases t : ∃ ps, o = .tbl ps
  · obtain ⟨ps, rfl⟩ := t
    obtain ⟨ps', q⟩ := e.tkeep a ps h
    exact ⟨_, q, fun z => (z ps' rfl).elim⟩
  · exact ⟨o, e.keep a o h n fun ps z => t ⟨ps, z⟩, fun _ => rfl⟩
theorem Ext.trans {F H F1 H1 F2 H2 : Hp} {A A1 A2 : AS} (w : Wd F H A) (e : Ext F H A F1 H1 A1) (e' : Ext F1 H1 A1 F2 H2 A2) : Ext F H A F2 H2 A2 := by
  refine ⟨fun a o x => e'.fsame a o (e.fsame a o x), e'.wd, fun a o x n t => e'.keep a o (e.keep a o x n t) (fun z => ?_) t, fun a ps x => ?_, fun a x => ?_, fun a x => ?_, e.fk.trans e'.fk⟩
  · rcases e.anew a z with y | y
    · exact n y
    · rw [x] at y; cases y
  · obtain ⟨ps', y⟩ := e.tkeep a ps x
    exact e'.tkeep a ps' y
  · rcases e'.fnew a x with y | y | y | ⟨vs, y⟩
    · exact e.fnew a y
    · by_cases hA : A a
      · exact .inr (.inr (.inl hA))
      · refine .inr (.inl ?_)
        cases q : H a with
        | none => rfl
        | some o =>
          obtain ⟨o', this, _⟩ := e.still q hA
          rw [this] at y; cases y
    · rcases e.anew a y with z | z
      · exact .inr (.inr (.inl z))
      · exact .inr (.inl z)
    · by_cases hA : A a
      · exact .inr (.inr (.inl hA))
      · cases q : H a with
        | none => exact .inr (.inl rfl)
        | some o =>
          obtain ⟨o', this, k⟩ := e.still q hA
          rw [this] at y; cases y
          have := k fun ps z => by cases z
          subst this
          exact .inr (.inr (.inr ⟨vs, rfl⟩))
  · rcases e'.anew a x with y | y
    · exact e.anew a y
    · by_cases hA : A a
      · exact .inl hA
      · refine .inr ?_
        cases q : H a with
        | none => rfl
        | some o =>
          obtain ⟨o', this, _⟩ := e.still q hA
          rw [this] at y; cases y
theorem Ext.frame {F H F' H' : Hp} {A A' B : AS} (w : Wd F H (cup A B)) (d : Dj A B) (e : Ext F H A F' H' A') : Ext F H (cup A B) F' H' (cup A' B) ∧ Dj A' B := by
  have out : ∀ a, B a → F' a = none ∧ (∃ u, H' a = some u ∧ Mtb u) ∧ ¬ A' a := fun a b => by
    have q := w.own a (.inr b)
    have na : ¬ A a := fun z => d a z b
    obtain ⟨o, ho, mo⟩ := q.2
    refine ⟨?_, ?_, ?_⟩
    · cases x : F' a with
      | none => rfl
      | some u =>
        rcases e.fnew a (by rw [x]; intro z; cases z) with y | y | y | ⟨vs, y⟩
        · exact absurd q.1 y
        · rw [ho] at y; cases y
        · exact absurd y na
        · rw [ho] at y; cases y; exact mo.elim
    · exact ⟨o, e.keep a o ho na mo.ntbl, mo⟩
    · intro z
      rcases e.anew a z with y | y
      · exact na y
      · rw [ho] at y; cases y
  refine ⟨⟨e.fsame, ⟨e.wd.same, fun a x => ?_, e.wd.tab, e.wd.nof⟩, fun a o x n t => e.keep a o x (fun z => n (.inl z)) t, e.tkeep, fun a x => (e.fnew a x).imp id (fun y => y.imp id (fun y => y.imp .inl id)), fun a x => ?_, e.fk⟩, fun a x y => (out a y).2.2 x⟩
  · rcases x with x | x
    · exact e.wd.own a x
    · exact ⟨(out a x).1, (out a x).2.1⟩
  · rcases x with x | x
    · exact (e.anew a x).imp .inl id
    · exact .inl (.inr x)

section
variable {K : PySem.W.Frag} {mg : Str → Option Value}
/-! ### frozen data stays -/
theorem SqT.up {F F' : Hp} {a : Addr} {vs : List V} (s : Same F F') (h : SqT K F a vs) : SqT K F' a vs := by
  rcases h with h | h
  · rcases h with h | ⟨o, h⟩
    · exact .inl (.inl (s _ _ h))
    · exact .inl (.inr ⟨o, s _ _ h⟩)
  · exact .inr h
theorem SqL.up {F F' : Hp} {a : Addr} {vs : List V} (s : Same F F') (h : SqL K F a vs) : SqL K F' a vs := by
  rcases h with h | h
  · rcases h with h | ⟨o, h⟩
    · exact .inl (.inl (s _ _ h))
    · exact .inl (.inr ⟨o, s _ _ h⟩)
  · exact .inr h
mutual
theorem Fz.up {F F' : Hp} (s : Same F F') : ∀ {v : V} {d : D}, Fz K F v d → Fz K F' v d
  | _, _, .non => .non
  | _, _, .bl b => .bl b
  | _, _, .int i => .int i
  | _, _, .str l h => .str l h
  | _, _, .tup h r => .tup (s _ _ h) (FzL.up s r)
  | _, _, .lst h r => .lst (s _ _ h) (FzL.up s r)
  | _, _, .dic h r => .dic (s _ _ h) (FzK.up s r)
  | _, _, .dit h r => .dit (s _ _ h) (FzT.up s r)
  | _, _, .scr h => .scr (SqL.up s h)
theorem FzL.up {F F' : Hp} (s : Same F F') : ∀ {v : List V} {d : List D}, FzL K F v d → FzL K F' v d
  | _, _, .nil => .nil
  | _, _, .cons h r => .cons (Fz.up s h) (FzL.up s r)
theorem FzK.up {F F' : Hp} (s : Same F F') : ∀ {v : List (Key × V)} {d : List (Key × D)}, FzK K F v d → FzK K F' v d
  | _, _, .nil => .nil
  | _, _, .cons o h r => .cons o (Fz.up s h) (FzK.up s r)
theorem FzT.up {F F' : Hp} (s : Same F F') : ∀ {v : List (List Key × V)} {d : List (List Key × D)}, FzT K F v d → FzT K F' v d
  | _, _, .nil => .nil
  | _, _, .cons o h r => .cons o (Fz.up s h) (FzT.up s r)
end
mutual
theorem Fz.pure {F : Hp} : ∀ {v : V} {d : D}, Fz K F v d → d.pure = true
  | _, _, .non => rfl
  | _, _, .bl b => rfl
  | _, _, .int i => rfl
  | _, _, .str l h => rfl
  | _, _, .tup h r => by simp only [D.pure]; exact FzL.pure r
  | _, _, .lst h r => by simp only [D.pure, Bool.not_false, Bool.true_and]; exact FzL.pure r
  | _, _, .dic h r => by simp only [D.pure, Bool.not_false, Bool.true_and]; exact FzK.pure r
  | _, _, .dit h r => by simp only [D.pure, Bool.not_false, Bool.true_and]; exact FzT.pure r
  | _, _, .scr h => rfl
theorem FzL.pure {F : Hp} : ∀ {v : List V} {d : List D}, FzL K F v d → pureL d = true
  | _, _, .nil => rfl
  | _, _, .cons h r => by simp only [pureL, Bool.and_eq_true]; exact ⟨Fz.pure h, FzL.pure r⟩
theorem FzK.pure {F : Hp} : ∀ {v : List (Key × V)} {d : List (Key × D)}, FzK K F v d → pureK d = true
  | _, _, .nil => rfl
  | _, _, .cons _ h r => by simp only [pureK, Bool.and_eq_true]; exact ⟨Fz.pure h, FzK.pure r⟩
theorem FzT.pure {F : Hp} : ∀ {v : List (List Key × V)} {d : List (List Key × D)}, FzT K F v d → pureT d = true
  | _, _, .nil => rfl
  | _, _, .cons _ h r => by simp only [pureT, Bool.and_eq_true]; exact ⟨Fz.pure h, FzT.pure r⟩
end
mutual
/-- data without a part of its own is frozen -/
theorem Own.fzd {F H : Hp} {A : AS} : ∀ {v : V} {d : D}, Own K mg F H v d A → d.pure = true → Fz K F v d
  | _, _, .fz h, _ => h
  | _, _, .lst .., p => by simp [D.pure] at p
  | _, _, .dic .., p => by simp [D.pure] at p
  | _, _, .dit .., p => by simp [D.pure] at p
  | _, _, .ins .., p => by simp [D.pure] at p
theorem OwnL.fzd {F H : Hp} {A : AS} : ∀ {v : List V} {d : List D}, OwnL K mg F H v d A → pureL d = true → FzL K F v d
  | _, _, .nil, _ => .nil
  | _, _, .cons h r _ _ _, p => by
    simp only [pureL, Bool.and_eq_true] at p
    exact .cons (Own.fzd h p.1) (OwnL.fzd r p.2)
theorem OwnK.fzd {F H : Hp} {A : AS} : ∀ {v : List (Key × V)} {d : List (Key × D)}, OwnK K mg F H v d A → pureK d = true → FzK K F v d
  | _, _, .nil, _ => .nil
  | _, _, .cons o h r _ _ _, p => by
    simp only [pureK, Bool.and_eq_true] at p
    exact .cons o (Own.fzd h p.1) (OwnK.fzd r p.2)
theorem OwnT.fzd {F H : Hp} {A : AS} : ∀ {v : List (List Key × V)} {d : List (List Key × D)}, OwnT K mg F H v d A → pureT d = true → FzT K F v d
  | _, _, .nil, _ => .nil
  | _, _, .cons o h r _ _ _, p => by
    simp only [pureT, Bool.and_eq_true] at p
    exact .cons o (Own.fzd h p.1) (OwnT.fzd r p.2)
end
mutual
theorem Own.sub {F H : Hp} {A A' : AS} (h : Sb A A') : ∀ {v : V} {d : D}, Own K mg F H v d A → Own K mg F H v d A'
  | _, _, .fz x => .fz x
  | _, _, .lst a b c e r => .lst a (h _ b) c (e.trans h) r
  | _, _, .dic a b c e r => .dic a (h _ b) c (e.trans h) r
  | _, _, .dit a b c e r => .dit a (h _ b) c (e.trans h) r
  | _, _, .ins g a b c e r => .ins g a (h _ b) c (e.trans h) r
end
theorem OwnL.sub {F H : Hp} {A A' : AS} (h : Sb A A') : ∀ {v : List V} {d : List D}, OwnL K mg F H v d A → OwnL K mg F H v d A'
  | _, _, .nil => .nil
  | _, _, .cons x r a b c => .cons x r a (b.trans h) (c.trans h)
theorem Slots.sub {F H : Hp} {A A' : AS} (h : Sb A A') {σ : L2.St} {ρ : List (Option D)} (s : Slots K mg F H σ ρ A) : Slots K mg F H σ ρ A' := by
  induction s with
  | nil => exact .nil
  | skip _ ih => exact .skip (ih h)
  | cons x r a b c _ => exact .cons x r a (b.trans h) (c.trans h)
mutual
/-- another heap that keeps what is owned -/
theorem Own.move' {F H F' H' : Hp} (sf : Same F F') : ∀ {v : V} {d : D} {A : AS}, (∀ a o, A a → H a = some o → Mtb o → H' a = some o) → Own K mg F H v d A → Own K mg F' H' v d A
  | _, _, _, _, .fz x => .fz (Fz.up sf x)
  | _, _, _, k, .lst a b c e r => .lst (k _ _ b a True.intro) b c e (OwnL.move' sf (fun x o y => k x o (e x y)) r)
  | _, _, _, k, .dic a b c e r => .dic (k _ _ b a True.intro) b c e (OwnK.move' sf (fun x o y => k x o (e x y)) r)
  | _, _, _, k, .dit a b c e r => .dit (k _ _ b a True.intro) b c e (OwnT.move' sf (fun x o y => k x o (e x y)) r)
  | _, _, _, k, .ins g a b c e r => .ins g (k _ _ b a True.intro) b c e (OwnF.move' sf (fun x o y => k x o (e x y)) r)
theorem OwnL.move' {F H F' H' : Hp} (sf : Same F F') : ∀ {v : List V} {d : List D} {A : AS}, (∀ a o, A a → H a = some o → Mtb o → H' a = some o) → OwnL K mg F H v d A → OwnL K mg F' H' v d A
  | _, _, _, _, .nil => .nil
  | _, _, _, k, .cons x r a b c => .cons (Own.move' sf (fun z o y => k z o (b z y)) x) (OwnL.move' sf (fun z o y => k z o (c z y)) r) a b c
theorem OwnK.move' {F H F' H' : Hp} (sf : Same F F') : ∀ {v : List (Key × V)} {d : List (Key × D)} {A : AS}, (∀ a o, A a → H a = some o → Mtb o → H' a = some o) → OwnK K mg F H v d A → OwnK K mg F' H' v d A
  | _, _, _, _, .nil => .nil
  | _, _, _, k, .cons o x r a b c => .cons o (Own.move' sf (fun z o y => k z o (b z y)) x) (OwnK.move' sf (fun z o y => k z o (c z y)) r) a b c
theorem OwnT.move' {F H F' H' : Hp} (sf : Same F F') : ∀ {v : List (List Key × V)} {d : List (List Key × D)} {A : AS}, (∀ a o, A a → H a = some o → Mtb o → H' a = some o) → OwnT K mg F H v d A → OwnT K mg F' H' v d A
  | _, _, _, _, .nil => .nil
  | _, _, _, k, .cons o x r a b c => .cons o (Own.move' sf (fun z o y => k z o (b z y)) x) (OwnT.move' sf (fun z o y => k z o (c z y)) r) a b c
theorem OwnF.move' {F H F' H' : Hp} (sf : Same F F') : ∀ {v : List (Str × V)} {d : List (Str × D)} {A : AS}, (∀ a o, A a → H a = some o → Mtb o → H' a = some o) → OwnF K mg F H v d A → OwnF K mg F' H' v d A
  | _, _, _, _, .nil => .nil
  | _, _, _, k, .cons x r a b c => .cons (Own.move' sf (fun z o y => k z o (b z y)) x) (OwnF.move' sf (fun z o y => k z o (c z y)) r) a b c
end
theorem Slots.move' {F H F' H' : Hp} (sf : Same F F') {σ : L2.St} {ρ : List (Option D)} {A : AS} (s : Slots K mg F H σ ρ A) : (∀ a o, A a → H a = some o → Mtb o → H' a = some o) → Slots K mg F' H' σ ρ A := by
  induction s with
  | nil => intro _; exact .nil
  | skip _ ih => intro k; exact .skip (ih k)
  | cons x r a b c ih => intro k; exact .cons (Own.move' sf (fun z o y => k z o (b z y)) x) (ih fun z o y => k z o (c z y)) a b c
section
variable {F H F' H' : Hp} {A : AS}
theorem Own.move (sf : Same F F') {v : V} {d : D} (k : ∀ a o, A a → H a = some o → H' a = some o) (x : Own K mg F H v d A) : Own K mg F' H' v d A := x.move' sf fun a o z e _ => k a o z e
theorem OwnL.move (sf : Same F F') {v : List V} {d : List D} (k : ∀ a o, A a → H a = some o → H' a = some o) (x : OwnL K mg F H v d A) : OwnL K mg F' H' v d A := x.move' sf fun a o z e _ => k a o z e
theorem OwnK.move (sf : Same F F') {v : List (Key × V)} {d : List (Key × D)} (k : ∀ a o, A a → H a = some o → H' a = some o) (x : OwnK K mg F H v d A) : OwnK K mg F' H' v d A := x.move' sf fun a o z e _ => k a o z e
theorem OwnT.move (sf : Same F F') {v : List (List Key × V)} {d : List (List Key × D)} (k : ∀ a o, A a → H a = some o → H' a = some o) (x : OwnT K mg F H v d A) : OwnT K mg F' H' v d A := x.move' sf fun a o z e _ => k a o z e
theorem OwnF.move (sf : Same F F') {v : List (Str × V)} {d : List (Str × D)} (k : ∀ a o, A a → H a = some o → H' a = some o) (x : OwnF K mg F H v d A) : OwnF K mg F' H' v d A := x.move' sf fun a o z e _ => k a o z e
theorem Slots.move (sf : Same F F') {σ : L2.St} {ρ : List (Option D)} (s : Slots K mg F H σ ρ A) (k : ∀ a o, A a → H a = some o → H' a = some o) : Slots K mg F' H' σ ρ A := s.move' sf fun a o z e _ => k a o z e
end
theorem Own.ext {F H F' H' : Hp} {A A' B : AS} (e : Ext F H A F' H' A') (d : Dj A B) {v : V} {x : D} (o : Own K mg F H v x B) : Own K mg F' H' v x B :=
  Own.move' e.fsame (fun a u b h m => e.keep a u h (fun z => d a z b) m.ntbl) o
theorem OwnL.ext {F H F' H' : Hp} {A A' B : AS} (e : Ext F H A F' H' A') (d : Dj A B) {v : List V} {x : List D} (o : OwnL K mg F H v x B) : OwnL K mg F' H' v x B :=
  OwnL.move' e.fsame (fun a u b h m => e.keep a u h (fun z => d a z b) m.ntbl) o
theorem Slots.ext {F H F' H' : Hp} {A A' B : AS} (e : Ext F H A F' H' A') (d : Dj A B) {σ : L2.St} {ρ : List (Option D)} (o : Slots K mg F H σ ρ B) : Slots K mg F' H' σ ρ B :=
  Slots.move' e.fsame o (fun a u b h m => e.keep a u h (fun z => d a z b) m.ntbl)

theorem Slots.length {F H : Hp} {A : AS} {σ : L2.St} {ρ : List (Option D)} (s : Slots K mg F H σ ρ A) : σ.length = ρ.length := by
  induction s with
  | nil => rfl
  | skip _ ih => simp [ih]
  | cons _ _ _ _ _ ih => simp [ih]
theorem Slots.get {F H : Hp} {σ : L2.St} {ρ : List (Option D)} {A : AS} (s : Slots K mg F H σ ρ A) : ∀ {i : Nat} {d : D}, ρ[i]? = some (some d) →
    ∃ v A1 A2, σ[i]? = some (some v) ∧ Own K mg F H v d A1 ∧ Slots K mg F H σ (ρ.set i none) A2 ∧ Dj A1 A2 ∧ Sb A1 A ∧ Sb A2 A := by
  induction s with
  | nil => intro i d h; simp at h
  | skip r ih =>
    intro i d h
    cases i with
    | zero => simp at h
    | succ i =>
      obtain ⟨v, A1, A2, h1, h2, h3, h4⟩ := ih (i := i) (d := d) (by simpa using h)
      exact ⟨v, A1, A2, by simpa using h1, h2, .skip h3, h4⟩
  | @cons v' d' σ ρ B1 B2 B x r a b c ih =>
    intro i d h
    cases i with
    | zero =>
      simp at h
      subst h
      exact ⟨v', B1, B2, rfl, x, .skip r, a, b, c⟩
    | succ i =>
      obtain ⟨v, A1, A2, h1, h2, h3, h4, h5, h6⟩ := ih (i := i) (d := d) (by simpa using h)
      refine ⟨v, A1, cup B1 A2, by simpa using h1, h2, .cons x h3 (a.sub Sb.rfl' h6) Sb.l Sb.r, fun z p q => ?_, h5.trans c, fun z p => ?_⟩
      · rcases q with q | q
        · exact a z q (h5 z p)
        · exact h4 z p q
      · rcases p with p | p
        · exact b z p
        · exact c z (h6 z p)
theorem Slots.put {F H : Hp} {σ : L2.St} {ρ : List (Option D)} {A1 A2 : AS} {v : V} {d : D} (o : Own K mg F H v d A1) : ∀ {i : Nat}, Slots K mg F H σ ρ A2 → Dj A1 A2 → (σ[i]?).isSome = true →
    Slots K mg F H (σ.set i (some v)) (ρ.set i (some d)) (cup A1 A2) := by
  intro i s
  induction s generalizing i with
  | nil => intro _ h; simp at h
  | @skip s σ ρ A2 r ih =>
    intro dj h
    cases i with
    | zero => exact .cons o r dj Sb.l Sb.r
    | succ i => exact .skip (ih dj (by simpa using h))
  | @cons v' d' σ ρ B1 B2 A2 x r a b c ih =>
    intro dj h
    cases i with
    | zero => exact .cons o (r.sub c) (dj.sub Sb.rfl' Sb.rfl') Sb.l Sb.r
    | succ i =>
      have q := ih (i := i) (dj.sub Sb.rfl' c) (by simpa using h)
      refine .cons x q (fun z p q => ?_) (fun z p => .inr (b z p)) (fun z p => ?_)
      · rcases q with q | q
        · exact dj z q (b z p)
        · exact a z p q
      · rcases p with p | p
        · exact .inl p
        · exact .inr (c z p)
theorem Slots.gone {F H : Hp} {σ : L2.St} {ρ : List (Option D)} {A : AS} (s : Slots K mg F H σ ρ A) : ∀ (i : Nat), Slots K mg F H σ (ρ.set i none) A := by
  induction s with
  | nil => intro i; exact .nil
  | skip r ih =>
    intro i
    cases i with
    | zero => exact .skip r
    | succ i => exact .skip (ih i)
  | cons x r a b c ih =>
    intro i
    cases i with
    | zero => exact .skip (r.sub c)
    | succ i => exact .cons x (ih i) a b c
theorem Slots.free {F H : Hp} {σ : L2.St} {ρ : List (Option D)} {A : AS} (s : Slots K mg F H σ ρ A) : ∀ (i : Nat) (u : Option V), Slots K mg F H (σ.set i u) (ρ.set i none) A := by
  induction s with
  | nil => intro i u; exact .nil
  | skip r ih =>
    intro i u
    cases i with
    | zero => exact .skip r
    | succ i => exact .skip (ih i u)
  | cons x r a b c ih =>
    intro i u
    cases i with
    | zero => exact .skip (r.sub c)
    | succ i => exact .cons x (ih i u) a b c

/-! ### freezing -/
mutual
def D.can : D → Bool
  | .non => true | .bl _ => true | .int _ => true | .str _ => true | .scr _ => true
  | .tup xs => canL xs
  | .lst _ xs => canL xs
  | .dic m kvs => !m && canK kvs
  | .dit m kvs => !m && canT kvs
  | .ins _ _ => false
def canL : List D → Bool
  | [] => true
  | x :: xs => x.can && canL xs
def canK : List (Key × D) → Bool
  | [] => true
  | (_, x) :: xs => x.can && canK xs
def canT : List (List Key × D) → Bool
  | [] => true
  | (_, x) :: xs => x.can && canT xs
end
mutual
theorem D.frz_of_pure : ∀ {d : D}, d.pure = true → d.frz = d
  | .non, _ => rfl | .bl _, _ => rfl | .int _, _ => rfl | .str _, _ => rfl | .scr _, _ => rfl
  | .tup xs, h => by simp only [D.pure] at h; simp only [D.frz]; rw [frzL_of_pure h]
  | .lst m xs, h => by
    simp only [D.pure, Bool.and_eq_true, Bool.not_eq_true'] at h
    simp only [D.frz]; rw [frzL_of_pure h.2, h.1]
  | .dic m xs, h => by
    simp only [D.pure, Bool.and_eq_true, Bool.not_eq_true'] at h
    simp only [D.frz]; rw [frzK_of_pure h.2, h.1]
  | .dit m xs, h => by
    simp only [D.pure, Bool.and_eq_true, Bool.not_eq_true'] at h
    simp only [D.frz]; rw [frzT_of_pure h.2, h.1]
  | .ins _ _, h => by simp [D.pure] at h
theorem frzL_of_pure : ∀ {d : List D}, pureL d = true → frzL d = d
  | [], _ => rfl
  | x :: xs, h => by
    simp only [pureL, Bool.and_eq_true] at h
    simp only [frzL]; rw [D.frz_of_pure h.1, frzL_of_pure h.2]
theorem frzK_of_pure : ∀ {d : List (Key × D)}, pureK d = true → frzK d = d
  | [], _ => rfl
  | (k, x) :: xs, h => by
    simp only [pureK, Bool.and_eq_true] at h
    simp only [frzK]; rw [D.frz_of_pure h.1, frzK_of_pure h.2]
theorem frzT_of_pure : ∀ {d : List (List Key × D)}, pureT d = true → frzT d = d
  | [], _ => rfl
  | (k, x) :: xs, h => by
    simp only [pureT, Bool.and_eq_true] at h
    simp only [frzT]; rw [D.frz_of_pure h.1, frzT_of_pure h.2]
end
mutual
theorem D.pure_can : ∀ {d : D}, d.pure = true → d.can = true
  | .non, _ => rfl | .bl _, _ => rfl | .int _, _ => rfl | .str _, _ => rfl | .scr _, _ => rfl
  | .tup xs, h => by simp only [D.pure] at h; simp only [D.can]; exact pureL_can h
  | .lst m xs, h => by simp only [D.pure, Bool.and_eq_true] at h; simp only [D.can]; exact pureL_can h.2
  | .dic m xs, h => by simp only [D.pure, Bool.and_eq_true] at h; simp only [D.can, Bool.and_eq_true]; exact ⟨h.1, pureK_can h.2⟩
  | .dit m xs, h => by simp only [D.pure, Bool.and_eq_true] at h; simp only [D.can, Bool.and_eq_true]; exact ⟨h.1, pureT_can h.2⟩
  | .ins _ _, h => by simp [D.pure] at h
theorem pureL_can : ∀ {d : List D}, pureL d = true → canL d = true
  | [], _ => rfl
  | x :: xs, h => by
    simp only [pureL, Bool.and_eq_true] at h
    simp only [canL, Bool.and_eq_true]; exact ⟨D.pure_can h.1, pureL_can h.2⟩
theorem pureK_can : ∀ {d : List (Key × D)}, pureK d = true → canK d = true
  | [], _ => rfl
  | (k, x) :: xs, h => by
    simp only [pureK, Bool.and_eq_true] at h
    simp only [canK, Bool.and_eq_true]; exact ⟨D.pure_can h.1, pureK_can h.2⟩
theorem pureT_can : ∀ {d : List (List Key × D)}, pureT d = true → canT d = true
  | [], _ => rfl
  | (k, x) :: xs, h => by
    simp only [pureT, Bool.and_eq_true] at h
    simp only [canT, Bool.and_eq_true]; exact ⟨D.pure_can h.1, pureT_can h.2⟩
end
open Classical in
noncomputable def froz (F H : Hp) (A : AS) : Hp := fun a => if A a then H a else F a
theorem froz_in {F H : Hp} {A : AS} {a : Addr} (h : A a) : froz F H A a = H a := by unfold froz; rw [if_pos h]
theorem froz_out {F H : Hp} {A : AS} {a : Addr} (h : ¬ A a) : froz F H A a = F a := by unfold froz; rw [if_neg h]
theorem froz_same {F H : Hp} {A : AS} (w : Wd F H A) : Same F (froz F H A) := fun a o e => by
  by_cases h : A a
  · have q := (w.own a h).1
    rw [e] at q; cases q
  · rw [froz_out h]; exact e
theorem froz_wd {F H : Hp} {A B : AS} (w : Wd F H (cup A B)) (d : Dj A B) : Wd (froz F H A) H B :=
  ⟨fun a o e => by
    by_cases h : A a
    · rw [froz_in h] at e; exact e
    · rw [froz_out h] at e; exact w.same a o e, fun a b => by
    rw [froz_out fun z => d a z b]
    exact w.own a (.inr b), w.tab, fun a ps e => by
    by_cases h : A a
    · rw [froz_in h] at e
      obtain ⟨_, u, q, m⟩ := w.own a (.inl h)
      rw [q] at e; cases e; exact m
    · rw [froz_out h] at e; exact w.nof a ps e⟩
theorem froz_ext {F H : Hp} {A B : AS} (w : Wd F H (cup A B)) (d : Dj A B) : Ext F H (cup A B) (froz F H A) H B :=
  ⟨froz_same (w.sub Sb.l), froz_wd w d, fun _ _ e _ _ => e, fun _ ps e => ⟨ps, e⟩, fun a x => by
    by_cases h : A a
    · exact .inr (.inr (.inl (.inl h)))
    · rw [froz_out h] at x; exact .inl x, fun a x => .inl (.inr x), Fk.refl⟩
mutual
theorem Own.froze {F H G : Hp} (sf : Same F G) : ∀ {v : V} {d : D} {A : AS}, (∀ a, A a → G a = H a) → d.can = true → Own K mg F H v d A → Fz K G v d.frz
  | _, _, _, _, _, .fz x => by rw [D.frz_of_pure (Fz.pure x)]; exact Fz.up sf x
  | _, _, _, k, c, .lst a b _ e r => by
    simp only [D.can] at c
    exact .lst ((k _ b).trans a) (OwnL.froze sf (fun z y => k z (e z y)) c r)
  | _, _, _, _, c, .dic .. => by simp [D.can] at c
  | _, _, _, _, c, .dit .. => by simp [D.can] at c
  | _, _, _, _, c, .ins .. => by simp [D.can] at c
theorem OwnL.froze {F H G : Hp} (sf : Same F G) : ∀ {v : List V} {d : List D} {A : AS}, (∀ a, A a → G a = H a) → canL d = true → OwnL K mg F H v d A → FzL K G v (frzL d)
  | _, _, _, _, _, .nil => .nil
  | _, _, _, k, c, .cons x r _ a b => by
    simp only [canL, Bool.and_eq_true] at c
    exact .cons (Own.froze sf (fun z y => k z (a z y)) c.1 x) (OwnL.froze sf (fun z y => k z (b z y)) c.2 r)
end
theorem codeO_nm {c : Addr} {q : Str} : ¬ Mtb (LamX.CodeO c q) := fun z => by unfold LamX.CodeO at z; exact z
theorem tabS_by {H H' : Hp} {P : Addr} {q : Str} (t : LamX.TabS H P q) (e : ∀ a u, H a = some u → ¬ Mtb u → H' a = some u) : LamX.TabS H' P q := by
  obtain ⟨ps, h1, h2, h3⟩ := t
  refine ⟨ps, e _ _ h1 fun z => z, h2, fun pos cv hc => ?_⟩
  obtain ⟨c, e1, e2⟩ := h3 pos cv hc
  exact ⟨c, e1, e _ _ e2 codeO_nm⟩
/-! ### a new object -/
theorem Ext.laid {F H : Hp} {A : AS} {p : Addr} {o : HO} (w : Wd F H A) (hp : H p = none) (mu : Mtb o := by exact True.intro) : Ext F H A F (upd H p o) (cup (fun a => a = p) A) := by
  have up : ∀ a u, H a = some u → upd H p o a = some u := fun a u e => by rw [upd_ne (ne_of_none e hp)]; exact e
  have fp : F p = none := by
    cases q : F p with
    | none => rfl
    | some u => rw [w.same _ _ q] at hp; cases hp
  refine ⟨fun _ _ e => e, ⟨fun a u e => up a u (w.same a u e), fun a x => ?_, fun P q t => (w.tab P q t).ext up, w.nof⟩, fun a u e _ _ => up a u e, fun a ps e => ⟨ps, up a _ e⟩, fun _ x => .inl x, fun a x => ?_, Fk.grow up⟩
  · rcases x with x | x
    · subst x; exact ⟨fp, o, upd_same, mu⟩
    · obtain ⟨q1, u, q2, q3⟩ := w.own a x
      exact ⟨q1, u, up a u q2, q3⟩
  · rcases x with x | x
    · subst x; exact .inr hp
    · exact .inl x
theorem Ext.laidF {F H : Hp} {A : AS} {p : Addr} {o : HO} (w : Wd F H A) (hp : H p = none) (nt : ∀ ps, o ≠ .tbl ps := by exact fun _ z => nomatch z) : Ext F H A (upd F p o) (upd H p o) A := by
  have up : ∀ a u, H a = some u → upd H p o a = some u := fun a u e => by rw [upd_ne (ne_of_none e hp)]; exact e
  have fp : F p = none := by
    cases q : F p with
    | none => rfl
    | some u => rw [w.same _ _ q] at hp; cases hp
  have upF : ∀ a u, F a = some u → upd F p o a = some u := fun a u e => by rw [upd_ne (ne_of_none e fp)]; exact e
  refine ⟨upF, ⟨fun a u e => ?_, fun a x => ?_, fun P q t => (w.tab P q t).ext up, fun a ps e => by
    by_cases z : a = p
    · subst z; rw [upd_same] at e; exact nt ps (Option.some.inj e)
    · rw [upd_ne z] at e; exact w.nof a ps e⟩, fun a u e _ _ => up a u e, fun a ps e => ⟨ps, up a _ e⟩, fun a x => ?_, fun a x => .inl x, Fk.grow up⟩
  · by_cases z : a = p
    · subst z; rw [upd_same] at e ⊢; exact e
    · rw [upd_ne z] at e; exact up a u (w.same a u e)
  · have z : a ≠ p := fun z => by
      obtain ⟨_, u, q, _⟩ := w.own a x
      rw [z, hp] at q; cases q
    rw [upd_ne z, upd_ne z]; exact w.own a x
  · by_cases z : a = p
    · subst z; exact .inr (.inl hp)
    · rw [upd_ne z] at x; exact .inl x
theorem Ext.put {F H : Hp} {A : AS} {p : Addr} {o : HO} (w : Wd F H A) (hp : A p) (fo : FkO (H p) o) (mu : Mtb o := by exact True.intro) : Ext F H A F (upd H p o) A := by
  have fp := (w.own p hp).1
  obtain ⟨up, hup, mup⟩ := (w.own p hp).2
  have other : ∀ a u, H a = some u → ¬ Mtb u → upd H p o a = some u := fun a u e n => by
    refine (upd_ne fun z => n ?_).trans e
    rw [z, hup] at e; cases e; exact mup
  have ne : ∀ a u, F a = some u → a ≠ p := fun a u e z => by rw [z, fp] at e; cases e
  refine ⟨fun _ _ e => e, ⟨fun a u e => by rw [upd_ne (ne a u e)]; exact w.same a u e, fun a x => ⟨(w.own a x).1, ?_⟩, fun P q t => tabS_by (w.tab P q t) other, w.nof⟩, fun a u e n _ => by rw [upd_ne fun z => n (by rw [z]; exact hp)]; exact e, fun a ps e => ⟨ps, other a _ e fun z => z⟩, fun _ x => .inl x, fun _ x => .inl x, Fk.put fo⟩
  by_cases z : a = p
  · subst z; exact ⟨o, upd_same, mu⟩
  · rw [upd_ne z]; exact (w.own a x).2

/-! ### freezing with locks: a dict that is frozen is locked -/
mutual
def D.cand : D → Bool
  | .non => true | .bl _ => true | .int _ => true | .str _ => true | .scr _ => true
  | .tup xs => candL xs
  | .lst _ xs => candL xs
  | .dic _ kvs => candK kvs
  | .dit _ kvs => candT kvs
  | .ins _ _ => false
def candL : List D → Bool
  | [] => true
  | x :: xs => x.cand && candL xs
def candK : List (Key × D) → Bool
  | [] => true
  | (_, x) :: xs => x.cand && candK xs
def candT : List (List Key × D) → Bool
  | [] => true
  | (_, x) :: xs => x.cand && candT xs
end
mutual
theorem D.can_cand : ∀ {d : D}, d.can = true → d.cand = true
  | .non, _ => rfl | .bl _, _ => rfl | .int _, _ => rfl | .str _, _ => rfl | .scr _, _ => rfl
  | .tup xs, h => by simp only [D.can] at h; simp only [D.cand]; exact canL_cand h
  | .lst m xs, h => by simp only [D.can] at h; simp only [D.cand]; exact canL_cand h
  | .dic m xs, h => by simp only [D.can, Bool.and_eq_true] at h; simp only [D.cand]; exact canK_cand h.2
  | .dit m xs, h => by simp only [D.can, Bool.and_eq_true] at h; simp only [D.cand]; exact canT_cand h.2
  | .ins _ _, h => by simp [D.can] at h
theorem canL_cand : ∀ {d : List D}, canL d = true → candL d = true
  | [], _ => rfl
  | x :: xs, h => by
    simp only [canL, Bool.and_eq_true] at h
    simp only [candL, Bool.and_eq_true]; exact ⟨D.can_cand h.1, canL_cand h.2⟩
theorem canK_cand : ∀ {d : List (Key × D)}, canK d = true → candK d = true
  | [], _ => rfl
  | (k, x) :: xs, h => by
    simp only [canK, Bool.and_eq_true] at h
    simp only [candK, Bool.and_eq_true]; exact ⟨D.can_cand h.1, canK_cand h.2⟩
theorem canT_cand : ∀ {d : List (List Key × D)}, canT d = true → candT d = true
  | [], _ => rfl
  | (k, x) :: xs, h => by
    simp only [canT, Bool.and_eq_true] at h
    simp only [candT, Bool.and_eq_true]; exact ⟨D.can_cand h.1, canT_cand h.2⟩
end
def isDt (u : HO) : Prop := (∃ kvs, u = .dK kvs) ∨ ∃ kvs, u = .dT kvs
def LkA (L : List Addr) (A : AS) (H G : Hp) : Prop := ∀ a, A a → (a ∈ L → ∀ u, H a = some u → ∃ o, G a = some (.frz o u)) ∧ (a ∉ L → G a = H a)
theorem LkA.sub {L L' : List Addr} {A A' : AS} {H G : Hp} (h : LkA L A H G) (s : Sb A' A) (h1 : ∀ a ∈ L', a ∈ L) (h2 : ∀ a, A' a → a ∈ L → a ∈ L') : LkA L' A' H G := fun a x =>
  ⟨fun y => (h a (s a x)).1 (h1 a y), fun y => (h a (s a x)).2 fun z => y (h2 a x z)⟩
def LsA (L : List Addr) (A : AS) (H : Hp) : Prop := ∀ a ∈ L, A a ∧ ∃ u, H a = some u ∧ isDt u
theorem LsA.app {L1 L2 : List Addr} {A1 A2 A : AS} {H : Hp} (h1 : LsA L1 A1 H) (h2 : LsA L2 A2 H) (s1 : Sb A1 A) (s2 : Sb A2 A) : LsA (L1 ++ L2) A H := fun a h => by
  rcases List.mem_append.mp h with h | h
  · exact ⟨s1 a (h1 a h).1, (h1 a h).2⟩
  · exact ⟨s2 a (h2 a h).1, (h2 a h).2⟩
theorem LkA.one {L1 L2 : List Addr} {A1 A2 A : AS} {H G : Hp} (h : LkA (L1 ++ L2) A H G) (h2 : LsA L2 A2 H) (dj : Dj A1 A2) (s1 : Sb A1 A) : LkA L1 A1 H G :=
  h.sub s1 (fun a x => List.mem_append.mpr (.inl x)) fun a x y => (List.mem_append.mp y).elim id fun y => (dj a x (h2 a y).1).elim
theorem LkA.two {L1 L2 : List Addr} {A1 A2 A : AS} {H G : Hp} (h : LkA (L1 ++ L2) A H G) (h1 : LsA L1 A1 H) (dj : Dj A1 A2) (s2 : Sb A2 A) : LkA L2 A2 H G :=
  h.sub s2 (fun a x => List.mem_append.mpr (.inr x)) fun a x y => (List.mem_append.mp y).elim (fun y => (dj a (h1 a y).1 x).elim) id
mutual
theorem Own.frozeL {F H : Hp} : ∀ {v : V} {d : D} {A : AS}, d.cand = true → Own K mg F H v d A → ∃ L, LsA L A H ∧ ∀ G, Same F G → LkA L A H G → Fz K G v d.frz
  | _, _, _, _, .fz x => ⟨[], fun _ h => by simp at h, fun G sf _ => by rw [D.frz_of_pure (Fz.pure x)]; exact Fz.up sf x⟩
  | _, _, _, c, .lst a b nb e r => by
    simp only [D.cand] at c
    obtain ⟨L, h1, h2⟩ := OwnL.frozeL c r
    refine ⟨L, fun x hx => ⟨e x (h1 x hx).1, (h1 x hx).2⟩, fun G sf k => .lst (((k _ b).2 fun z => nb (h1 _ z).1).trans a) (h2 G sf (k.sub e (fun _ z => z) fun _ _ z => z))⟩
  | _, _, _, c, .dic (a := p) a b nb e r => by
    simp only [D.cand] at c
    obtain ⟨L, h1, h2⟩ := OwnK.frozeL c r
    refine ⟨p :: L, fun x hx => ?_, fun G sf k => ?_⟩
    · rcases List.mem_cons.mp hx with rfl | hx
      · exact ⟨b, _, a, .inl ⟨_, rfl⟩⟩
      · exact ⟨e x (h1 x hx).1, (h1 x hx).2⟩
    · obtain ⟨o, ho⟩ := (k p b).1 List.mem_cons_self _ a
      exact .dic ho (h2 G sf (k.sub e (fun _ z => List.mem_cons_of_mem _ z) fun x hx z => (List.mem_cons.mp z).elim (fun z => (nb (z ▸ hx)).elim) id))
  | _, _, _, c, .dit (a := p) a b nb e r => by
    simp only [D.cand] at c
    obtain ⟨L, h1, h2⟩ := OwnT.frozeL c r
    refine ⟨p :: L, fun x hx => ?_, fun G sf k => ?_⟩
    · rcases List.mem_cons.mp hx with rfl | hx
      · exact ⟨b, _, a, .inr ⟨_, rfl⟩⟩
      · exact ⟨e x (h1 x hx).1, (h1 x hx).2⟩
    · obtain ⟨o, ho⟩ := (k p b).1 List.mem_cons_self _ a
      exact .dit ho (h2 G sf (k.sub e (fun _ z => List.mem_cons_of_mem _ z) fun x hx z => (List.mem_cons.mp z).elim (fun z => (nb (z ▸ hx)).elim) id))
  | _, _, _, c, .ins .. => by simp [D.cand] at c
theorem OwnL.frozeL {F H : Hp} : ∀ {v : List V} {d : List D} {A : AS}, candL d = true → OwnL K mg F H v d A → ∃ L, LsA L A H ∧ ∀ G, Same F G → LkA L A H G → FzL K G v (frzL d)
  | _, _, _, _, .nil => ⟨[], fun _ h => by simp at h, fun _ _ _ => .nil⟩
  | _, _, _, c, .cons x r dj s1 s2 => by
    simp only [candL, Bool.and_eq_true] at c
    obtain ⟨L1, h1, k1⟩ := Own.frozeL c.1 x
    obtain ⟨L2, h2, k2⟩ := OwnL.frozeL c.2 r
    exact ⟨L1 ++ L2, h1.app h2 s1 s2, fun G sf k => .cons (k1 G sf (k.one h2 dj s1)) (k2 G sf (k.two h1 dj s2))⟩
theorem OwnK.frozeL {F H : Hp} : ∀ {v : List (Key × V)} {d : List (Key × D)} {A : AS}, candK d = true → OwnK K mg F H v d A → ∃ L, LsA L A H ∧ ∀ G, Same F G → LkA L A H G → FzK K G v (frzK d)
  | _, _, _, _, .nil => ⟨[], fun _ h => by simp at h, fun _ _ _ => .nil⟩
  | _, _, _, c, .cons o x r dj s1 s2 => by
    simp only [candK, Bool.and_eq_true] at c
    obtain ⟨L1, h1, k1⟩ := Own.frozeL c.1 x
    obtain ⟨L2, h2, k2⟩ := OwnK.frozeL c.2 r
    exact ⟨L1 ++ L2, h1.app h2 s1 s2, fun G sf k => .cons o (k1 G sf (k.one h2 dj s1)) (k2 G sf (k.two h1 dj s2))⟩
theorem OwnT.frozeL {F H : Hp} : ∀ {v : List (List Key × V)} {d : List (List Key × D)} {A : AS}, candT d = true → OwnT K mg F H v d A → ∃ L, LsA L A H ∧ ∀ G, Same F G → LkA L A H G → FzT K G v (frzT d)
  | _, _, _, _, .nil => ⟨[], fun _ h => by simp at h, fun _ _ _ => .nil⟩
  | _, _, _, c, .cons o x r dj s1 s2 => by
    simp only [candT, Bool.and_eq_true] at c
    obtain ⟨L1, h1, k1⟩ := Own.frozeL c.1 x
    obtain ⟨L2, h2, k2⟩ := OwnT.frozeL c.2 r
    exact ⟨L1 ++ L2, h1.app h2 s1 s2, fun G sf k => .cons o (k1 G sf (k.one h2 dj s1)) (k2 G sf (k.two h1 dj s2))⟩
end
def LkL (L : List Addr) (H H2 : Hp) : Prop := ∀ a, (a ∈ L → ∃ u od, H a = some u ∧ H2 a = some (.frz od u)) ∧ (a ∉ L → H2 a = H a)
theorem freezeL {F H : Hp} {A B : AS} {v : V} {d : D} (w : Wd F H (cup A B)) (dj : Dj A B) (c : d.cand = true) (o : Own K mg F H v d A) :
    ∃ L, (∀ a ∈ L, ∃ u, H a = some u ∧ Mut (some u)) ∧ ∀ H2, LkL L H H2 → ∃ G, Ext F H (cup A B) G H2 B ∧ Fz K G v d.frz ∧ Same F G ∧ ∀ a u, B a → H a = some u → H2 a = some u := by
  obtain ⟨L, h1, h2⟩ := Own.frozeL c o
  refine ⟨L, fun a ha => ?_, fun H2 lk => ?_⟩
  · obtain ⟨_, u, e, z⟩ := h1 a ha
    refine ⟨u, e, ?_⟩
    rcases z with ⟨_, rfl⟩ | ⟨_, rfl⟩ <;> exact True.intro
  · have out : ∀ a, ¬ A a → H2 a = H a := fun a n => (lk a).2 fun z => n (h1 a z).1
    have sf : Same F (froz F H2 A) := fun a u e => by
      by_cases h : A a
      · have q := (w.own a (.inl h)).1
        rw [e] at q; cases q
      · rw [froz_out h]; exact e
    have other : ∀ a u, H a = some u → ¬ Mtb u → H2 a = some u := fun a u e n => by
      refine ((lk a).2 fun z => n ?_).trans e
      obtain ⟨_, u', e', d'⟩ := h1 a z
      rw [e] at e'; cases e'
      rcases d' with ⟨_, rfl⟩ | ⟨_, rfl⟩ <;> exact True.intro
    refine ⟨froz F H2 A, ⟨sf, ⟨fun a u e => ?_, fun a b => ?_, fun P q t => tabS_by (w.tab P q t) other, fun a ps e => by
      by_cases h : A a
      · rw [froz_in h] at e
        by_cases z : a ∈ L
        · obtain ⟨u, od, _, q⟩ := (lk a).1 z
          rw [q] at e; cases e
        · rw [(lk a).2 z] at e
          obtain ⟨_, u, q, m⟩ := w.own a (.inl h)
          rw [q] at e; cases e; exact m
      · rw [froz_out h] at e; exact w.nof a ps e⟩, fun a u e n _ => ?_, fun a ps e => ⟨ps, other a _ e fun z => z⟩, fun a x => ?_, fun a x => .inl (.inr x), fun a C dx vs e => ⟨dx, vs, by
      rw [(lk a).2 fun z => by
        obtain ⟨_, u', e', d'⟩ := h1 a z
        rw [e] at e'; cases e'
        rcases d' with ⟨_, q⟩ | ⟨_, q⟩ <;> cases q]
      exact e, fun _ _ q => q⟩⟩, h2 _ sf fun a x => ⟨fun y u hu => ?_, fun y => ?_⟩, sf, fun a u b e => ?_⟩
    · by_cases h : A a
      · rw [froz_in h] at e; exact e
      · rw [froz_out h] at e; rw [out a h]; exact w.same a u e
    · have n : ¬ A a := fun z => dj a z b
      rw [froz_out n, out a n]
      exact w.own a (.inr b)
    · rw [out a fun z => n (.inl z)]; exact e
    · by_cases h : A a
      · exact .inr (.inr (.inl (.inl h)))
      · rw [froz_out h] at x; exact .inl x
    · obtain ⟨u', od, e1, e2⟩ := (lk a).1 y
      rw [hu] at e1; cases e1
      exact ⟨od, by rw [froz_in x]; exact e2⟩
    · rw [froz_in x]; exact (lk a).2 y
    · rw [out a fun z => dj a z b]; exact e
end
end VI

namespace VI
open PySem
def kNs : List Str := ["BadEdit", "BadMark", "NoMark", "NoEdition", "BadDeed", "BadSigns", "Crossed", "BadName", "BadPattern", "BadText", "BadCount"]
def kWs : List Str := ["edit", "mark", "nomark", "edition", "deed", "signs", "crossed", "name", "pattern", "text", "count"]
def kFs : List (List Str) := [["number"], ["number"], ["number"], ["number"], ["number"], ["at"], ["one", "other"], ["name"], ["place"], ["row"], []]
def kindIx (c : Str) : Option Nat := kNs.findIdx? fun n => decide (n = c)
end VI

namespace VI
open PySem L2

inductive Fn where
  | len | abs | max | min | sum | sorted | list | tuple | int | str | all | any | dict | set
  deriving DecidableEq
inductive Mt where
  | join (s : List Nat) | count | index | get | split (s : List Nat) | strip (s : List Nat)
  deriving DecidableEq
inductive Op where
  | bin (o : Operator) | cmp (o : CmpOp) | neg | ix | sl (lo hi : Bool) | rev | fn (f : Fn) | mt (m : Mt) | lrng | sset | nset | isi (tys : List String) | dget | din (neg : Bool) | dne | dsum | dpairs | dlist | dcopyT | srtT | inG (g : Str) (ws : List (List Nat)) | sitems
  deriving DecidableEq
inductive ItK where
  | seq | enum | zip | rng | dk | dv | di
  deriving DecidableEq
inductive Mo where
  | append | extend | insert
  deriving DecidableEq
inductive T where
  | slot (i : Nat) | tup (ts : List T)
inductive E where
  | var (i : Nat) | use (i : Nat) | take (i : Nat) | lend (i : Nat)
  | cst (d : D) | glob (x : Str) (d : D)
  | op (o : Op) (es : List E)
  | chain (o1 o2 : CmpOp) (a b c : E)
  | chain3 (o1 o2 o3 : CmpOp) (a b c d : E)
  | and (a b : E) | or (a b : E) | not (a : E)
  | ifx (c a b : E)
  | tup (es : List E) | lst (es : List E)
  | call (f : Str) (as : List E)
  | mut (o : Mo) (i : Nat) (ps : List E) (as : List E)
  | lc (el : E) (t : T) (k : ItK) (es : List E) (cs : List E) (own : List Nat)
  | idx (i : Nat) (as : List E)
  | cnt (i : Nat) (as : List E)
  | dnew (t : Bool)
  | disp (ks : List (List Nat)) (vs : List E)
  | lcK (i : Nat) (el : E) (t : T) (cs : List E) (own : List Nat)
  | lcO (i : Nat) (el : E) (t : T) (cs : List E) (own : List Nat)
  | dupd (i : Nat) (e : E)
  | dget2 (i : Nat) (as : List E)
  | sortK (n : E) (j : Nat) (ks : List E)
  | fz (e : E)
  | kind (e : E)
  | pop (i : Nat) (as : List E)
  | lcE (i : Nat) (el : E) (t : T) (cs : List E) (own : List Nat)
  | fld (C : Str) (i : Nat) (f : Str)
  | new (C g : Str) (as : List E)
  | meth (C m g : Str) (i : Nat) (as : List E)
  | recv (C m g : Str) (e : E) (as : List E)
  | dc (key val : E) (t : T) (k : ItK) (es : List E) (cs : List E) (own : List Nat)
  | dc2 (key val : E) (t : T) (k : ItK) (es : List E) (t1 : T) (k1 : ItK) (es1 : List E) (own own1 : List Nat)
  | dsapp (i : Nat) (k x : E)
  | dupdT (i : Nat) (e : E)
  | sortD (e : E) (j : Nat) (ks : List E)
  | fat (C : Str) (i : Nat) (f : Str) (ix : E)
  | fapp (C : Str) (i : Nat) (f : Str) (e : E)
  | fpop (C : Str) (i : Nat) (f : Str) (ix k : E)
inductive S where
  | asg (t : T) (e : E)
  | multi (is : List Nat) (es : List E)
  | aug (i : Nat) (o : Operator) (e : E)
  | expr (e : E)
  | store (i : Nat) (ps : List E) (ix e : E)
  | dstore (i : Nat) (k e : E)
  | ifs (c : E) (a b : List S)
  | whl (fuel : Nat) (c : E) (b : List S)
  | fors (t : T) (k : ItK) (es : List E) (b : List S)
  | forO (x o : Nat) (b : List S)
  | ret (e : E)
  | retN | pass | brk | cont
  | frz (i : Nat)
  | raise (C : Str) (ks : List Str) (es : List E)
  | wks (i : Nat) (ret : Bool) (op : CmpOp) (es : List E) (rhs : E)
  | fput (C : Str) (i : Nat) (f : Str) (e : E)
  | faug (C : Str) (i : Nat) (f : Str) (o : Operator) (e : E)
  | wkr (i : Nat) (es : List E)
  | wkc (i : Nat) (op : CmpOp) (es e2 : List E) (c rT rF : E)
  | fdst (C : Str) (i : Nat) (f : Str) (ix k e : E)
  | view (i : Nat) (fo : Option (Str × Str)) (ps : List Nat) (s : S)
  | bad

abbrev Env' := List (Option D)
abbrev Ex := Str × List (Str × D)
inductive R (α : Type) where
  | ok (a : α) (ρ : Env') | err (x : Ex) (ρ : Env') | bad
inductive FR where
  | ok (d : D) (outs : List (Option D)) | err (x : Ex) (outs : List (Option D)) | bad
inductive SR where
  | nx (ρ : Env') | ret (d : D) (ρ : Env') | brk (ρ : Env') | cont (ρ : Env') | err (x : Ex) (ρ : Env') | bad
abbrev CallT := Str → List D → FR

def R.bind {α β : Type} (r : R α) (f : α → Env' → R β) : R β := match r with
  | .ok a ρ => f a ρ | .err x ρ => .err x ρ | .bad => .bad
def R.sbind {α : Type} (r : R α) (f : α → Env' → SR) : SR := match r with
  | .ok a ρ => f a ρ | .err x ρ => .err x ρ | .bad => .bad
def R.of {α : Type} (o : Option α) (ρ : Env') : R α := match o with
  | some a => .ok a ρ | none => .bad

/-! ### operations on data -/
abbrev lim : Nat := 16777216
/-! dicts -/
def keyD : D → Option Key
  | .int i => some (.inl i)
  | .str l => some (.inr (ST l))
  | _ => none
def keysD : List D → Option (List Key)
  | [] => some []
  | x :: r => (keyD x).bind fun k => (keysD r).map (k :: ·)
def dKey : Key → D
  | .inl i => .int i
  | .inr x => .str x.cps.toList
section
variable {κ : Type} [DecidableEq κ]
def vGet (kvs : List (κ × D)) (k : κ) : Option D := (kvs.find? fun kv => decide (kv.1 = k)).map (·.2)
def vPut (kvs : List (κ × D)) (k : κ) (d : D) : List (κ × D) :=
  if (kvs.any fun kv => decide (kv.1 = k)) = true then kvs.map (fun kv => if kv.1 = k then (kv.1, d) else kv) else kvs ++ [(k, d)]
def vMrg (kvs more : List (κ × D)) : List (κ × D) := more.foldl (fun acc kv => vPut acc kv.1 kv.2) kvs
end
def pureO (d : D) : Option D := if d.pure then some d else none
def dfind : D → D → Option (Option D)
  | .dic _ kvs, k => (keyD k).map (vGet kvs)
  | .dit _ kvs, .tup ks => (keysD ks).map (vGet kvs)
  | _, _ => none
def dput (x k d : D) : Option D := match x with
  | .dic true kvs => (keyD k).bind fun key => if kvs.length < lim then some (.dic true (vPut kvs key d)) else none
  | .dit true kvs => match k with
    | .tup ks => (keysD ks).bind fun key => if kvs.length < lim then some (.dit true (vPut kvs key d)) else none
    | _ => none
  | _ => none
def prsK : List D → Option (List (Key × D))
  | [] => some []
  | .tup [k, v] :: r => (keyD k).bind fun key => (prsK r).map ((key, v) :: ·)
  | _ => none
def dupO : D → D → Option D
  | .dic true kvs, .dic _ more => if pureK more && decide (kvs.length + more.length ≤ lim) then some (.dic true (vMrg kvs more)) else none
  | _, _ => none
def isDct : D → Bool
  | .dic _ _ => true
  | .dit _ _ => true
  | _ => false
def dget2O (d : D) : List D → Option D
  | [k, x] => (dfind d k).bind fun o => match o with
    | some y => pureO y
    | none => pureO x
  | _ => none
def isDic : D → Bool
  | .dic true _ => true
  | _ => false
def smallK : List Key → Bool
  | [.inl a, .inl b] => decide (0 ≤ a) && decide (a ≤ b) && decide (b ≤ 40)
  | _ => false
def smallT (kvs : List (List Key × D)) : Bool := kvs.all fun kv => smallK kv.1
def dupTO : D → D → Option D
  | .dit true kvs, .dit _ more => if pureT more && smallT more && decide (kvs.length + more.length ≤ lim) then some (.dit true (vMrg kvs more)) else none
  | _, _ => none
def isDit : D → Bool
  | .dit true _ => true
  | _ => false
def sdf (kvs : List (Key × D)) (k : Key) : List (Key × D) := match vGet kvs k with
  | none => vPut kvs k (.lst true [])
  | some _ => kvs
/-! objects -/
def fPut (f : Str) (d : D) : List (Str × D) → List (Str × D)
  | [] => [(f, d)]
  | (g, x) :: r => if g = f then (g, d) :: r else (g, x) :: fPut f d r
def flat0 : D → Bool
  | .non => true | .bl _ => true | .int _ => true | .str _ => true | _ => false
def fixF (fs : List (Str × D)) (f : Str) : Bool := match fs.lookup f with
  | none => true
  | some d => flat0 d
mutual
/-- no dict, no object in it -/
def noD : D → Bool
  | .dic _ _ => false | .dit _ _ => false | .ins _ _ => false
  | .tup xs => noDL xs
  | .lst _ xs => noDL xs
  | _ => true
def noDL : List D → Bool
  | [] => true
  | x :: r => noD x && noDL r
end
def noDs (ρ : Env') : Bool := ρ.all fun o => match o with
  | some d => noD d
  | none => true
def b2n (b : Bool) : Int := if b then 1 else 0
mutual
def deq : D → D → Bool
  | .non, .non => true
  | .bl a, .bl b => a == b
  | .bl a, .int j => b2n a == j
  | .int i, .bl b => i == b2n b
  | .int i, .int j => i == j
  | .str x, .str y => decide (x = y)
  | .lst _ xs, .lst _ ys => deqL xs ys
  | .tup xs, .tup ys => deqL xs ys
  | _, _ => false
def deqL : List D → List D → Bool
  | [], [] => true
  | x :: xs, y :: ys => deq x y && deqL xs ys
  | _, _ => false
end
def okD : Nat → D → Bool
  | _, .non => true | _, .bl _ => true | _, .int _ => true | _, .str _ => true
  | n + 1, .tup xs => xs.all (okD n)
  | n + 1, .lst _ xs => xs.all (okD n)
  | _, _ => false
def deep : Nat := 12
def eqO (a b : D) : Option Bool := if okD deep a && okD deep b then some (deq a b) else none
def intsO : List D → Option (List Int)
  | [] => some []
  | .int i :: r => (intsO r).map (i :: ·)
  | _ => none
def blsO : List D → Option (List Bool)
  | [] => some []
  | .bl i :: r => (blsO r).map (i :: ·)
  | _ => none
def strsO : List D → Option (List (List Nat))
  | [] => some []
  | .str i :: r => (strsO r).map (i :: ·)
  | _ => none
def maxL : List Int → Int
  | [] => 0
  | [x] => x
  | x :: y :: r => let m := maxL (y :: r); if x < m then m else x
def minL : List Int → Int
  | [] => 0
  | [x] => x
  | x :: y :: r => let m := minL (y :: r); if m < x then m else x
def prsO : List D → Option (List (Int × Int))
  | [] => some []
  | .tup [.int a, .int b] :: r => (prsO r).map ((a, b) :: ·)
  | _ => none
def ltP (a b : Int × Int) : Bool := if a.1 = b.1 then decide (a.2 < b.2) else decide (a.1 < b.1)
def minP : List (Int × Int) → Int × Int
  | [] => (0, 0)
  | [x] => x
  | x :: y :: r => let m := minP (y :: r); if ltP m x = true then m else x
def cutD {α : Type} (xs : List α) (lo hi : Option Int) : List α :=
  (xs.drop (HT.sIx xs.length 0 lo)).take (HT.sIx xs.length xs.length hi - HT.sIx xs.length 0 lo)
abbrev atD {α : Type} (xs : List α) (i : Int) : Option α := atI xs i
def flat : D → Bool
  | .non => true | .bl _ => true | .int _ => true | .str _ => true | _ => false
def joinS (sep : List Nat) : List (List Nat) → List Nat
  | [] => []
  | [x] => x
  | x :: y :: r => x ++ sep ++ joinS sep (y :: r)
def addO : D → D → Option D
  | .int i, .int j => some (.int (i + j))
  | .str x, .str y => if x.length + y.length ≤ lim then some (.str (x ++ y)) else none
  | .lst _ xs, .lst _ ys => if pureL xs && pureL ys && decide (xs.length + ys.length ≤ lim) then some (.lst true (xs ++ ys)) else none
  | .tup (x :: xs), .tup ys => if decide ((x :: xs).length + ys.length ≤ lim) then some (.tup (x :: xs ++ ys)) else none
  | _, _ => none
def subO : D → D → Option D
  | .int i, .int j => some (.int (i - j))
  | _, _ => none
def mulO : D → D → Option D
  | .int i, .int j => if decide (-(2 ^ 64) < i ∧ i < 2 ^ 64) || decide (-(2 ^ 64) < j ∧ j < 2 ^ 64) then some (.int (i * j)) else none
  | .str x, .int k => if decide (-(2 ^ 63) ≤ k) && decide (k < 2 ^ 63) && decide (x.length * k.toNat ≤ lim) then some (.str (List.replicate k.toNat x).flatten) else none
  | .lst _ xs, .int k => if pureL xs && decide (-(2 ^ 63) ≤ k) && decide (k < 2 ^ 63) && decide (xs.length * k.toNat ≤ lim) then some (.lst true (List.replicate k.toNat xs).flatten) else none
  | _, _ => none
def divO : D → D → Option D
  | .int i, .int j => if 0 < j ∧ j < 18446744073709551616 then some (.int (i / j)) else none
  | _, _ => none
def modO : D → D → Option D
  | .int i, .int j => if 0 < j then some (.int (i % j)) else none
  | _, _ => none
def powO : D → D → Option D
  | .int i, .int j => if 0 ≤ j ∧ j ≤ 1000000 ∧ i.natAbs < 2 ^ 64 then some (.int (i ^ j.toNat)) else none
  | _, _ => none
def binO : Operator → D → D → Option D
  | .Add, a, b => addO a b
  | .Sub, a, b => subO a b
  | .Mult, a, b => mulO a b
  | .FloorDiv, a, b => divO a b
  | .Mod, a, b => modO a b
  | .Pow, a, b => powO a b
  | _, _, _ => none
def inO (x : D) : List D → Bool
  | [] => false
  | y :: r => deq y x || inO x r
def ltO : D → D → Option Bool
  | .tup xs, .tup ys => (intsO xs).bind fun a => (intsO ys).map fun b => HT.lexLt a b
  | .int i, .int j => some (decide (i < j))
  | .str x, .str y => some (decide (x < y))
  | _, _ => none
def leO : D → D → Option Bool
  | .int i, .int j => some (decide (i ≤ j))
  | .str x, .str y => some (!decide (y < x))
  | _, _ => none
def gtO : D → D → Option Bool
  | .int i, .int j => some (decide (j < i))
  | _, _ => none
def geO : D → D → Option Bool
  | .int i, .int j => some (decide (j ≤ i))
  | _, _ => none
def isNon : D → Bool
  | .non => true
  | _ => false
def memO : D → D → Option Bool
  | x, .lst _ ys => if okD deep x && ys.all (okD deep) then some (inO x ys) else none
  | x, .tup ys => if flat x && ys.all flat then some (inO x ys) else if okD deep x && ys.all (okD deep) then some (inO x ys) else none
  | .str [c], .str z => some (decide (c ∈ z))
  | _, _ => none
def cmpB : CmpOp → D → D → Option Bool
  | .Eq, a, b => eqO a b
  | .NotEq, a, b => (eqO a b).map (!·)
  | .Lt, a, b => ltO a b
  | .LtE, a, b => leO a b
  | .Gt, a, b => gtO a b
  | .GtE, a, b => geO a b
  | .Is, a, b => if isNon b then some (isNon a) else none
  | .IsNot, a, b => if isNon b then some (!isNon a) else none
  | .In, a, b => memO a b
  | .NotIn, a, b => (memO a b).map (!·)
def cmpO (o : CmpOp) (a b : D) : Option D := (cmpB o a b).map .bl
def slO (d : D) (lo hi : Option Int) : Option D := match d with
  | .str x => if x.length ≤ lim then some (.str (cutD x lo hi)) else none
  | .lst _ xs => if pureL xs then some (.lst true (cutD xs lo hi)) else none
  | .tup xs => if HT.sIx xs.length 0 lo = 0 ∧ HT.sIx xs.length xs.length hi = xs.length then none else some (.tup (cutD xs lo hi))
  | _ => none
def lenO : List D → Option D
  | [.str x] => if x.length ≤ lim then some (.int x.length) else none
  | [.lst _ xs] => some (.int xs.length)
  | [.tup xs] => some (.int xs.length)
  | [.scr xs] => some (.int xs.length)
  | _ => none
def absO : List D → Option D
  | [.int i] => some (.int (if i < 0 then -i else i))
  | _ => none
def maxO : List D → Option D
  | [.int i, .int j] => some (.int (if j > i then j else i))
  | [.lst _ xs] => (intsO xs).bind fun ns => if ns = [] then none else some (.int (maxL ns))
  | _ => none
def minO : List D → Option D
  | [.int i, .int j] => some (.int (if j < i then j else i))
  | [.lst _ xs] => match intsO xs with
    | some ns => if ns = [] then none else some (.int (minL ns))
    | none => (prsO xs).map fun ps => .tup [.int (minP ps).1, .int (minP ps).2]
  | _ => none
def sumO : List D → Option D
  | [.lst _ xs] => (intsO xs).map fun ns => .int ns.sum
  | _ => none
def allO : List D → Option D
  | [.lst _ xs] => (blsO xs).map fun ns => .bl (ns.all id)
  | _ => none
def anyO : List D → Option D
  | [.lst _ xs] => (blsO xs).map fun ns => .bl (ns.any id)
  | _ => none
def listO : List D → Option D
  | [.lst _ xs] => if pureL xs then some (.lst true xs) else none
  | [.tup xs] => some (.lst true xs)
  | [.scr ns] => some (.lst true (ns.map .int))
  | _ => none
def tupleO : List D → Option D
  | [.lst _ xs] => if pureL xs then some (.tup xs) else none
  | [.tup xs] => some (.tup xs)
  | _ => none
def intO : List D → Option D
  | [.int i] => some (.int i)
  | [.bl b] => some (.int (if b then 1 else 0))
  | [.str l] => if l.length ≤ 640 then (PySem.intText? (ST l)).map .int else none
  | _ => none
def dictO : List D → Option D
  | [.lst _ xs] => if pureL xs && decide (xs.length ≤ lim) then (prsK xs).map fun kvs => .dic true (vMrg [] kvs) else none
  | [.dic _ kvs] => if pureK kvs then some (.dic true kvs) else none
  | _ => none
def insI (x : Int) : List Int → List Int
  | [] => [x]
  | y :: r => if x ≤ y then x :: y :: r else y :: insI x r
def srtI : List Int → List Int
  | [] => []
  | x :: r => insI x (srtI r)
def keysI : List (Key × D) → Option (List Int)
  | [] => some []
  | (.inl i, _) :: r => (keysI r).map (i :: ·)
  | _ => none
def leL (a b : List Int) : Bool := !decide (b < a)
def tupsO : List D → Option (List (List Int))
  | [] => some []
  | .tup (x :: xs) :: r => (intsO (x :: xs)).bind fun k => (tupsO r).map (k :: ·)
  | _ => none
def srtT (ks : List (List Int)) : List (List Int) := ks.mergeSort leL
def insU (x : Int) : List Int → List Int
  | [] => [x]
  | y :: r => if x < y then x :: y :: r else if x = y then y :: r else y :: insU x r
def ssetI (ns : List Int) : List Int := ns.foldr insU []
def insT (x : List Nat) : List (List Nat) → List (List Nat)
  | [] => [x]
  | y :: r => if x < y then x :: y :: r else if x = y then y :: r else y :: insT x r
def ssetT (ns : List (List Nat)) : List (List Nat) := ns.foldr insT []
def ssetO (xs : List D) : Option D := match intsO xs with
  | some ns => if ns.length < 64 then some (.lst true ((ssetI ns).map .int)) else none
  | none => (strsO xs).bind fun ss => if ss.length ≤ 1000 ∧ (ssetT ss).length < 64 then some (.lst true ((ssetT ss).map .str)) else none
def prsIT : List D → Option (List (Int × List Nat))
  | [] => some []
  | .tup [.int i, .str s] :: r => (prsIT r).map ((i, s) :: ·)
  | _ => none
def leIT (a b : Int × List Nat) : Bool := !(if b.1 = a.1 then decide (b.2 < a.2) else decide (b.1 < a.1))
def itP (p : Int × List Nat) : D := .tup [.int p.1, .str p.2]
def srtIT (ps : List (Int × List Nat)) : List (Int × List Nat) := ps.mergeSort leIT
def sortedO : List D → Option D
  | [.lst _ xs] => match tupsO xs with
    | some ks => if ks.length ≤ lim then some (.lst true ((srtT ks).map fun k => .tup (k.map .int))) else none
    | none => match prsIT xs with
      | some ps => if ps.length ≤ lim then some (.lst true ((srtIT ps).map itP)) else none
      | none => (intsO xs).map fun ns => .lst true ((srtI ns).map .int)
  | [.dic _ kvs] => (keysI kvs).bind fun ks => if ks.length < 64 then some (.lst true ((srtI ks).map .int)) else none
  | _ => none
def numS (n : Int) : List Nat := (PySem.Str.ofString (toString n)).cps.toList
def strO : List D → Option D
  | [.str l] => some (.str l)
  | [.int n] => if n.natAbs.log2 < 1920 then (if okCs (numS n) then some (.str (numS n)) else none) else none
  | _ => none
def fnO (f : Fn) (ds : List D) : Option D := match f with
  | .len => lenO ds | .abs => absO ds | .max => maxO ds | .min => minO ds | .sum => sumO ds | .all => allO ds | .any => anyO ds
  | .sorted => sortedO ds | .list => listO ds | .tuple => tupleO ds | .int => intO ds | .dict => dictO ds | .str => strO ds | _ => none
def itemsI : List (Key × D) → Option (List (Int × D))
  | [] => some []
  | (.inl i, d) :: r => (itemsI r).map ((i, d) :: ·)
  | _ => none
def leIx (a b : Int × D) : Bool := decide (a.1 ≤ b.1)
def srtIx (ps : List (Int × D)) : List (Int × D) := ps.mergeSort leIx
def ixP (p : Int × D) : D := .tup [.int p.1, p.2]
def intsT : List (List Key × D) → Option (List (List Key × Int))
  | [] => some []
  | (k, .int i) :: r => (intsT r).map ((k, i) :: ·)
  | _ => none
def eqI (m n : List (List Key × Int)) : Bool := m.length == n.length && m.all fun p => decide ((n.find? fun q => decide (q.1 = p.1)).map (·.2) = some p.2)
def neTO : D → D → Option D
  | .dit true a, .dit true b => (intsT a).bind fun m => (intsT b).map fun n => .bl (!eqI m n)
  | _, _ => none
def sumTO : D → Option D
  | .dit true a => (intsT a).map fun m => .int (m.map (·.2)).sum
  | _ => none
def prsT : List D → Option (List (List Key × D))
  | [] => some []
  | .tup [.tup ks, v] :: r => (keysD ks).bind fun key => (prsT r).map ((key, v) :: ·)
  | _ => none
def keyI : Key → Option Int
  | .inl i => some i
  | .inr _ => none
def keyIs : List Key → Option (List Int)
  | [] => some []
  | k :: r => (keyI k).bind fun i => (keyIs r).map (i :: ·)
def keysTI : List (List Key × D) → Option (List (List Int))
  | [] => some []
  | (k :: ks, _) :: r => (keyIs (k :: ks)).bind fun z => (keysTI r).map (z :: ·)
  | _ => none
def rngO (lo hi : Int) : List D := (List.range (hi - lo).toNat).map fun k => .int (lo + (k : Nat))
def in62 (i : Int) : Bool := decide (-(2 ^ 62) ≤ i) && decide (i < 2 ^ 62)
def rngs : List D → Option (List D)
  | [.int j] => if in62 j then some (rngO 0 j) else none
  | [.int i, .int j] => if in62 i && in62 j then some (rngO i j) else none
  | [.int i, .int j, .int (-1)] => if in62 i && in62 j then some ((List.range (i - j).toNat).map fun k => .int (i - (k : Nat))) else none
  | _ => none
def joinO (s : List Nat) : List D → Option D
  | [.lst _ xs] => (strsO xs).bind fun ys => if (ys.map (·.length)).sum + ys.length * s.length ≤ lim then some (.str (joinS s ys)) else none
  | _ => none
def splS (c : Nat) : List Nat → List Nat → List (List Nat)
  | acc, [] => [acc]
  | acc, x :: r => if x = c then acc :: splS c [] r else splS c (acc ++ [x]) r
def splitO (s : List Nat) (ds : List D) : Option D := match s, ds with
  | [c], [.str a] => if c < 256 ∧ a.length + 2 ≤ lim then some (.lst true ((splS c [] a).map .str)) else none
  | _, _ => none
def stripS (b a : List Nat) : List Nat := (Txt.stripChars (ST a) (ST b)).cps.toList
def stripO (b : List Nat) : List D → Option D
  | [.str a] => if a.length ≤ lim ∧ okCs (stripS b a) then some (.str (stripS b a)) else none
  | _ => none
def mtO (m : Mt) (ds : List D) : Option D := match m with
  | .join s => joinO s ds
  | .split s => splitO s ds
  | .strip s => stripO s ds
  | _ => none
def tyN : D → Option String
  | .non => some "NoneType"
  | .bl _ => some "bool"
  | .int _ => some "int"
  | .str _ => some "str"
  | .tup _ => some "tuple"
  | .lst _ _ => some "list"
  | .dic _ _ => some "dict"
  | _ => none
def kitT (t c : String) : Bool := t == c || (t == "bool" && c == "int")
def isiO (tys : List String) (d : D) : Option D := (tyN d).map fun t => .bl (tys.any (kitT t))
def opD : Op → List D → Option D
  | .bin o, [a, b] => binO o a b
  | .cmp o, [a, b] => cmpO o a b
  | .neg, [.int i] => some (.int (-i))
  | .ix, [.str x, .int i] => if x.length ≤ lim then (atD x i).map fun c => .str [c] else none
  | .ix, [.lst _ xs, .int i] => atD xs i
  | .ix, [.tup xs, .int i] => atD xs i
  | .sl false false, [a] => slO a none none
  | .sl true false, [a, .int i] => slO a (some i) none
  | .sl false true, [a, .int j] => slO a none (some j)
  | .sl true true, [a, .int i, .int j] => slO a (some i) (some j)
  | .rev, [.lst _ xs] => if pureL xs then some (.lst true xs.reverse) else none
  | .rev, [.str x] => if x.length ≤ lim then some (.str x.reverse) else none
  | .rev, [.tup xs] => some (.tup xs.reverse)
  | .fn f, as => fnO f as
  | .mt m, as => mtO m as
  | .lrng, as => (rngs as).bind fun xs => if xs.length ≤ lim then some (.lst true xs) else none
  | .sset, [.lst _ xs] => ssetO xs
  | .nset, [.lst _ xs] => (strsO xs).bind fun ss => if ss.length ≤ 1000 then some (.int ((ssetT ss).length : Nat)) else none
  | .isi tys, [d] => isiO tys d
  | .dget, [d, k] => (dfind d k).bind fun o => o.bind pureO
  | .din b, [k, d] => (dfind d k).map fun o => .bl (o.isSome != b)
  | .dne, [a, b] => neTO a b
  | .dsum, [a] => sumTO a
  | .dpairs, [.lst _ xs] => if pureL xs && decide (xs.length ≤ lim) then (prsT xs).map fun kvs => .dit true (vMrg [] kvs) else none
  | .dlist, [.dit _ kvs] => if kvs.length ≤ lim then some (.lst true (kvs.map fun kv => .tup (kv.1.map dKey))) else none
  | .dcopyT, [.dit _ kvs] => if pureT kvs && smallT kvs && decide (kvs.length ≤ lim) then some (.dit true kvs) else none
  | .srtT, [.dit _ kvs] => (keysTI kvs).bind fun ks => if ks.length ≤ lim then some (.lst true ((srtT ks).map fun k => .tup (k.map .int))) else none
  | .inG _ ws, [.str l] => some (.bl (inO (.str l) (ws.map .str)))
  | .sitems, [.dic false kvs] => (itemsI kvs).bind fun ps => if pureK kvs && decide ((ps.map (·.1)).Nodup) && decide (ps.length < 64) then some (.lst true ((srtIx ps).map ixP)) else none
  | _, _ => none
def truD : D → Option Bool
  | .bl b => some b
  | .non => some false
  | .int i => some (i != 0)
  | .str s => if s.length ≤ lim then some (s.length != 0) else none
  | .lst _ xs => some (!xs.isEmpty)
  | .tup xs => some (!xs.isEmpty)
  | _ => none
def enumD (n : Nat) : List D → List D
  | [] => []
  | x :: r => .tup [.int (n : Nat), x] :: enumD (n + 1) r
def zipD : List D → List D → List D
  | x :: xs, y :: ys => .tup [x, y] :: zipD xs ys
  | _, _ => []
def walkK : D → Option (List D)
  | .dic false kvs => some (kvs.map fun kv => dKey kv.1)
  | .dit false kvs => some (kvs.map fun kv => .tup (kv.1.map dKey))
  | _ => none
def walkV : D → Option (List D)
  | .dic false kvs => some (kvs.map (·.2))
  | _ => none
def walkI : D → Option (List D)
  | .dic false kvs => some (kvs.map fun kv => .tup [dKey kv.1, kv.2])
  | _ => none
def walkD : D → Option (List D)
  | .lst _ xs => some xs
  | .tup xs => some xs
  | .str z => some (z.map fun c => .str [c])
  | .scr ns => some (ns.map .int)
  | _ => none
def itD : ItK → List D → Option (List D)
  | .seq, [d] => walkD d
  | .enum, [d] => (walkD d).map (enumD 0)
  | .dk, [d] => walkK d
  | .dv, [d] => walkV d
  | .di, [d] => walkI d
  | .zip, [.lst _ xs, .lst _ ys] => some (zipD xs ys)
  | .rng, as => rngs as
  | _, _ => none
mutual
/-- a target takes an item -/
def T.put : T → D → Env' → Option Env'
  | .slot i, d, ρ => if i < ρ.length then some (ρ.set i (some d)) else none
  | .tup ts, d, ρ => match d with
    | .tup xs => putL ts xs ρ
    | .lst _ xs => putL ts xs ρ
    | _ => none
def putL : List T → List D → Env' → Option Env'
  | [], [], ρ => some ρ
  | t :: ts, x :: xs, ρ => (t.put x ρ).bind fun ρ' => putL ts xs ρ'
  | _, _, _ => none
end
def moD : Mo → D → List D → Option (D × D)
  | .insert, .lst true xs, [.int i, d] => if xs.length < lim ∧ 0 ≤ i ∧ i < 2 ^ 63 ∧ pureL xs = true ∧ d.pure = true then some (.lst true (xs.take i.toNat ++ [d] ++ xs.drop i.toNat), .non) else none
  | .append, .lst true xs, [d] => if xs.length < lim then some (.lst true (xs ++ [d]), .non) else none
  | .extend, .lst true xs, [.lst _ ys] => if pureL ys && decide (xs.length + ys.length ≤ lim) then some (.lst true (xs ++ ys), .non) else none
  | _, _, _ => none
def setAt (xs : List D) (i : Int) (d : D) : Option (List D) := (ixN xs.length i).map fun j => xs.set j d
def atPath (f : D → Option (D × D)) : List Int → D → Option (D × D)
  | [], d => f d
  | i :: r, .lst true xs => (atD xs i).bind fun x => (atPath f r x).bind fun p => (setAt xs i p.1).map fun ys => (.lst true ys, p.2)
  | _, _ => none

def setO (k : Int) (d : D) : D → Option (D × D)
  | .lst true ys => (setAt ys k d).map fun zs => (.lst true zs, .non)
  | _ => none
def flat2 : D → Bool
  | .int _ => true | .str _ => true | _ => false
def isPath : List Int → D → Bool
  | [], .lst true _ => true
  | i :: r, .lst true xs => match atD xs i with
    | some x => isPath r x
    | none => false
  | _, _ => false
/-! ### what is read of an expression's form -/
mutual
def shares : E → Bool
  | .var _ => true
  | .op .ix es => sharesL es
  | _ => false
def sharesL : List E → Bool
  | e :: _ => shares e
  | [] => false
end
mutual
def quiet : E → Bool
  | .var _ => true
  | .cst _ => true
  | .glob _ _ => true
  | .op _ es => quietL es
  | .chain _ _ a b c => quiet a && quiet b && quiet c
  | .and a b => quiet a && quiet b
  | .or a b => quiet a && quiet b
  | .not a => quiet a
  | .tup es => quietL es
  | .lst es => quietL es
  | .fld _ _ _ => true
  | .fat _ _ _ ix => quiet ix
  | _ => false
def quietL : List E → Bool
  | [] => true
  | e :: es => quiet e && quietL es
end
inductive Ar where
  | val (d : D) | lnt (i : Nat)
def fetch : List Ar → Env' → Option (List D × Env')
  | [], ρ => some ([], ρ)
  | .val d :: r, ρ => (fetch r ρ).map fun p => (d :: p.1, p.2)
  | .lnt i :: r, ρ => match ρ[i]? with
    | some (some d) => (fetch r (ρ.set i none)).map fun p => (d :: p.1, p.2)
    | _ => none
def back : List Ar → List (Option D) → Env' → Env'
  | .lnt i :: r, o :: os, ρ => back r os (ρ.set i o)
  | .val _ :: r, _ :: os, ρ => back r os ρ
  | _, _, ρ => ρ
def wipeD (ρ : Env') : List Nat → Env'
  | [] => ρ
  | i :: r => (wipeD ρ r).set i none
def idxI (x : Int) : List Int → Option Nat
  | [] => none
  | y :: r => if y = x then some 0 else (idxI x r).map (· + 1)
def idxO : D → List D → Option D
  | .lst _ xs, [.int x] => (intsO xs).bind fun ns => (idxI x ns).map fun j => .int (j : Nat)
  | _, _ => none
def popO : D → List D → Option (D × D)
  | .lst true xs, [.int k] => if pureL xs && decide (0 ≤ k) && decide (k < 2 ^ 62) then (xs[k.toNat]?).map fun x => (.lst true (xs.eraseIdx k.toNat), x) else none
  | _, _ => none
def dpopO (kvs : List (Key × D)) (k : Key) : Option (List (Key × D) × D) := (vGet kvs k).map fun y => (kvs.filter fun kv => !decide (kv.1 = k), y)
/-! a thing that is only read for a while -/
mutual
/-- nothing in it is frozen but tuples -/
def noC : D → Bool
  | .lst m xs => m && noCL xs
  | .dic m kvs => m && noCK kvs
  | .dit m kvs => m && noCT kvs
  | .ins _ fs => noCF fs
  | .tup xs => noCL xs
  | .scr _ => false
  | _ => true
def noCL : List D → Bool
  | [] => true
  | x :: r => noC x && noCL r
def noCK : List (Key × D) → Bool
  | [] => true
  | (_, x) :: r => noC x && noCK r
def noCT : List (List Key × D) → Bool
  | [] => true
  | (_, x) :: r => noC x && noCT r
def noCF : List (Str × D) → Bool
  | [] => true
  | (_, x) :: r => noC x && noCF r
end
def noCs (sk : List Nat) : Nat → Env' → Bool
  | _, [] => true
  | n, none :: r => noCs sk (n + 1) r
  | n, some d :: r => (sk.contains n || noC d) && noCs sk (n + 1) r
def noCFb (f : Str) : List (Str × D) → Bool
  | [] => true
  | (g, x) :: r => if g = f then noCF r else noC x && noCFb f r
def isCon : D → Bool
  | .lst _ _ => true
  | .dic _ _ => true
  | .dit _ _ => true
  | _ => false
def vIn (i : Nat) (fo : Option (Str × Str)) (ρ : Env') : Option (D × Env') := match ρ[i]?, fo with
  | some (some d), none => if d.cand then some (d, ρ.set i (some d.frz)) else none
  | some (some (.ins C1 fs)), some (C, f) => if C1 = C then match fs.lookup f with
      | some x => if x.cand && isCon x then some (x, ρ.set i (some (.ins C (fPut f x.frz fs)))) else none
      | none => none
    else none
  | _, _ => none
def vPs (ρ : Env') : List Nat → Env' → Env'
  | [], ρ' => ρ'
  | j :: r, ρ' => match ρ[j]? with
    | some o => vPs ρ r (ρ'.set j o)
    | none => vPs ρ r ρ'
def vOut (i : Nat) (fo : Option (Str × Str)) (ps : List Nat) (x : D) (ρ ρ' : Env') : Option Env' :=
  if noCs (i :: ps) 0 ρ' then match ρ'[i]?, fo with
    | some (some _), none => some (vPs ρ ps (ρ'.set i (some x)))
    | some (some (.ins C1 fs)), some (C, f) => if C1 = C && noCFb f fs && (fs.lookup f).isSome then some (vPs ρ ps (ρ'.set i (some (.ins C (fPut f x fs))))) else none
    | _, _ => none
  else none
def vOk (i : Nat) (ps : List Nat) (ρ : Env') : Bool := !ps.contains i && ps.all fun j => match ρ[j]? with
  | some (some d) => d.pure
  | _ => false
def vEnd (i : Nat) (fo : Option (Str × Str)) (ps : List Nat) (x : D) (ρ : Env') : SR → SR
  | .nx ρ' => match vOut i fo ps x ρ ρ' with | some ρ2 => .nx ρ2 | none => .bad
  | .brk ρ' => match vOut i fo ps x ρ ρ' with | some ρ2 => .brk ρ2 | none => .bad
  | .cont ρ' => match vOut i fo ps x ρ ρ' with | some ρ2 => .cont ρ2 | none => .bad
  | .ret d ρ' => if noC d then match vOut i fo ps x ρ ρ' with | some ρ2 => .ret d ρ2 | none => .bad else .bad
  | .err z ρ' => if noCF z.2 then match vOut i fo ps x ρ ρ' with | some ρ2 => .err z ρ2 | none => .bad else .bad
  | .bad => .bad
def cntO : D → List D → Option D
  | .lst _ xs, [.str x] => (strsO xs).map fun ss => .int (ss.count x : Nat)
  | _, _ => none
def keyOf : R (List D) → Option (List Int)
  | .ok (x :: xs) _ => intsO (x :: xs)
  | _ => none
def keyAll (f : D → R (List D)) : List D → Option (List (List Int))
  | [] => some []
  | x :: xs => (keyOf (f x)).bind fun k => (keyAll f xs).map (k :: ·)
def srtA {α : Type} (xs : List α) (ks : List (List Int)) : List α := ((xs.zip ks).mergeSort fun a b => leL a.2 b.2).map (·.1)
def srtK (xs : List Int) (ks : List (List Int)) : List Int := ((xs.zip ks).mergeSort fun a b => leL a.2 b.2).map (·.1)
def rngI (k : Int) : List Int := (List.range k.toNat).map fun i => ((i : Nat) : Int)
def isLst : D → Bool
  | .lst _ _ => true
  | _ => false
def lcLoop (f : D → Env' → R (Option D)) (own : List Nat) : List D → List D → Env' → R (List D)
  | [], acc, ρ => .ok acc ρ
  | x :: xs, acc, ρ => match f x ρ with
    | .ok (some d) ρ1 => if acc.length < lim then lcLoop f own xs (acc ++ [d]) (wipeD ρ1 own) else .bad
    | .ok none ρ1 => lcLoop f own xs acc (wipeD ρ1 own)
    | _ => .bad
def keyTO : D → Option (List Key)
  | .tup ks => keysD ks
  | _ => none
def dcLoop (f : D → Env' → R (Option (List Key × D))) (own : List Nat) : List D → List (List Key × D) → Env' → R (List (List Key × D))
  | [], acc, ρ => .ok acc ρ
  | x :: xs, acc, ρ => match f x ρ with
    | .ok (some kd) ρ1 => if acc.length < lim then dcLoop f own xs (vPut acc kd.1 kd.2) (wipeD ρ1 own) else .bad
    | .ok none ρ1 => dcLoop f own xs acc (wipeD ρ1 own)
    | _ => .bad
def dc2Loop (f1 : D → Env' → R (List D)) (f2 : D → Env' → R (Option (List Key × D))) (own own1 : List Nat) : List D → List (List Key × D) → Env' → R (List (List Key × D))
  | [], acc, ρ => .ok acc ρ
  | x :: xs, acc, ρ => match f1 x ρ with
    | .ok ys ρ1 => match dcLoop f2 own1 ys acc (wipeD ρ1 own1) with
      | .ok acc1 ρ2 => dc2Loop f1 f2 own own1 xs acc1 (wipeD ρ2 own)
      | _ => .bad
    | _ => .bad
def cpsW (x : Str) : D := .str x.cps.toList
def kindO (x : Ex) : Option D := (kindIx x.1).bind fun i =>
  if i = 10 then if x.2.isEmpty then some (.tup [cpsW "count", .int 0]) else none
  else if i = 6 then (x.2.lookup ("one" : Str)).bind fun v => (x.2.lookup ("other" : Str)).map fun w => .tup [cpsW "crossed", .tup [v, w]]
  else match kFs[i]? with
    | some [f] => (x.2.lookup f).map fun v => .tup [cpsW (kWs.getD i ""), v]
    | _ => none
def kindR : R D → R D
  | .ok _ ρ => .ok (.tup [.str [], .int 0]) ρ
  | .err x ρ => R.of (kindO x) ρ
  | .bad => .bad
def lendOf : E → Option Nat
  | .lend i => some i
  | _ => none
def varOf : E → Option Nat
  | .var i => some i
  | _ => none
section
variable (call : CallT)
mutual
def ev : E → Env' → R D
  | .var i, ρ => match ρ[i]? with | some (some d) => .ok d ρ | _ => .bad
  | .use i, ρ => match ρ[i]? with | some (some d) => if d.cand then .ok d.frz (ρ.set i (some d.frz)) else .bad | _ => .bad
  | .take i, ρ => match ρ[i]? with | some (some d) => .ok d (ρ.set i none) | _ => .bad
  | .lend _, _ => .bad
  | .cst d, ρ => .ok d ρ
  | .glob _ d, ρ => .ok d ρ
  | .op o es, ρ => (evR es ρ).bind fun ds ρ' => match opD o ds with
      | some d => if o != .ix || d.pure || sharesL es then .ok d ρ' else .bad
      | none => .bad
  | .chain o1 o2 a b c, ρ => (ev a ρ).bind fun x ρ1 => (ev b ρ1).bind fun y ρ2 =>
      if x.pure && y.pure then
        match cmpB o1 x y with
        | some true => (ev c ρ2).bind fun z ρ3 => if z.pure then R.of (cmpO o2 y z) ρ3 else .bad
        | some false => .ok (.bl false) ρ2
        | none => .bad
      else .bad
  | .chain3 o1 o2 o3 a b c d, ρ => (ev a ρ).bind fun x ρ1 => (ev b ρ1).bind fun y ρ2 =>
      if x.pure && y.pure then
        match cmpB o1 x y with
        | some true => (ev c ρ2).bind fun z ρ3 => if z.pure then
            match cmpB o2 y z with
            | some true => (ev d ρ3).bind fun w ρ4 => if w.pure then R.of (cmpO o3 z w) ρ4 else .bad
            | some false => .ok (.bl false) ρ3
            | none => .bad
          else .bad
        | some false => .ok (.bl false) ρ2
        | none => .bad
      else .bad
  | .and a b, ρ => (ev a ρ).bind fun x ρ1 => match x with
      | .bl true => (ev b ρ1).bind fun y ρ2 => match y with
        | .bl k => .ok (.bl k) ρ2
        | _ => .bad
      | .bl false => .ok (.bl false) ρ1
      | _ => .bad
  | .or a b, ρ => (ev a ρ).bind fun x ρ1 => match x with
      | .bl false => (ev b ρ1).bind fun y ρ2 => match y with
        | .bl k => .ok (.bl k) ρ2
        | _ => .bad
      | .bl true => .ok (.bl true) ρ1
      | _ => .bad
  | .not a, ρ => (ev a ρ).bind fun x ρ1 => match x with
      | .bl k => .ok (.bl (!k)) ρ1
      | _ => .bad
  | .ifx c a b, ρ => (ev c ρ).bind fun x ρ1 => match truD x with
      | some true => (ev a ρ1).bind fun y ρ2 => if !shares a || y.pure then .ok y ρ2 else .bad
      | some false => (ev b ρ1).bind fun y ρ2 => if !shares b || y.pure then .ok y ρ2 else .bad
      | none => .bad
  | .tup es, ρ => (evC es ρ).bind fun ds ρ' => if pureL ds && decide (ds.length ≤ lim) then .ok (.tup ds) ρ' else .bad
  | .lst es, ρ => (evC es ρ).bind fun ds ρ' => if ds.length ≤ lim then .ok (.lst true ds) ρ' else .bad
  | .call f as, ρ => (evA as ρ).bind fun rs ρ1 => match fetch rs ρ1 with
      | some (ds, ρ2) => match call f ds with
        | .ok d outs => .ok d (back rs outs ρ2)
        | .err x outs => .err x (back rs outs ρ2)
        | .bad => .bad
      | none => .bad
  | .mut o i ps as, ρ => (evR ps ρ).bind fun is ρ1 => match intsO is, ρ1[i]? with
      | some js, some (some d0) => if isPath js d0 && (ps.isEmpty || quietL ps) then (evC as ρ1).bind fun ds ρ2 => match ρ2[i]? with
          | some (some d) => match atPath (fun x => moD o x ds) js d with
            | some (d', r) => .ok r (ρ2.set i (some d'))
            | none => .bad
          | _ => .bad
        else .bad
      | _, _ => .bad
  | .lc el t k es cs own, ρ => (evC es ρ).bind fun ds ρ1 => if canL ds then match itD k (frzL ds) with
      | some xs => (lcLoop (fun x ρ => match t.put x ρ with
          | none => .bad
          | some ρ1 => (lcTests cs ρ1).bind fun k ρ2 => if k then (ev el ρ2).bind fun d ρ3 => if !shares el || d.pure then .ok (some d) ρ3 else .bad else .ok none ρ2) own xs [] (wipeD ρ1 own)).bind fun acc ρ2 => .ok (.lst true acc) ρ2
      | none => .bad
    else .bad
  | .idx i as, ρ => match ρ[i]? with
    | some (some d0) => if isLst d0 then (evC as ρ).bind fun ds ρ2 => match ρ2[i]? with
        | some (some d) => R.of (idxO d ds) ρ2
        | _ => .bad
      else .bad
    | _ => .bad
  | .cnt i as, ρ => match ρ[i]? with
    | some (some d0) => if isLst d0 then (evC as ρ).bind fun ds ρ2 => match ρ2[i]? with
        | some (some d) => R.of (cntO d ds) ρ2
        | _ => .bad
      else .bad
    | _ => .bad
  | .pop i as, ρ => match ρ[i]? with
    | some (some d0) => if isLst d0 then (evC as ρ).bind fun ds ρ2 => match ρ2[i]? with
        | some (some d) => match popO d ds with
          | some (d', r) => .ok r (ρ2.set i (some d'))
          | none => .bad
        | _ => .bad
      else .bad
    | _ => .bad
  | .dnew t, ρ => .ok (if t then .dit true [] else .dic true []) ρ
  | .disp ks vs, ρ => (evC vs ρ).bind fun ds ρ' => if ks.length = ds.length ∧ ks.length ≤ 15 ∧ ks.Nodup ∧ ks.all okCs = true ∧ 0 < ks.length then .ok (.dic true ((ks.map fun k => Sum.inr (ST k)).zip ds)) ρ' else .bad
  | .lcK i el t cs own, ρ => match ρ[i]? with
    | some (some (.dic true kvs)) => if pureK kvs && !own.contains i then (lcLoop (fun x ρ => match t.put x ρ with
          | none => .bad
          | some ρ1 => (lcTests cs ρ1).bind fun k ρ2 => if k then (ev el ρ2).bind fun d ρ3 => if !shares el || d.pure then .ok (some d) ρ3 else .bad else .ok none ρ2) own (kvs.map fun kv => dKey kv.1) [] (wipeD (ρ.set i (some (.dic false kvs))) own)).bind fun acc ρ2 =>
        if noDL acc && noDs (ρ2.set i none) then .ok (.lst true acc) (ρ2.set i (some (.dic true kvs))) else .bad
      else .bad
    | _ => .bad
  | .lcO i el t cs own, ρ => match ρ[i]? with
    | some (some (.lst true xs)) => if pureL xs && !own.contains i then (lcLoop (fun x ρ => match t.put x ρ with
          | none => .bad
          | some ρ1 => (lcTests cs ρ1).bind fun k ρ2 => if k then (ev el ρ2).bind fun d ρ3 => if !shares el || d.pure then .ok (some d) ρ3 else .bad else .ok none ρ2) own xs [] (wipeD (ρ.set i none) own)).bind fun acc ρ2 =>
        .ok (.lst true acc) (ρ2.set i (some (.lst true xs)))
      else .bad
    | _ => .bad
  | .lcE i el t cs own, ρ => match ρ[i]? with
    | some (some (.lst true xs)) => if pureL xs && !own.contains i then (lcLoop (fun x ρ => match t.put x ρ with
          | none => .bad
          | some ρ1 => (lcTests cs ρ1).bind fun k ρ2 => if k then (ev el ρ2).bind fun d ρ3 => if !shares el || d.pure then .ok (some d) ρ3 else .bad else .ok none ρ2) own (enumD 0 xs) [] (wipeD (ρ.set i none) own)).bind fun acc ρ2 =>
        .ok (.lst true acc) (ρ2.set i (some (.lst true xs)))
      else .bad
    | _ => .bad
  | .dget2 i as, ρ => match ρ[i]? with
    | some (some d0) => if isDct d0 then (evC as ρ).bind fun ds ρ2 => match ρ2[i]? with
        | some (some d) => R.of (dget2O d ds) ρ2
        | _ => .bad
      else .bad
    | _ => .bad
  | .fz e, ρ => (ev e ρ).bind fun d ρ1 => if d.can && !shares e then .ok d.frz ρ1 else .bad
  | .kind e, ρ => kindR (ev e ρ)
  | .sortK n j ks, ρ => (ev n ρ).bind fun d ρ1 => match d with
    | .int k => if in62 k && decide (k ≤ 16777216) && quietL ks && decide (ks.length ≤ 64) then match keyAll (fun x => evC ks (ρ1.set j (some x))) ((rngI k).map .int) with
        | some kz => .ok (.lst true ((srtK (rngI k) kz).map .int)) ρ1
        | none => .bad
      else .bad
    | _ => .bad
  | .sortD e j ks, ρ => (ev e ρ).bind fun d ρ1 => match d with
    | .dit _ kvs => match keysTI kvs with
      | some rows => if decide (rows.length ≤ 16777216) && quietL ks && decide (ks.length ≤ 64) then match keyAll (fun x => evC ks (ρ1.set j (some x))) (rows.map fun k => .tup (k.map .int)) with
          | some kz => .ok (.lst true ((srtA rows kz).map fun k => .tup (k.map .int))) ρ1
          | none => .bad
        else .bad
      | none => .bad
    | _ => .bad
  | .fld C i f, ρ => match ρ[i]? with
    | some (some (.ins C1 fs)) => if C1 = C then match fs.lookup f with
        | some d => if d.pure then .ok d ρ else .bad
        | none => .bad
      else .bad
    | _ => .bad
  | .new C g as, ρ => (evA as ρ).bind fun rs ρ1 => match fetch rs ρ1 with
      | some (ds, ρ2) => match call g (.ins C [] :: ds) with
        | .ok .non (some d :: outs) => .ok d (back rs outs ρ2)
        | .err x (_ :: outs) => .err x (back rs outs ρ2)
        | _ => .bad
      | none => .bad
  | .meth C m g i as, ρ => match ρ[i]? with
    | some (some (.ins C1 fs)) => if C1 = C ∧ fs.lookup m = none then (evA as ρ).bind fun rs ρ1 => match fetch (.lnt i :: rs) ρ1 with
        | some (ds, ρ2) => match call g ds with
          | .ok d outs => .ok d (back (.lnt i :: rs) outs ρ2)
          | .err x outs => .err x (back (.lnt i :: rs) outs ρ2)
          | .bad => .bad
        | none => .bad
      else .bad
    | _ => .bad
  | .recv C m g e as, ρ => (ev e ρ).bind fun d ρ1 => match d with
    | .ins C1 fs => if C1 = C ∧ fs.lookup m = none ∧ shares e = false then (evA as ρ1).bind fun rs ρ2 => match fetch rs ρ2 with
        | some (ds, ρ3) => match call g (.ins C1 fs :: ds) with
          | .ok r (_ :: outs) => .ok r (back rs outs ρ3)
          | .err x (_ :: outs) => .err x (back rs outs ρ3)
          | _ => .bad
        | none => .bad
      else .bad
    | _ => .bad
  | .dc kx vx t k es cs own, ρ => (evC es ρ).bind fun ds ρ1 => if canL ds then match itD k (frzL ds) with
      | some xs => (dcLoop (fun x ρ => match t.put x ρ with
          | none => .bad
          | some ρ1 => (lcTests cs ρ1).bind fun b ρ2 => if b then (ev kx ρ2).bind fun d ρ3 => (ev vx ρ3).bind fun y ρ4 => match keyTO d with
            | some kk => if y.pure then .ok (some (kk, y)) ρ4 else .bad
            | none => .bad
            else .ok none ρ2) own xs [] (wipeD ρ1 own)).bind fun acc ρ2 => .ok (.dit true acc) ρ2
      | none => .bad
    else .bad
  | .dc2 kx vx t k es t1 k1 es1 own own1, ρ => (evC es ρ).bind fun ds ρ1 => if canL ds then match itD k (frzL ds) with
      | some xs => (dc2Loop (fun x ρ => match t.put x ρ with
          | none => .bad
          | some ρ1 => (evC es1 ρ1).bind fun ds1 ρ2 => if canL ds1 then match itD k1 (frzL ds1) with
            | some ys => .ok ys ρ2
            | none => .bad
            else .bad) (fun x ρ => match t1.put x ρ with
          | none => .bad
          | some ρ1 => (ev kx ρ1).bind fun d ρ3 => (ev vx ρ3).bind fun y ρ4 => match keyTO d with
            | some kk => if y.pure then .ok (some (kk, y)) ρ4 else .bad
            | none => .bad) own own1 xs [] (wipeD ρ1 own)).bind fun acc ρ2 => .ok (.dit true acc) ρ2
      | none => .bad
    else .bad
  | .fat C i f ix, ρ => match ρ[i]? with
    | some (some (.ins C1 fs)) => if C1 = C && quiet ix then match fs.lookup f with
        | some (.lst _ xs) => (ev ix ρ).bind fun j ρ1 => match j with
          | .int j => match atD xs j with
            | some d => if d.pure then .ok d ρ1 else .bad
            | none => .bad
          | _ => .bad
        | _ => .bad
      else .bad
    | _ => .bad
  | .fapp C i f e, ρ => match ρ[i]? with
    | some (some (.ins C1 fs)) => if C1 = C then match fs.lookup f with
        | some (.lst true _) => (ev e ρ).bind fun d ρ1 => if !shares e || d.pure then match ρ1[i]? with
          | some (some (.ins C2 fs2)) => if C2 = C then match fs2.lookup f with
              | some (.lst true xs) => if xs.length < lim then .ok .non (ρ1.set i (some (.ins C (fPut f (.lst true (xs ++ [d])) fs2)))) else .bad
              | _ => .bad
            else .bad
          | _ => .bad
          else .bad
        | _ => .bad
      else .bad
    | _ => .bad
  | .fpop C i f ix k, ρ => match ρ[i]? with
    | some (some (.ins C1 fs)) => if C1 = C && quiet ix && quiet k then match fs.lookup f with
        | some (.lst true xs) => (ev ix ρ).bind fun j ρ1 => match j with
          | .int j => match atD xs j with
            | some (.dic true kvs) => (ev k ρ1).bind fun kd ρ2 => match (keyD kd).bind (dpopO kvs) with
              | some (kvs1, y) => match setAt xs j (.dic true kvs1) with
                | some ys => if y.pure then .ok y (ρ2.set i (some (.ins C (fPut f (.lst true ys) fs)))) else .bad
                | none => .bad
              | none => .bad
            | _ => .bad
          | _ => .bad
        | _ => .bad
      else .bad
    | _ => .bad
  | .dsapp i k x, ρ => match ρ[i]? with
    | some (some (.dic true kvs)) => if quiet k && quiet x && decide (kvs.length < lim) && decide ((kvs.map (·.1)).Nodup) then (ev k ρ).bind fun kd ρ1 => match keyD kd with
        | some key => match vGet (sdf kvs key) key with
          | some (.lst true xs) => (ev x (ρ1.set i (some (.dic true (sdf kvs key))))).bind fun xd ρ2 => if xd.pure && decide (xs.length < lim) then
              .ok .non (ρ2.set i (some (.dic true (vPut (sdf kvs key) key (.lst true (xs ++ [xd]))))))
              else .bad
          | _ => .bad
        | none => .bad
      else .bad
    | _ => .bad
  | .dupdT i e, ρ => match ρ[i]? with
    | some (some d0) => if isDit d0 then (ev e ρ).bind fun d ρ1 => if !shares e || d.pure then match ρ1[i]? with
        | some (some x) => match dupTO x d with
          | some x1 => .ok .non (ρ1.set i (some x1))
          | none => .bad
        | _ => .bad
        else .bad
      else .bad
    | _ => .bad
  | .dupd i e, ρ => match ρ[i]? with
    | some (some d0) => if isDic d0 then (ev e ρ).bind fun d ρ1 => if !shares e || d.pure then match ρ1[i]? with
        | some (some x) => match dupO x d with
          | some x' => .ok .non (ρ1.set i (some x'))
          | none => .bad
        | _ => .bad
        else .bad
      else .bad
    | _ => .bad
/-- readers' arguments -/
def evR : List E → Env' → R (List D)
  | [], ρ => .ok [] ρ
  | e :: es, ρ => match varOf e with
    | some i => match ρ[i]? with
      | some (some _) => (evR es ρ).bind fun ds ρ2 => match ρ2[i]? with | some (some d) => .ok (d :: ds) ρ2 | _ => .bad
      | _ => .bad
    | none => (ev e ρ).bind fun d ρ1 => (evR es ρ1).bind fun ds ρ2 =>
      if !shares e || d.pure || quietL es then .ok (d :: ds) ρ2 else .bad
/-- takers' arguments -/
def evC : List E → Env' → R (List D)
  | [], ρ => .ok [] ρ
  | e :: es, ρ => (ev e ρ).bind fun d ρ1 => (evC es ρ1).bind fun ds ρ2 =>
      if !shares e || d.pure then .ok (d :: ds) ρ2 else .bad
/-- a call's arguments -/
def evA : List E → Env' → R (List Ar)
  | [], ρ => .ok [] ρ
  | e :: es, ρ => match lendOf e with
    | some i => match ρ[i]? with
      | some (some _) => (evA es ρ).bind fun ds ρ2 => .ok (.lnt i :: ds) ρ2
      | _ => .bad
    | none => (ev e ρ).bind fun d ρ1 => (evA es ρ1).bind fun ds ρ2 =>
      if !shares e || d.pure then .ok (.val d :: ds) ρ2 else .bad
/-- the kinds of what several calls raise -/
def evK : List E → Env' → R (List D)
  | [], ρ => .ok [] ρ
  | e :: es, ρ => (kindR (ev e ρ)).bind fun d ρ1 => (evK es ρ1).bind fun ds ρ2 => .ok (d :: ds) ρ2
def lcTests : List E → Env' → R Bool
  | [], ρ => .ok true ρ
  | [c], ρ => (ev c ρ).bind fun d ρ1 => R.of (truD d) ρ1
  | _, _ => .bad
end
def forLoop (f : D → Env' → SR) : List D → Env' → SR
  | [], ρ => .nx ρ
  | x :: xs, ρ => match f x ρ with
    | .nx ρ' => forLoop f xs ρ'
    | .cont ρ' => forLoop f xs ρ'
    | .brk ρ' => .nx ρ'
    | r => r
def whlLoop (c : Env' → R D) (f : Env' → SR) : Nat → Env' → SR
  | 0, _ => .bad
  | n + 1, ρ => (c ρ).sbind fun d ρ1 => match truD d with
    | some true => match f ρ1 with
      | .nx ρ' => whlLoop c f n ρ'
      | .cont ρ' => whlLoop c f n ρ'
      | .brk ρ' => .nx ρ'
      | r => r
    | some false => .nx ρ1
    | none => .bad
def ownLoop (f : Env' → SR) (x o : Nat) : List D → List D → Env' → SR
  | [], acc, ρ => .nx (ρ.set o (some (.lst true acc)))
  | d :: r, acc, ρ => if x < ρ.length then match f ((ρ.set o none).set x (some d)) with
      | .nx ρ' => match ρ'[x]? with
        | some (some d') => ownLoop f x o r (acc ++ [d']) (ρ'.set x none)
        | _ => .bad
      | _ => .bad
    else .bad
def putAll : List Nat → List D → Env' → Option Env'
  | [], [], ρ => some ρ
  | i :: is, d :: ds, ρ => if i < ρ.length then putAll is ds (ρ.set i (some d)) else none
  | _, _, _ => none
mutual
def ex : S → Env' → SR
  | .asg t e, ρ => (ev call e ρ).sbind fun d ρ1 => if !shares e || d.pure then match t.put d ρ1 with
      | some ρ2 => .nx ρ2
      | none => .bad
    else .bad
  | .multi is es, ρ => (evC call es ρ).sbind fun ds ρ1 => match putAll is ds ρ1 with
      | some ρ2 => .nx ρ2
      | none => .bad
  | .aug i o e, ρ => match ρ[i]? with
    | some (some _) => (ev call e ρ).sbind fun d ρ1 => match ρ1[i]? with
      | some (some x) => if flat2 x then match binO o x d with
        | some y => .nx (ρ1.set i (some y))
        | none => .bad
        else .bad
      | _ => .bad
    | _ => .bad
  | .expr e, ρ => (ev call e ρ).sbind fun _ ρ1 => .nx ρ1
  | .store i ps ix e, ρ => (ev call e ρ).sbind fun d ρ1 => match ρ1[i]? with
      | some (some x) => if (!shares e || d.pure) && quietL ps && quiet ix then (evR call ps ρ1).sbind fun is ρ2 => match intsO is with
          | some js => if isPath js x then (ev call ix ρ2).sbind fun k ρ3 => match k with
            | .int k => match atPath (setO k d) js x with
              | some (x', _) => .nx (ρ3.set i (some x'))
              | none => .bad
            | _ => .bad
            else .bad
          | none => .bad
        else .bad
      | _ => .bad
  | .dstore i k e, ρ => (ev call e ρ).sbind fun d ρ1 => match ρ1[i]? with
      | some (some _) => if d.pure then (ev call k ρ1).sbind fun kd ρ2 => match ρ2[i]? with
          | some (some x) => match dput x kd d with
            | some x' => .nx (ρ2.set i (some x'))
            | none => .bad
          | _ => .bad
        else .bad
      | _ => .bad
  | .ifs c a b, ρ => (ev call c ρ).sbind fun d ρ1 => match truD d with
      | some true => exs a ρ1
      | some false => exs b ρ1
      | none => .bad
  | .whl n c b, ρ => whlLoop (ev call c) (exs b) n ρ
  | .fors t k es b, ρ => (evC call es ρ).sbind fun ds ρ1 => if canL ds then match itD k (frzL ds) with
      | some xs => forLoop (fun x ρ => match t.put x ρ with
          | some ρ' => exs b ρ'
          | none => .bad) xs ρ1
      | none => .bad
    else .bad
  | .forO x o b, ρ => match ρ[o]? with
    | some (some (.lst true xs)) => if x = o then .bad else ownLoop (exs b) x o xs [] (ρ.set o none)
    | _ => .bad
  | .ret e, ρ => (ev call e ρ).sbind fun d ρ1 => if !shares e || d.pure then .ret d ρ1 else .bad
  | .retN, ρ => .ret .non ρ
  | .pass, ρ => .nx ρ
  | .brk, ρ => .brk ρ
  | .cont, ρ => .cont ρ
  | .frz i, ρ => match ρ[i]? with | some (some d) => if d.cand then .nx (ρ.set i (some d.frz)) else .bad | _ => .bad
  | .raise C ks es, ρ => (evC call es ρ).sbind fun ds ρ1 => if pureL ds && decide (ks.length = ds.length) then .err (C, (ks.zip ds).reverse) ρ1 else .bad
  | .wks i ret op es rhs, ρ => (evK call es (ρ.set i none)).sbind fun ds ρ1 => (ev call rhs ρ1).sbind fun r ρ2 => match cmpO op (.lst true ds) r with
      | some (.bl b) => if ret then .ret (.bl b) ρ2 else if b then .ret (.bl false) ρ2 else .nx ρ2
      | _ => .bad
  | .wkr i es, ρ => (evK call es (ρ.set i none)).sbind fun ds ρ1 => .ret (.lst true ds) ρ1
  | .wkc i op es e2 c rT rF, ρ => (ev call c (ρ.set i none)).sbind fun d ρ0 => match truD d with
      | some true => (evK call es (ρ0.set i none)).sbind fun d1 ρ1 => (evK call e2 ρ1).sbind fun d2 ρ2 => (ev call rT ρ2).sbind fun r ρ3 => match cmpO op (.lst true (d1 ++ d2)) r with
        | some (.bl b) => if b then .ret (.bl false) ρ3 else .nx ρ3
        | _ => .bad
      | some false => (evK call es (ρ0.set i none)).sbind fun d1 ρ1 => (ev call rF ρ1).sbind fun r ρ2 => match cmpO op (.lst true d1) r with
        | some (.bl b) => if b then .ret (.bl false) ρ2 else .nx ρ2
        | _ => .bad
      | none => .bad
  | .fdst C i f ix k e, ρ => (ev call e ρ).sbind fun d ρ1 => match ρ1[i]? with
      | some (some (.ins C1 fs)) => if C1 = C && d.pure && quiet ix && quiet k then match fs.lookup f with
          | some (.lst true xs) => (ev call ix ρ1).sbind fun j ρ2 => match j with
            | .int j => match atD xs j with
              | some (.dic true kvs) => (ev call k ρ2).sbind fun kd ρ3 => match dput (.dic true kvs) kd d with
                | some y => match setAt xs j y with
                  | some ys => .nx (ρ3.set i (some (.ins C (fPut f (.lst true ys) fs))))
                  | none => .bad
                | none => .bad
              | _ => .bad
            | _ => .bad
          | _ => .bad
        else .bad
      | _ => .bad
  | .view i fo ps s, ρ => match vIn i fo ρ with
    | some (x, ρ1) => if vOk i ps ρ then vEnd i fo ps x ρ (ex s ρ1) else .bad
    | none => .bad
  | .fput C i f e, ρ => (ev call e ρ).sbind fun d ρ1 => if !shares e || d.pure then match ρ1[i]? with
      | some (some (.ins C1 fs)) => if C1 = C && decide (fs.length < 1000) && fixF fs f then .nx (ρ1.set i (some (.ins C1 (fPut f d fs)))) else .bad
      | _ => .bad
      else .bad
  | .faug C i f o e, ρ => match ρ[i]? with
    | some (some (.ins C1 fs)) => if C1 = C && decide (fs.length < 1000) && quiet e then match fs.lookup f with
        | some (.int a) => (ev call e ρ).sbind fun d ρ1 => match d, o with
          | .int b, .Add => .nx (ρ1.set i (some (.ins C1 (fPut f (.int (a + b)) fs))))
          | _, _ => .bad
        | _ => .bad
      else .bad
    | _ => .bad
  | .bad, _ => .bad
def exs : List S → Env' → SR
  | [], ρ => .nx ρ
  | s :: r, ρ => match ex s ρ with
    | .nx ρ' => exs r ρ'
    | x => x
end
end
structure FD where
  np : Nat
  ns : Nat
  io : List Bool
  body : List S
def outsOf : Env' → List Bool → List (Option D)
  | _, [] => []
  | [], _ :: r => none :: outsOf [] r
  | o :: ρ, b :: r => (if b then o else none) :: outsOf ρ r
def run (tb : Str → Option FD) : Nat → CallT
  | 0, _, _ => .bad
  | n + 1, f, ds => match tb f with
    | none => .bad
    | some fd => if ds.length = fd.np then match exs (run tb n) fd.body (ds.map some ++ List.replicate (fd.ns - ds.length) none) with
        | .ret d ρ => .ok d (outsOf ρ fd.io)
        | .nx ρ => .ok .non (outsOf ρ fd.io)
        | .err x ρ => .err x (outsOf ρ fd.io)
        | _ => .bad
      else .bad
end VI

namespace VI
variable [Tn]
open PySem PySem.Spec L2
abbrev SG := List (Option V)
section
variable (K : PySem.W.Frag) (mg : Str → Option Value)
inductive FzF (F : Hp) : List (Str × V) → List (Str × D) → Prop
  | nil : FzF F [] []
  | cons {k v d vs ds} : Fz K F v d → FzF F vs ds → FzF F ((k, v) :: vs) ((k, d) :: ds)
def XOk (F H : Hp) (cls : Value) (dx : Option Addr) (x : Ex) : Prop :=
  ∃ C, cls = .ref C ∧ mg x.1 = some (.ref C) ∧ match dx with
    | none => x.2 = []
    | some a => ∃ vs, H a = some (.xd vs) ∧ FzF K F vs x.2
def PX (W : WX) (F H : Hp) (A : AS) (σ : SG) (x : Ex) (ρ' : Env') : Prop :=
  ∀ cls dx F' H' A', Ext F H A F' H' A' → Slots K mg F' H' σ ρ' A' → XOk K mg F' H' cls dx x → W cls dx σ H'
def PostE (W : WX) (F H : Hp) (A : AS) (σ : SG) (q al : Bool) (ρ : Env') (r : R D) (Q : VK) : Prop := match r with
  | .ok d ρ' => ∀ v F' H' A' B, Ext F H A F' H' (cup A' B) → Slots K mg F' H' σ ρ' A' → Own K mg F' H' v d B → (al = true → Sb B A') → (al = false → Dj A' B) → (q = true → ρ' = ρ ∧ Same H H' ∧ A' = A) → Q v H'
  | .err x ρ' => PX K mg W F H A σ x ρ'
  | .bad => False
variable (call : CallT)
def tE (e : E) (W : WX) : TE := fun σ H Q => ∃ F A ρ, Wd F H A ∧ Slots K mg F H σ ρ A ∧ PostE K mg W F H A σ (quiet e) (shares e) ρ (ev call e ρ) Q
def tR (W : WX) (e : E) : TE := match varOf e with
  | some i => tVar i
  | none => tE K mg call e W
def tRs (W : WX) : List E → TA
  | [] => fun _ H Q => Q [] H
  | e :: es => fun σ H Q => tR K mg call W e σ H fun x H1 => tRs W es σ H1 fun xs H2 => Q (x :: xs) H2
def tCs (W : WX) : List E → TA
  | [] => fun _ H Q => Q [] H
  | e :: es => fun σ H Q => tE K mg call e W σ H fun x H1 => tCs W es σ H1 fun xs H2 => Q (x :: xs) H2
inductive RL (F H : Hp) (A : AS) : List E → List V → List D → Prop
  | nil : RL F H A [] [] []
  | cons {e es v vs d ds B} : Own K mg F H v d B → (shares e = true → Sb B A) → RL F H A es vs ds → RL F H A (e :: es) (v :: vs) (d :: ds)
def PostR (W : WX) (F H : Hp) (A : AS) (σ : SG) (es : List E) (ρ : Env') (r : R (List D)) (G : List V → Hp → Prop) : Prop := match r with
  | .ok ds ρ' => ∀ vs F' H' A', Ext F H A F' H' A' → Slots K mg F' H' σ ρ' A' → RL K mg F' H' A' es vs ds → (quietL es = true → ρ' = ρ ∧ Same H H' ∧ A' = A) → G vs H'
  | .err x ρ' => PX K mg W F H A σ x ρ'
  | .bad => False
def PostC (W : WX) (F H : Hp) (A : AS) (σ : SG) (es : List E) (ρ : Env') (r : R (List D)) (G : List V → Hp → Prop) : Prop := match r with
  | .ok ds ρ' => ∀ vs F' H' A' B, Ext F H A F' H' (cup A' B) → Slots K mg F' H' σ ρ' A' → OwnL K mg F' H' vs ds B → Dj A' B → (quietL es = true → ρ' = ρ ∧ Same H H' ∧ A' = A) → G vs H'
  | .err x ρ' => PX K mg W F H A σ x ρ'
  | .bad => False
end
section
variable {K : PySem.W.Frag} {mg : Str → Option Value} {call : CallT} {W : WX}
theorem PX.trans {F H F1 H1 : Hp} {A A1 : AS} {σ : SG} {x : Ex} {ρ' : Env'} (w : Wd F H A) (e : Ext F H A F1 H1 A1) (p : PX K mg W F H A σ x ρ') : PX K mg W F1 H1 A1 σ x ρ' :=
  fun cls dx F' H' A' e' s y => p cls dx F' H' A' (e.trans w e') s y
theorem PostE.imp {F H : Hp} {A : AS} {σ : SG} {q al : Bool} {ρ : Env'} {r : R D} {Q Q' : VK} (p : PostE K mg W F H A σ q al ρ r Q) (h : ∀ v H', Q v H' → Q' v H') : PostE K mg W F H A σ q al ρ r Q' := by
  cases r with
  | ok d ρ' => exact fun v F' H' A' B a b c d e f => h _ _ (p v F' H' A' B a b c d e f)
  | err x ρ' => exact p
  | bad => exact p
theorem quietL_cons {e : E} {es : List E} (h : quietL (e :: es) = true) : quiet e = true ∧ quietL es = true := by
  simpa only [quietL, Bool.and_eq_true] using h
theorem Same.rfl' {H : Hp} : Same H H := fun _ _ e => e
theorem varOf_some {e : E} {i : Nat} (h : varOf e = some i) : e = .var i := by
  cases e with
  | var j => simp only [varOf, Option.some.injEq] at h; rw [h]
  | _ => simp [varOf] at h
theorem slot_val {F H F' H' : Hp} {A A' : AS} {σ : SG} {ρ ρ' : Env'} {i : Nat} {d d' : D} {v : V} (hv : σ[i]? = some (some v)) (s : Slots K mg F' H' σ ρ' A') (h : ρ'[i]? = some (some d')) :
    ∃ B, Own K mg F' H' v d' B ∧ Sb B A' := by
  obtain ⟨v', A1, A2, h1, h2, _, _, h5, _⟩ := s.get h
  rw [hv] at h1
  cases h1
  exact ⟨A1, h2, h5⟩
theorem seqR : ∀ (es : List E) {σ : SG} {H F : Hp} {A : AS} {ρ : Env'} {G : List V → Hp → Prop}, Wd F H A → Slots K mg F H σ ρ A → PostR K mg W F H A σ es ρ (evR call es ρ) G → tRs K mg call W es σ H G
  | [], σ, H, F, A, ρ, G, w, s, p => by
    simp only [evR, PostR] at p
    exact p [] F H A (Ext.refl w) s .nil fun _ => by first | exact ⟨rfl, Same.rfl', rfl⟩ | exact ⟨Same.rfl', rfl⟩ | exact ⟨trivial, Same.rfl', rfl⟩
  | e :: es, σ, H, F, A, ρ, G, w, s, p => by
    cases hv : varOf e with
    | some i =>
      have ee := varOf_some hv
      subst ee
      simp only [evR, varOf] at p
      cases h0 : ρ[i]? with
      | none => simp only [h0, PostR] at p
      | some o =>
      cases o with
      | none => simp only [h0, PostR] at p
      | some d0 =>
      simp only [h0] at p
      obtain ⟨v, A1, A2, h1, h2, _, _, h5, _⟩ := s.get h0
      show tVar i σ H fun x H1 => tRs K mg call W es σ H1 fun xs H2 => G (x :: xs) H2
      refine ⟨v, h1, ?_⟩
      refine seqR es w s ?_
      cases hr : evR call es ρ with
      | bad => simp only [hr, R.bind, PostR] at p
      | err x ρ' => simp only [hr, R.bind, PostR] at p; exact p
      | ok ds ρ2 =>
        simp only [hr, R.bind] at p
        cases h2' : ρ2[i]? with
        | none => simp only [h2', PostR] at p
        | some o2 =>
        cases o2 with
        | none => simp only [h2', PostR] at p
        | some d =>
        simp only [h2', PostR] at p
        intro vs F' H' A' ex s' rl q
        obtain ⟨B, ow, sb⟩ := slot_val (F := F) (H := H) (A := A) (ρ := ρ) (d := d0) h1 s' h2'
        refine p (v :: vs) F' H' A' ex s' (.cons ow (fun _ => sb) rl) fun hq => q (quietL_cons hq).2
    | none =>
      simp only [evR, hv] at p
      show tR K mg call W e σ H fun x H1 => tRs K mg call W es σ H1 fun xs H2 => G (x :: xs) H2
      unfold tR
      rw [hv]
      refine ⟨F, A, ρ, w, s, ?_⟩
      cases h1 : ev call e ρ with
      | bad => simp only [h1, R.bind, PostR] at p
      | err x ρ' => simp only [h1, R.bind, PostR] at p; exact p
      | ok d ρ1 =>
        simp only [h1, R.bind] at p
        intro v F1 H1 A1 B e1 s1 o1 al1 dj1 q1
        refine seqR es (e1.wd.sub Sb.l) s1 ?_
        cases h2 : evR call es ρ1 with
        | bad => simp only [h2, PostR] at p
        | err x ρ' => simp only [h2, PostR] at p; exact fun cls dx F' H' A' e' s' y => p cls dx F' H' A' (e1.trans w (e'.more Sb.l)) s' y
        | ok ds ρ2 =>
          simp only [h2] at p
          by_cases hc : (!shares e || d.pure || quietL es) = true
          · rw [if_pos hc] at p
            intro vs F2 H2 A2 e2 s2 rl q2
            have ext : Ext F H A F2 H2 A2 := e1.trans w (e2.more Sb.l)
            have fin : ∀ {B'}, Own K mg F2 H2 v d B' → (shares e = true → Sb B' A2) → G (v :: vs) H2 := fun o b => p (v :: vs) F2 H2 A2 ext s2 (.cons o b rl) fun hq => by
              obtain ⟨k1, k2⟩ := quietL_cons hq
              obtain ⟨r1, r2, r3⟩ := q1 k1
              obtain ⟨t1, t2, t3⟩ := q2 k2
              exact ⟨t1.trans r1, fun a o h => t2 a o (r2 a o h), t3.trans r3⟩
            cases ha : shares e with
            | false => exact fin (Own.ext e2 (dj1 ha) o1) fun z => by rw [ha] at z; cases z
            | true =>
              simp only [ha, Bool.not_true, Bool.false_or, Bool.or_eq_true] at hc
              rcases hc with hc | hc
              · exact fin (B' := no) (.fz (Fz.up e2.fsame (o1.fzd hc))) fun _ => Sb.no_l
              · obtain ⟨t1, t2, t3⟩ := q2 hc
                refine fin (Own.move e2.fsame (fun a o _ h => t2 a o h) o1) fun _ => ?_
                rw [t3]; exact al1 ha
          · rw [if_neg hc] at p; exact p.elim
theorem seqC : ∀ (es : List E) {σ : SG} {H F : Hp} {A : AS} {ρ : Env'} {G : List V → Hp → Prop}, Wd F H A → Slots K mg F H σ ρ A → PostC K mg W F H A σ es ρ (evC call es ρ) G → tCs K mg call W es σ H G
  | [], σ, H, F, A, ρ, G, w, s, p => by
    simp only [evC, PostC] at p
    refine p [] F H A no ?_ s .nil Dj.no_r fun _ => by first | exact ⟨rfl, Same.rfl', rfl⟩ | exact ⟨Same.rfl', rfl⟩ | exact ⟨trivial, Same.rfl', rfl⟩
    have e : cup A no = A := funext fun a => propext ⟨fun h => h.elim id fun z => z.elim, .inl⟩
    rw [e]; exact Ext.refl w
  | e :: es, σ, H, F, A, ρ, G, w, s, p => by
    simp only [evC] at p
    refine ⟨F, A, ρ, w, s, ?_⟩
    cases h1 : ev call e ρ with
    | bad => simp only [h1, R.bind, PostC] at p
    | err x ρ' => simp only [h1, R.bind, PostC] at p; exact p
    | ok d ρ1 =>
      simp only [h1, R.bind] at p
      intro v F1 H1 A1 B e1 s1 o1 al1 dj1 q1
      refine seqC es (e1.wd.sub Sb.l) s1 ?_
      cases h2 : evC call es ρ1 with
      | bad => simp only [h2, PostC] at p
      | err x ρ' => simp only [h2, PostC] at p; exact fun cls dx F' H' A' e' s' y => p cls dx F' H' A' (e1.trans w (e'.more Sb.l)) s' y
      | ok ds ρ2 =>
        simp only [h2] at p
        by_cases hc : (!shares e || d.pure) = true
        · rw [if_pos hc] at p
          intro vs F2 H2 A2 B2 e2 s2 ol dj2 q2
          have quiets : quietL (e :: es) = true → ρ2 = ρ ∧ Same H H2 ∧ A2 = A := fun hq => by
            obtain ⟨k1, k2⟩ := quietL_cons hq
            obtain ⟨r1, r2, r3⟩ := q1 k1
            obtain ⟨t1, t2, t3⟩ := q2 k2
            exact ⟨t1.trans r1, fun a o h => t2 a o (r2 a o h), t3.trans r3⟩
          by_cases ha : shares e = false
          · have dj := dj1 ha
            obtain ⟨f1, f2⟩ := Ext.frame e1.wd dj e2
            have f3 : Ext F H A F2 H2 (cup (cup A2 B2) B) := e1.trans w f1
            have eqs : cup (cup A2 B2) B = cup A2 (cup B B2) := funext fun a => propext ⟨fun h => h.elim (fun h => h.elim .inl fun h => .inr (.inr h)) fun h => .inr (.inl h), fun h => h.elim (fun h => .inl (.inl h)) fun h => h.elim .inr fun h => .inl (.inr h)⟩
            rw [eqs] at f3
            refine p (v :: vs) F2 H2 A2 (cup B B2) f3 s2 (.cons (Own.ext e2 dj o1) ol (fun a x y => f2 a (.inr y) x) Sb.l Sb.r) (fun a x y => ?_) quiets
            rcases y with y | y
            · exact f2 a (.inl x) y
            · exact dj2 a x y
          · have hp : d.pure = true := by
              cases hal : shares e with
              | false => exact absurd hal ha
              | true => simpa [hal] using hc
            have fz := Fz.up e2.fsame (o1.fzd hp)
            refine p (v :: vs) F2 H2 A2 B2 (e1.trans w (e2.more Sb.l)) s2 (.cons (A1 := no) (A2 := B2) (.fz fz) ol Dj.no_l Sb.no_l Sb.rfl') dj2 quiets
        · rw [if_neg hc] at p; exact p.elim
end
end VI

namespace VI
variable [Tn]
open PySem PySem.Spec L2
section
variable {K : PySem.W.Frag} {mg : Str → Option Value} {F H : Hp} {A B : AS}
/-! ### what the data says of the value -/
theorem Own.non {v : V} (o : Own K mg F H v .non B) : v = .non := by
  cases o with
  | fz h => cases h; rfl
theorem Own.bl {v : V} {b : Bool} (o : Own K mg F H v (.bl b) B) : v = .bl b := by
  cases o with
  | fz h => cases h; rfl
theorem Own.int {v : V} {i : Int} (o : Own K mg F H v (.int i) B) : v = .int i := by
  cases o with
  | fz h => cases h; rfl
theorem Own.str {v : V} {l : List Nat} (o : Own K mg F H v (.str l) B) : v = .str ⟨l.toArray⟩ ∧ okCs l = true := by
  cases o with
  | fz h => cases h with | str _ h => exact ⟨rfl, h⟩
mutual
theorem Fz.own {v : V} {d : D} (h : Fz K F v d) : Own K mg F H v d no := .fz h
theorem FzL.own : ∀ {vs : List V} {ds : List D}, FzL K F vs ds → OwnL K mg F H vs ds no
  | _, _, .nil => .nil
  | _, _, .cons h r => .cons (A1 := no) (A2 := no) (.fz h) (FzL.own r) Dj.no_l Sb.no_l Sb.no_l
end
theorem FzL.len : ∀ {vs : List V} {ds : List D}, FzL K F vs ds → vs.length = ds.length
  | _, _, .nil => rfl
  | _, _, .cons _ r => by simp [FzL.len r]
theorem OwnL.len : ∀ {vs : List V} {ds : List D} {B : AS}, OwnL K mg F H vs ds B → vs.length = ds.length
  | _, _, _, .nil => rfl
  | _, _, _, .cons _ r _ _ _ => by simp [OwnL.len r]
theorem Own.lstv {v : V} {m : Bool} {ds : List D} (s : Same F H) (o : Own K mg F H v (.lst m ds) B) : ∃ a vs, v = .ref a ∧ H a = some (.lst vs) ∧ OwnL K mg F H vs ds B := by
  cases o with
  | fz h => cases h with | lst h r => exact ⟨_, _, rfl, s _ _ h, (FzL.own r).sub Sb.no_l⟩
  | lst h _ _ e r => exact ⟨_, _, rfl, h, r.sub e⟩
theorem Own.tupv {v : V} {ds : List D} (s : Same F H) (o : Own K mg F H v (.tup ds) B) : ∃ a vs, v = .ref a ∧ SqT K H a vs ∧ SqT K F a vs ∧ FzL K F vs ds := by
  cases o with
  | fz h => cases h with | tup h r => exact ⟨_, _, rfl, SqT.of (s _ _ h), SqT.of h, r⟩
theorem Own.tupx {v : V} {ds : List D} (o : Own K mg F H v (.tup ds) B) : ∃ a vs, v = .ref a ∧ F a = some (.tup vs) ∧ FzL K F vs ds := by
  cases o with
  | fz h => cases h with | tup h r => exact ⟨_, _, rfl, h, r⟩
theorem Own.scrv {v : V} {ns : List Int} (s : Same F H) (o : Own K mg F H v (.scr ns) B) : ∃ a, v = .ref a ∧ SqL K H a (ns.map V.int) := by
  cases o with
  | fz h => cases h with | scr h => exact ⟨_, rfl, SqL.up s h⟩
theorem FzL.append : ∀ {vs : List V} {ds : List D} {ws : List V} {es : List D}, FzL K F vs ds → FzL K F ws es → FzL K F (vs ++ ws) (ds ++ es)
  | _, _, _, _, .nil, s => s
  | _, _, _, _, .cons h r, s => .cons h (FzL.append r s)
theorem FzL.take : ∀ (n : Nat) {vs : List V} {ds : List D}, FzL K F vs ds → FzL K F (vs.take n) (ds.take n)
  | 0, _, _, _ => .nil
  | _ + 1, _, _, .nil => .nil
  | n + 1, _, _, .cons h r => .cons h (FzL.take n r)
theorem FzL.drop : ∀ (n : Nat) {vs : List V} {ds : List D}, FzL K F vs ds → FzL K F (vs.drop n) (ds.drop n)
  | 0, _, _, h => h
  | _ + 1, _, _, .nil => .nil
  | n + 1, _, _, .cons h r => FzL.drop n r
theorem FzL.rev : ∀ {vs : List V} {ds : List D}, FzL K F vs ds → FzL K F vs.reverse ds.reverse
  | _, _, .nil => .nil
  | _, _, .cons h r => by rw [List.reverse_cons, List.reverse_cons]; exact (FzL.rev r).append (.cons h .nil)
theorem FzL.rep (k : Nat) {vs : List V} {ds : List D} (h : FzL K F vs ds) : FzL K F (List.replicate k vs).flatten (List.replicate k ds).flatten := by
  induction k with
  | zero => exact .nil
  | succ k ih => rw [List.replicate_succ, List.replicate_succ, List.flatten_cons, List.flatten_cons]; exact h.append ih
theorem FzL.at : ∀ {vs : List V} {ds : List D} {i : Nat} {d : D}, FzL K F vs ds → ds[i]? = some d → ∃ v, vs[i]? = some v ∧ Fz K F v d
  | _, _, _, _, .nil, e => by simp at e
  | _, _, 0, _, .cons h _, e => by simp at e; subst e; exact ⟨_, rfl, h⟩
  | _, _, i + 1, _, .cons _ r, e => by
    obtain ⟨v, h1, h2⟩ := FzL.at (i := i) r (by simpa using e)
    exact ⟨v, by simpa using h1, h2⟩
theorem OwnL.at : ∀ {vs : List V} {ds : List D} {B : AS} {i : Nat} {d : D}, OwnL K mg F H vs ds B → ds[i]? = some d → ∃ v B', vs[i]? = some v ∧ Own K mg F H v d B' ∧ Sb B' B
  | _, _, _, _, _, .nil, e => by simp at e
  | _, _, _, 0, _, .cons h _ _ b _, e => by simp at e; subst e; exact ⟨_, _, rfl, h, b⟩
  | _, _, _, i + 1, _, .cons _ r _ _ c, e => by
    obtain ⟨v, B', h1, h2, h3⟩ := OwnL.at (i := i) r (by simpa using e)
    exact ⟨v, B', by simpa using h1, h2, h3.trans c⟩
theorem atI_fz {vs : List V} {ds : List D} {i : Int} {d : D} (h : FzL K F vs ds) (e : atI ds i = some d) : ∃ v, atI vs i = some v ∧ Fz K F v d := by
  unfold atI at e ⊢
  rw [h.len]
  cases hj : ixN ds.length i with
  | none => rw [hj] at e; cases e
  | some j => rw [hj] at e; exact h.at e
theorem atI_own {vs : List V} {ds : List D} {i : Int} {d : D} (h : OwnL K mg F H vs ds B) (e : atI ds i = some d) : ∃ v B', atI vs i = some v ∧ Own K mg F H v d B' ∧ Sb B' B := by
  unfold atI at e ⊢
  rw [h.len]
  cases hj : ixN ds.length i with
  | none => rw [hj] at e; cases e
  | some j => rw [hj] at e; exact h.at e
theorem intsO_some : ∀ {ds : List D} {ns : List Int}, intsO ds = some ns → ds = ns.map .int
  | [], ns, h => by simp [intsO] at h; subst h; rfl
  | .int i :: r, ns, h => by
    simp only [intsO, Option.map_eq_some_iff] at h
    obtain ⟨ms, h1, h2⟩ := h
    subst h2; rw [intsO_some h1]; rfl
  | .non :: _, _, h | .bl _ :: _, _, h | .str _ :: _, _, h | .tup _ :: _, _, h | .lst _ _ :: _, _, h | .dic _ _ :: _, _, h | .dit _ _ :: _, _, h | .ins _ _ :: _, _, h | .scr _ :: _, _, h => by simp [intsO] at h
theorem blsO_some : ∀ {ds : List D} {ns : List Bool}, blsO ds = some ns → ds = ns.map .bl
  | [], ns, h => by simp [blsO] at h; subst h; rfl
  | .bl i :: r, ns, h => by
    simp only [blsO, Option.map_eq_some_iff] at h
    obtain ⟨ms, h1, h2⟩ := h
    subst h2; rw [blsO_some h1]; rfl
  | .non :: _, _, h | .int _ :: _, _, h | .str _ :: _, _, h | .tup _ :: _, _, h | .lst _ _ :: _, _, h | .dic _ _ :: _, _, h | .dit _ _ :: _, _, h | .ins _ _ :: _, _, h | .scr _ :: _, _, h => by simp [blsO] at h
theorem strsO_some : ∀ {ds : List D} {ns : List (List Nat)}, strsO ds = some ns → ds = ns.map .str
  | [], ns, h => by simp [strsO] at h; subst h; rfl
  | .str i :: r, ns, h => by
    simp only [strsO, Option.map_eq_some_iff] at h
    obtain ⟨ms, h1, h2⟩ := h
    subst h2; rw [strsO_some h1]; rfl
  | .non :: _, _, h | .int _ :: _, _, h | .bl _ :: _, _, h | .tup _ :: _, _, h | .lst _ _ :: _, _, h | .dic _ _ :: _, _, h | .dit _ _ :: _, _, h | .ins _ _ :: _, _, h | .scr _ :: _, _, h => by simp [strsO] at h
theorem OwnL.ints : ∀ {ns : List Int} {vs : List V} {B : AS}, OwnL K mg F H vs (ns.map .int) B → vs = ns.map V.int
  | [], _, _, .nil => rfl
  | n :: ns, _, _, .cons h r _ _ _ => by rw [h.int, OwnL.ints r]; rfl
theorem OwnL.bls : ∀ {ns : List Bool} {vs : List V} {B : AS}, OwnL K mg F H vs (ns.map .bl) B → vs = ns.map V.bl
  | [], _, _, .nil => rfl
  | n :: ns, _, _, .cons h r _ _ _ => by rw [h.bl, OwnL.bls r]; rfl
theorem OwnL.strs : ∀ {ns : List (List Nat)} {vs : List V} {B : AS}, OwnL K mg F H vs (ns.map .str) B → vs = (ns.map ST).map V.str ∧ ns.all okCs = true
  | [], _, _, .nil => ⟨rfl, rfl⟩
  | n :: ns, _, _, .cons h r _ _ _ => by
    obtain ⟨h1, h2⟩ := h.str
    obtain ⟨r1, r2⟩ := OwnL.strs r
    exact ⟨by rw [h1, r1]; rfl, by rw [List.all_cons, h2, r2]; rfl⟩

/-! ### results -/
structure Rs (K : PySem.W.Frag) (mg : Str → Option Value) (F H : Hp) (A : AS) (al : Bool) (d : D) (Q : VK) : Prop where
  new : al = false → ∀ v F' H' B, Ext F H no F' H' B → Same H H' → Own K mg F' H' v d B → Q v H'
  same : al = true → ∀ v B, Own K mg F H v d B → Sb B A → Q v H
variable {al : Bool} {Q : VK}
theorem Rs.fz {v : V} {d : D} (w : Wd F H A) (r : Rs K mg F H A al d Q) (h : Fz K F v d) : Q v H := by
  cases al with
  | false => exact r.new rfl v F H no (Ext.refl w.no) (fun _ _ e => e) (.fz h)
  | true => exact r.same rfl v no (.fz h) Sb.no_l
theorem Rs.int {i : Int} (w : Wd F H A) (r : Rs K mg F H A al (.int i) Q) : Q (.int i) H := r.fz w (.int i)
theorem Rs.bl {b : Bool} (w : Wd F H A) (r : Rs K mg F H A al (.bl b) Q) : Q (.bl b) H := r.fz w (.bl b)
theorem Rs.str {l : List Nat} (w : Wd F H A) (r : Rs K mg F H A al (.str l) Q) (h : okCs l = true) : Q (.str ⟨l.toArray⟩) H := r.fz w (.str l h)
theorem Rs.lst {vs : List V} {ds : List D} {p : Addr} (w : Wd F H A) (r : Rs K mg F H A false (.lst true ds) Q) (h : FzL K F vs ds) (hp : H p = none) : Q (.ref p) (upd H p (.lst vs)) := by
  refine r.new rfl _ F _ (cup (fun a => a = p) no) (Ext.laid w.no hp) (fun _ _ e => (upd_ne (ne_of_none e hp)).trans e) (.lst (B := no) upd_same (.inl rfl) (fun z => z) Sb.no_l ?_)
  exact FzL.own h
theorem Rs.tup {vs : List V} {ds : List D} {p : Addr} (w : Wd F H A) (r : Rs K mg F H A false (.tup ds) Q) (h : FzL K F vs ds) (hp : H p = none) : Q (.ref p) (upd H p (.tup vs)) := by
  have e := Ext.laidF (o := .tup vs) w.no hp
  exact r.new rfl _ _ _ no e (fun _ _ e => (upd_ne (ne_of_none e hp)).trans e) (.fz (.tup upd_same (FzL.up e.fsame h)))

/-! ### signs -/
theorem okCs_app {a b : List Nat} (h : okCs a = true) (h' : okCs b = true) : okCs (a ++ b) = true := by
  unfold okCs at *; rw [List.all_append, h, h']; rfl
theorem okCs_sub {a b : List Nat} (h : okCs b = true) (s : ∀ x ∈ a, x ∈ b) : okCs a = true := by
  unfold okCs at *
  rw [List.all_eq_true] at *
  exact fun x hx => h x (s x hx)
theorem st_app (a b : List Nat) : (ST a ++ ST b : Str) = ST (a ++ b) := by
  show (⟨a.toArray ++ b.toArray⟩ : Str) = _
  simp
theorem st_len (a : List Nat) : (ST a).length = a.length := by
  show (a.toArray).size = _
  simp
theorem st_inj {a b : List Nat} (h : ST a = ST b) : a = b := by
  have := congrArg (fun s : Str => s.cps.toList) h
  simpa using this

/-! ### == -/
mutual
def toPy : D → PyData
  | .bl b => .bool b
  | .int i => .int i
  | .str l => .str ⟨l.toArray⟩
  | .tup xs => .tuple (toPyL xs)
  | .lst _ xs => .list (toPyL xs)
  | _ => .none
def toPyL : List D → List PyData
  | [] => []
  | x :: xs => toPy x :: toPyL xs
end
theorem okD_all {n : Nat} {xs : List D} (h : xs.all (okD n) = true) : ∀ x ∈ xs, okD n x = true := List.all_eq_true.mp h
mutual
theorem dp_of {n : Nat} (s : Same F H) : ∀ {v : V} {d : D} {B : AS}, Own K mg F H v d B → okD n d = true → Dp K H v (toPy d)
  | _, .non, _, o, _ => by rw [o.non]; exact .non
  | _, .bl b, _, o, _ => by rw [o.bl]; exact .bl b
  | _, .int i, _, o, _ => by rw [o.int]; exact .int i
  | _, .str l, _, o, _ => by rw [o.str.1]; exact .str _
  | _, .tup xs, _, o, h => by
    obtain ⟨a, vs, rfl, h1, _, h2⟩ := o.tupv s
    cases n with
    | zero => simp [okD] at h
    | succ n => exact .tup h1 (dpL_of (n := n) s (FzL.own (H := H) (mg := mg) h2) (by simpa [okD] using h))
  | _, .lst m xs, _, o, h => by
    obtain ⟨a, vs, rfl, h1, h2⟩ := o.lstv s
    cases n with
    | zero => simp [okD] at h
    | succ n => exact .lst (SqL.of h1) (dpL_of (n := n) s h2 (by simpa [okD] using h))
  | _, .dic _ _, _, _, h => by cases n <;> simp [okD] at h
  | _, .dit _ _, _, _, h => by cases n <;> simp [okD] at h
  | _, .ins _ _, _, _, h => by cases n <;> simp [okD] at h
  | _, .scr _, _, _, h => by cases n <;> simp [okD] at h
theorem dpL_of {n : Nat} (s : Same F H) : ∀ {vs : List V} {ds : List D} {B : AS}, OwnL K mg F H vs ds B → (∀ x ∈ ds, okD n x = true) → DpAll K H vs (toPyL ds)
  | _, [], _, .nil, _ => .nil
  | _, x :: xs, _, .cons o r _ _ _, h => .cons (dp_of s o (h x List.mem_cons_self)) (dpL_of s r fun y hy => h y (List.mem_cons_of_mem _ hy))
end
mutual
theorem lay_of {n : Nat} : ∀ {v : V} {d : D} {B : AS}, Own K mg F H v d B → okD n d = true → (toPy d).canLay0 = true ∧ (toPy d).depth ≤ n
  | _, .non, _, o, _ => by simp [toPy, PyData.canLay0, PyData.depth]
  | _, .bl b, _, o, _ => by simp [toPy, PyData.canLay0, PyData.depth]
  | _, .int i, _, o, _ => by simp [toPy, PyData.canLay0, PyData.depth]
  | _, .str l, _, o, _ => by
    have h := o.str.2
    simp only [toPy, PyData.canLay0, PyData.depth, Nat.zero_le, and_true]
    unfold okCs at h
    unfold PyData.strOk
    simpa using h
  | _, .tup xs, _, o, h => by
    cases n with
    | zero => simp [okD] at h
    | succ n =>
      cases o with
      | fz hf => cases hf with
        | tup h1 h2 =>
          have := layL_of (n := n) (FzL.own (H := H) (mg := mg) h2) (by simpa [okD] using h)
          simpa [toPy, PyData.canLay0, PyData.depth] using this
  | _, .lst m xs, _, o, h => by
    cases n with
    | zero => simp [okD] at h
    | succ n =>
      have fin : ∀ {vs B'}, OwnL K mg F H vs xs B' → (toPy (.lst m xs)).canLay0 = true ∧ (toPy (.lst m xs)).depth ≤ n + 1 := fun r => by
        have := layL_of (n := n) r (by simpa [okD] using h)
        simpa [toPy, PyData.canLay0, PyData.depth] using this
      cases o with
      | fz hf => cases hf with
        | lst h1 h2 => exact fin (FzL.own (H := H) (mg := mg) h2)
      | lst _ _ _ _ r => exact fin r
  | _, .dic _ _, _, _, h => by cases n <;> simp [okD] at h
  | _, .dit _ _, _, _, h => by cases n <;> simp [okD] at h
  | _, .ins _ _, _, _, h => by cases n <;> simp [okD] at h
  | _, .scr _, _, _, h => by cases n <;> simp [okD] at h
theorem layL_of {n : Nat} : ∀ {vs : List V} {ds : List D} {B : AS}, OwnL K mg F H vs ds B → (∀ x ∈ ds, okD n x = true) → PyData.canLayAll0 (toPyL ds) = true ∧ PyData.depthAll (toPyL ds) ≤ n
  | _, [], _, .nil, _ => by simp [toPyL, PyData.canLayAll0, PyData.depthAll]
  | _, x :: xs, _, .cons o r _ _ _, h => by
    have h1 := lay_of o (h x List.mem_cons_self)
    have h2 := layL_of r fun y hy => h y (List.mem_cons_of_mem _ hy)
    simp only [toPyL, PyData.canLayAll0, PyData.depthAll, Bool.and_eq_true]
    exact ⟨⟨h1.1, h2.1⟩, by omega⟩
end
theorem shaped_of {v : V} {d : D} (o : Own K mg F H v d B) (h : okD deep d = true) : SeqAt.shaped (toPy d) = true := by
  obtain ⟨h1, h2⟩ := lay_of o h
  unfold SeqAt.shaped
  rw [h1, decide_eq_true (show (toPy d).depth ≤ 64 from Nat.le_trans h2 (by decide))]
  rfl
theorem shapedL_of {vs : List V} {ds : List D} (o : OwnL K mg F H vs ds B) (h : ds.all (okD deep) = true) : SeqAt.shaped (.list (toPyL ds)) = true := by
  obtain ⟨h1, h2⟩ := layL_of o (okD_all h)
  have e1 : (PyData.list (toPyL ds)).canLay0 = true := by simpa [PyData.canLay0] using h1
  have e2 : (PyData.list (toPyL ds)).depth ≤ 64 := by
    have : (PyData.list (toPyL ds)).depth = PyData.depthAll (toPyL ds) + 1 := by simp [PyData.depth]
    rw [this]
    exact Nat.le_trans (Nat.succ_le_succ h2) (by decide)
  unfold SeqAt.shaped
  rw [e1, decide_eq_true e2]
  rfl
mutual
theorem eqv_deq : ∀ {n m : Nat} (a b : D), okD n a = true → okD m b = true → PyData.eqv (toPy a) (toPy b) = deq a b
  | n, m, a, b, ha, hb => by
    cases a with
    | non => cases b <;> first | rfl | (cases m <;> simp [okD] at hb)
    | bl x => cases b <;> first | rfl | (cases m <;> simp [okD] at hb)
    | int x => cases b <;> first | rfl | (cases m <;> simp [okD] at hb)
    | str x =>
      cases b with
      | str y =>
        show (ST x == ST y) = decide (x = y)
        by_cases e : x = y
        · subst e; simp
        · rw [decide_eq_false e]; exact beq_eq_false_iff_ne.mpr fun z => e (st_inj z)
      | _ => first | rfl | (cases m <;> simp [okD] at hb)
    | tup xs =>
      cases b with
      | tup ys =>
        cases n with
        | zero => simp [okD] at ha
        | succ n =>
        cases m with
        | zero => simp [okD] at hb
        | succ m => exact eqvL_deq xs ys (by simpa [okD] using ha) (by simpa [okD] using hb)
      | _ => first | rfl | (cases m <;> simp [okD] at hb)
    | lst k xs =>
      cases b with
      | lst k' ys =>
        cases n with
        | zero => simp [okD] at ha
        | succ n =>
        cases m with
        | zero => simp [okD] at hb
        | succ m => exact eqvL_deq xs ys (by simpa [okD] using ha) (by simpa [okD] using hb)
      | _ => first | rfl | (cases m <;> simp [okD] at hb)
    | dic _ _ => cases n <;> simp [okD] at ha
    | dit _ _ => cases n <;> simp [okD] at ha
    | ins _ _ => cases n <;> simp [okD] at ha
    | scr _ => cases n <;> simp [okD] at ha
theorem eqvL_deq : ∀ {n m : Nat} (a b : List D), (∀ x ∈ a, okD n x = true) → (∀ x ∈ b, okD m x = true) → PyData.eqvAll (toPyL a) (toPyL b) = deqL a b
  | _, _, [], [], _, _ => rfl
  | _, _, [], _ :: _, _, _ => rfl
  | _, _, _ :: _, [], _, _ => rfl
  | n, m, x :: xs, y :: ys, ha, hb => by
    show (PyData.eqv (toPy x) (toPy y) && PyData.eqvAll (toPyL xs) (toPyL ys)) = (deq x y && deqL xs ys)
    rw [eqv_deq x y (ha x List.mem_cons_self) (hb y List.mem_cons_self), eqvL_deq xs ys (fun z hz => ha z (List.mem_cons_of_mem _ hz)) fun z hz => hb z (List.mem_cons_of_mem _ hz)]
end
theorem inO_any {n m : Nat} (x : D) (hx : okD n x = true) : ∀ ys : List D, (∀ y ∈ ys, okD m y = true) → ((toPyL ys).any fun z => PyData.eqv z (toPy x)) = inO x ys
  | [], _ => rfl
  | y :: ys, h => by
    show (PyData.eqv (toPy y) (toPy x) || (toPyL ys).any _) = (deq y x || inO x ys)
    rw [eqv_deq y x (h y List.mem_cons_self) hx, inO_any x hx ys fun z hz => h z (List.mem_cons_of_mem _ hz)]
end
section
variable {K : PySem.W.Frag} {F : Hp}
theorem FzL.vI : ∀ {ns : List Int} {vs : List V}, FzL K F vs (ns.map .int) → vs = ns.map V.int
  | [], _, h => by cases h; rfl
  | n :: ns, _, h => by
    cases h with
    | cons x t => cases x; rw [FzL.vI t]; rfl
end
end VI

namespace VI
variable [Tn]
open PySem PySem.Spec L2
section
variable {K : PySem.W.Frag} {mg : Str → Option Value} {F H : Hp} {A B : AS}
theorem dKey_fz {k : Key} (h : okK k = true) : Fz K F (kV k) (dKey k) := by
  cases k with
  | inl i => exact .int i
  | inr x => exact .str x.cps.toList h
theorem dKeys_fz : ∀ {ks : List Key}, okKs ks = true → FzL K F (ks.map kV) (ks.map dKey)
  | [], _ => .nil
  | k :: r, h => by
    have h : (okK k && okKs r) = true := h
    rw [Bool.and_eq_true] at h
    exact .cons (dKey_fz h.1) (dKeys_fz h.2)
theorem FzK.keys : ∀ {vs : List (Key × V)} {ds : List (Key × D)}, FzK K F vs ds → vs.map (·.1) = ds.map (·.1)
  | _, _, .nil => rfl
  | _, _, .cons _ _ r => by simp [FzK.keys r]
theorem OwnK.keys : ∀ {vs : List (Key × V)} {ds : List (Key × D)} {B : AS}, OwnK K mg F H vs ds B → vs.map (·.1) = ds.map (·.1)
  | _, _, _, .nil => rfl
  | _, _, _, .cons _ _ r _ _ _ => by simp [OwnK.keys r]
theorem FzK.len {vs : List (Key × V)} {ds : List (Key × D)} (h : FzK K F vs ds) : vs.length = ds.length := by
  have := congrArg List.length h.keys
  simpa using this
theorem OwnK.len {vs : List (Key × V)} {ds : List (Key × D)} (h : OwnK K mg F H vs ds B) : vs.length = ds.length := by
  have := congrArg List.length h.keys
  simpa using this
theorem FzK.own : ∀ {vs : List (Key × V)} {ds : List (Key × D)}, FzK K F vs ds → OwnK K mg F H vs ds no
  | _, _, .nil => .nil
  | _, _, .cons o h r => .cons (A1 := no) (A2 := no) o (.fz h) (FzK.own r) Dj.no_l Sb.no_l Sb.no_l
theorem OwnK.get (k : Key) : ∀ {vs : List (Key × V)} {ds : List (Key × D)} {B : AS}, OwnK K mg F H vs ds B → (∀ d, vGet ds k = some d → ∃ v B', valV vs k = some v ∧ Own K mg F H v d B' ∧ Sb B' B) ∧ (vGet ds k = none → valV vs k = none)
  | _, _, _, .nil => ⟨fun d h => by simp [vGet] at h, fun _ => rfl⟩
  | _, _, _, .cons (k := k') (v := v) (d := d) (vs := vs) (ds := ds) o x r a b c => by
    obtain ⟨h1, h2⟩ := OwnK.get k r
    by_cases e : k' = k
    · subst e
      refine ⟨fun d' h => ?_, fun h => by simp [vGet] at h⟩
      have : d = d' := by simpa [vGet] using h
      subst this
      exact ⟨v, _, valV_pos (p := (k', v)) rfl, x, b⟩
    · have e1 : valV ((k', v) :: vs) k = valV vs k := valV_neg (p := (k', v)) e
      have e2 : vGet ((k', d) :: ds) k = vGet ds k := by simp [vGet, List.find?_cons, e]
      rw [e1, e2]
      exact ⟨fun d' h => (by obtain ⟨w, B', q1, q2, q3⟩ := h1 d' h; exact ⟨w, B', q1, q2, q3.trans c⟩), h2⟩
theorem FzK.map_put {k : Key} {v : V} {d : D} (f : Fz K F v d) : ∀ {vs : List (Key × V)} {ds : List (Key × D)}, FzK K F vs ds → FzK K F (vs.map fun kv => if kv.1 = k then (kv.1, v) else kv) (ds.map fun kv => if kv.1 = k then (kv.1, d) else kv)
  | _, _, .nil => .nil
  | _, _, .cons (k := k') o x r => by
    rw [List.map_cons, List.map_cons]
    by_cases e : k' = k
    · rw [if_pos e, if_pos e]; exact .cons o f (FzK.map_put f r)
    · rw [if_neg e, if_neg e]; exact .cons o x (FzK.map_put f r)
theorem FzK.snoc {k : Key} {v : V} {d : D} (ok : okK k = true) (f : Fz K F v d) : ∀ {vs : List (Key × V)} {ds : List (Key × D)}, FzK K F vs ds → FzK K F (vs ++ [(k, v)]) (ds ++ [(k, d)])
  | _, _, .nil => .cons ok f .nil
  | _, _, .cons o x r => .cons o x (FzK.snoc ok f r)
theorem any_keysK {vs : List (Key × V)} {ds : List (Key × D)} (h : vs.map (·.1) = ds.map (·.1)) (k : Key) : (vs.any fun kv => decide (kv.1 = k)) = (ds.any fun kv => decide (kv.1 = k)) := by
  have e : ∀ {α : Type} (l : List (Key × α)), (l.any fun kv => decide (kv.1 = k)) = ((l.map (·.1)).any fun x => decide (x = k)) := fun l => by rw [List.any_map]; rfl
  rw [e, e, h]
theorem FzK.put {k : Key} {v : V} {d : D} (ok : okK k = true) (f : Fz K F v d) {vs : List (Key × V)} {ds : List (Key × D)} (h : FzK K F vs ds) : FzK K F (putK vs k v) (vPut ds k d) := by
  unfold putK vPut
  rw [any_keysK h.keys k]
  split
  · exact FzK.map_put f h
  · exact FzK.snoc ok f h
theorem OwnK.map_put {k : Key} {v : V} {d : D} (f : Fz K F v d) : ∀ {vs : List (Key × V)} {ds : List (Key × D)} {B : AS}, OwnK K mg F H vs ds B → OwnK K mg F H (vs.map fun kv => if kv.1 = k then (kv.1, v) else kv) (ds.map fun kv => if kv.1 = k then (kv.1, d) else kv) B
  | _, _, _, .nil => .nil
  | _, _, _, .cons (k := k') (A1 := A1) (A2 := A2) o x r a b c => by
    rw [List.map_cons, List.map_cons]
    by_cases e : k' = k
    · rw [if_pos e, if_pos e]; exact .cons (A1 := no) (A2 := A2) o (.fz f) (OwnK.map_put f r) Dj.no_l Sb.no_l c
    · rw [if_neg e, if_neg e]; exact .cons o x (OwnK.map_put f r) a b c
theorem OwnK.snoc {k : Key} {v : V} {d : D} (ok : okK k = true) (f : Fz K F v d) : ∀ {vs : List (Key × V)} {ds : List (Key × D)} {B : AS}, OwnK K mg F H vs ds B → OwnK K mg F H (vs ++ [(k, v)]) (ds ++ [(k, d)]) B
  | _, _, _, .nil => .cons (A1 := no) (A2 := no) ok (.fz f) .nil Dj.no_l Sb.no_l Sb.no_l
  | _, _, _, .cons o x r a b c => .cons o x (OwnK.snoc ok f r) a b c
theorem OwnK.put {k : Key} {v : V} {d : D} (ok : okK k = true) (f : Fz K F v d) {vs : List (Key × V)} {ds : List (Key × D)} (h : OwnK K mg F H vs ds B) : OwnK K mg F H (putK vs k v) (vPut ds k d) B := by
  unfold putK vPut
  rw [any_keysK h.keys k]
  split
  · exact OwnK.map_put f h
  · exact OwnK.snoc ok f h
theorem FzT.keys : ∀ {vs : List (List Key × V)} {ds : List (List Key × D)}, FzT K F vs ds → vs.map (·.1) = ds.map (·.1)
  | _, _, .nil => rfl
  | _, _, .cons _ _ r => by simp [FzT.keys r]
theorem OwnT.keys : ∀ {vs : List (List Key × V)} {ds : List (List Key × D)} {B : AS}, OwnT K mg F H vs ds B → vs.map (·.1) = ds.map (·.1)
  | _, _, _, .nil => rfl
  | _, _, _, .cons _ _ r _ _ _ => by simp [OwnT.keys r]
theorem FzT.len {vs : List (List Key × V)} {ds : List (List Key × D)} (h : FzT K F vs ds) : vs.length = ds.length := by
  have := congrArg List.length h.keys
  simpa using this
theorem OwnT.len {vs : List (List Key × V)} {ds : List (List Key × D)} (h : OwnT K mg F H vs ds B) : vs.length = ds.length := by
  have := congrArg List.length h.keys
  simpa using this
theorem FzT.own : ∀ {vs : List (List Key × V)} {ds : List (List Key × D)}, FzT K F vs ds → OwnT K mg F H vs ds no
  | _, _, .nil => .nil
  | _, _, .cons o h r => .cons (A1 := no) (A2 := no) o (.fz h) (FzT.own r) Dj.no_l Sb.no_l Sb.no_l
theorem OwnT.get (k : List Key) : ∀ {vs : List (List Key × V)} {ds : List (List Key × D)} {B : AS}, OwnT K mg F H vs ds B → (∀ d, vGet ds k = some d → ∃ v B', valV vs k = some v ∧ Own K mg F H v d B' ∧ Sb B' B) ∧ (vGet ds k = none → valV vs k = none)
  | _, _, _, .nil => ⟨fun d h => by simp [vGet] at h, fun _ => rfl⟩
  | _, _, _, .cons (k := k') (v := v) (d := d) (vs := vs) (ds := ds) o x r a b c => by
    obtain ⟨h1, h2⟩ := OwnT.get k r
    by_cases e : k' = k
    · subst e
      refine ⟨fun d' h => ?_, fun h => by simp [vGet] at h⟩
      have : d = d' := by simpa [vGet] using h
      subst this
      exact ⟨v, _, valV_pos (p := (k', v)) rfl, x, b⟩
    · have e1 : valV ((k', v) :: vs) k = valV vs k := valV_neg (p := (k', v)) e
      have e2 : vGet ((k', d) :: ds) k = vGet ds k := by simp [vGet, List.find?_cons, e]
      rw [e1, e2]
      exact ⟨fun d' h => (by obtain ⟨w, B', q1, q2, q3⟩ := h1 d' h; exact ⟨w, B', q1, q2, q3.trans c⟩), h2⟩
theorem FzT.map_put {k : List Key} {v : V} {d : D} (f : Fz K F v d) : ∀ {vs : List (List Key × V)} {ds : List (List Key × D)}, FzT K F vs ds → FzT K F (vs.map fun kv => if kv.1 = k then (kv.1, v) else kv) (ds.map fun kv => if kv.1 = k then (kv.1, d) else kv)
  | _, _, .nil => .nil
  | _, _, .cons (k := k') o x r => by
    rw [List.map_cons, List.map_cons]
    by_cases e : k' = k
    · rw [if_pos e, if_pos e]; exact .cons o f (FzT.map_put f r)
    · rw [if_neg e, if_neg e]; exact .cons o x (FzT.map_put f r)
theorem FzT.snoc {k : List Key} {v : V} {d : D} (ok : okKs k = true) (f : Fz K F v d) : ∀ {vs : List (List Key × V)} {ds : List (List Key × D)}, FzT K F vs ds → FzT K F (vs ++ [(k, v)]) (ds ++ [(k, d)])
  | _, _, .nil => .cons ok f .nil
  | _, _, .cons o x r => .cons o x (FzT.snoc ok f r)
theorem any_keysT {vs : List (List Key × V)} {ds : List (List Key × D)} (h : vs.map (·.1) = ds.map (·.1)) (k : List Key) : (vs.any fun kv => decide (kv.1 = k)) = (ds.any fun kv => decide (kv.1 = k)) := by
  have e : ∀ {α : Type} (l : List (List Key × α)), (l.any fun kv => decide (kv.1 = k)) = ((l.map (·.1)).any fun x => decide (x = k)) := fun l => by rw [List.any_map]; rfl
  rw [e, e, h]
theorem FzT.put {k : List Key} {v : V} {d : D} (ok : okKs k = true) (f : Fz K F v d) {vs : List (List Key × V)} {ds : List (List Key × D)} (h : FzT K F vs ds) : FzT K F (putK vs k v) (vPut ds k d) := by
  unfold putK vPut
  rw [any_keysT h.keys k]
  split
  · exact FzT.map_put f h
  · exact FzT.snoc ok f h
theorem OwnT.map_put {k : List Key} {v : V} {d : D} (f : Fz K F v d) : ∀ {vs : List (List Key × V)} {ds : List (List Key × D)} {B : AS}, OwnT K mg F H vs ds B → OwnT K mg F H (vs.map fun kv => if kv.1 = k then (kv.1, v) else kv) (ds.map fun kv => if kv.1 = k then (kv.1, d) else kv) B
  | _, _, _, .nil => .nil
  | _, _, _, .cons (k := k') (A1 := A1) (A2 := A2) o x r a b c => by
    rw [List.map_cons, List.map_cons]
    by_cases e : k' = k
    · rw [if_pos e, if_pos e]; exact .cons (A1 := no) (A2 := A2) o (.fz f) (OwnT.map_put f r) Dj.no_l Sb.no_l c
    · rw [if_neg e, if_neg e]; exact .cons o x (OwnT.map_put f r) a b c
theorem OwnT.snoc {k : List Key} {v : V} {d : D} (ok : okKs k = true) (f : Fz K F v d) : ∀ {vs : List (List Key × V)} {ds : List (List Key × D)} {B : AS}, OwnT K mg F H vs ds B → OwnT K mg F H (vs ++ [(k, v)]) (ds ++ [(k, d)]) B
  | _, _, _, .nil => .cons (A1 := no) (A2 := no) ok (.fz f) .nil Dj.no_l Sb.no_l Sb.no_l
  | _, _, _, .cons o x r a b c => .cons o x (OwnT.snoc ok f r) a b c
theorem OwnT.put {k : List Key} {v : V} {d : D} (ok : okKs k = true) (f : Fz K F v d) {vs : List (List Key × V)} {ds : List (List Key × D)} (h : OwnT K mg F H vs ds B) : OwnT K mg F H (putK vs k v) (vPut ds k d) B := by
  unfold putK vPut
  rw [any_keysT h.keys k]
  split
  · exact OwnT.map_put f h
  · exact OwnT.snoc ok f h
theorem Rs.dic {Q : VK} {vs : List (Key × V)} {ds : List (Key × D)} {p : Addr} (w : Wd F H A) (r : Rs K mg F H A false (.dic true ds) Q) (h : FzK K F vs ds) (hp : H p = none) : Q (.ref p) (upd H p (.dK vs)) := by
  refine r.new rfl _ F _ (cup (fun a => a = p) no) (Ext.laid w.no hp) (fun _ _ e => (upd_ne (ne_of_none e hp)).trans e) (.dic (B := no) upd_same (.inl rfl) (fun z => z) Sb.no_l ?_)
  exact FzK.own h
end
end VI

namespace VI
open PySem PySem.Spec PyProof.Rows L2
section
variable {X : Cx}
def rInDT (K : PySem.W.Frag) : R2 := fun x y H Q => ∃ d ds, Dp K H x d ∧ Dp K H y (.tuple ds) ∧ SeqAt.shaped d = true ∧ SeqAt.shaped (.tuple ds) = true ∧ Q (.bl (ds.any fun z => PyData.eqv z d)) H
def rNotInDT (K : PySem.W.Frag) : R2 := fun x y H Q => ∃ d ds, Dp K H x d ∧ Dp K H y (.tuple ds) ∧ SeqAt.shaped d = true ∧ SeqAt.shaped (.tuple ds) = true ∧ Q (.bl (!ds.any fun z => PyData.eqv z d)) H
theorem op_inDT (hu : X.A.units + 65 < cLine) : OpR X (compareOp .In) (rInDT X.K) := by
  intro pins s σ H x y v u Q I rx ry h
  obtain ⟨d, ds, hd, he, sd, se, q⟩ := h
  obtain ⟨as, r1⟩ := Dp.reads I d x v hd rx
  obtain ⟨bs, r2⟩ := Dp.reads I (.tuple ds) y u he ry
  exact SeqAt.in_tuple_reads r2 r1 (SeqAt.canLay_of_shaped se) (SeqAt.canLay_of_shaped sd) (room_in_shaped sd hu) ⟨.bl _, H, I, rfl, q⟩
theorem op_notInDT (hu : X.A.units + 65 < cLine) : OpR X (compareOp .NotIn) (rNotInDT X.K) := by
  intro pins s σ H x y v u Q I rx ry h
  obtain ⟨d, ds, hd, he, sd, se, q⟩ := h
  obtain ⟨as, r1⟩ := Dp.reads I d x v hd rx
  obtain ⟨bs, r2⟩ := Dp.reads I (.tuple ds) y u he ry
  exact SeqAt.notIn_tuple_reads r2 r1 (SeqAt.canLay_of_shaped se) (SeqAt.canLay_of_shaped sd) (room_in_shaped sd hu) ⟨.bl _, H, I, rfl, q⟩
def rRepS : R2 := fun x y H Q => ∃ (l : List Nat) (k : Int), x = .str (ST l) ∧ y = .int k ∧ -(2 ^ 63) ≤ k ∧ k < 2 ^ 63 ∧ l.length * k.toNat ≤ sizeLine ∧ Q (.str (ST (List.replicate k.toNat l).flatten)) H
theorem fold_app : ∀ (n : Nat) (l : List Nat) (acc : Array Nat), (List.replicate n l.toArray).foldl (· ++ ·) acc = acc ++ ((List.replicate n l).flatten).toArray
  | 0, l, acc => by simp
  | n + 1, l, acc => by
    rw [List.replicate_succ, List.replicate_succ, List.foldl_cons, fold_app n l, List.flatten_cons, Array.append_assoc]
    congr 1
    simp
theorem op_repS : OpR X (binaryOp .Mult) rRepS := by
  intro pins s σ H x y v u Q I rx ry h
  obtain ⟨l, k, rfl, rfl, h1, h2, hz, q⟩ := h
  obtain ⟨t, rfl⟩ := rx
  obtain ⟨t', rfl⟩ := ry
  have hlen : (ST l).length = l.length := by show l.toArray.size = _; simp
  have hsl : sizeLine = 16777216 := sizeLine_eq
  refine P.mul_str (by rw [decide_eq_false (by omega), decide_eq_false (by omega)]; rfl) (fun a b => ?_) (fun a b => ?_) ?_
  · rw [hlen]
    have hk : 0 < k := by omega
    have : (l.length : Int) * k ≤ 16777216 := by
      have : ((l.length * k.toNat : Nat) : Int) ≤ 16777216 := by omega
      rwa [Int.natCast_mul, Int.toNat_of_nonneg (by omega)] at this
    intro z
    have : (2 ^ 63 - 1) / k * k + k > 2 ^ 63 - 1 := by
      have := Int.lt_mul_ediv_self_add (x := 2 ^ 63 - 1) hk
      have e : k * ((2 ^ 63 - 1) / k) = (2 ^ 63 - 1) / k * k := Int.mul_comm _ _
      omega
    have h3 : ((2 ^ 63 - 1) / k + 1) * k ≤ (l.length : Int) * k := Int.mul_le_mul_of_nonneg_right (by omega) (by omega)
    have e3 : ((2 ^ 63 - 1) / k + 1) * k = (2 ^ 63 - 1) / k * k + k := by rw [Int.add_mul, Int.one_mul]
    omega
  · rw [hlen]
    unfold Builtin.Str.tooLong
    simp only [decide_eq_false_iff_not]
    first | omega | (simp; omega)
  · have e0 : k < 1 → (ST (List.replicate k.toNat l).flatten) = Str.empty := fun a => by
      have : k.toNat = 0 := by omega
      rw [this]; rfl
    split
    · rename_i a
      rw [e0 a] at q
      exact ⟨by decide, ⟨.str _, H, I.tok _, ⟨_, rfl⟩, q⟩⟩
    · rename_i a
      split
      · rename_i b
        have e1 : ST (List.replicate k.toNat l).flatten = ST l := by
          simp only [Bool.or_eq_true, beq_iff_eq] at b
          rcases b with b | b
          · subst b; simp
          · rw [hlen] at b
            have : l = [] := List.eq_nil_of_length_eq_zero b
            subst this; simp
        rw [e1] at q
        exact ⟨.str _, H, I, ⟨_, rfl⟩, q⟩
      · have e2 : (⟨(List.replicate k.toNat (ST l).cps).foldl (· ++ ·) #[]⟩ : Str) = ST (List.replicate k.toNat l).flatten := by
          show (⟨(List.replicate k.toNat l.toArray).foldl (· ++ ·) #[]⟩ : Str) = _
          rw [fold_app]; simp
        rw [e2]
        refine ⟨?_, ⟨.str _, H, I.tok _, ⟨_, rfl⟩, q⟩⟩
        show ((List.replicate k.toNat l).flatten).toArray.size ≤ _
        simp [List.length_flatten]
        rw [Nat.mul_comm]; exact hz
end
theorem log_64 {j : Int} (h : 0 < j ∧ j < 18446744073709551616) : j.natAbs.log2 < 9000 := by
  have h1 : j.natAbs ≠ 0 := by omega
  have h2 := (Nat.log2_lt (k := 64) h1).mpr (by omega)
  exact Nat.lt_trans h2 (by decide)
theorem okCs_rep [Tn] {n : Nat} {l : List Nat} (h : okCs l = true) : okCs (List.replicate n l).flatten = true :=
  okCs_sub h fun x hx => by
    obtain ⟨m, hm, hx⟩ := List.mem_flatten.mp hx
    rw [(List.mem_replicate.mp hm).2] at hx
    exact hx
section
variable [Tn] {K : PySem.W.Frag} {mg : Str → Option Value} {F H : Hp} {B : AS}
theorem shapedT_of {vs : List V} {ds : List D} (o : OwnL K mg F H vs ds B) (h : ds.all (okD deep) = true) : SeqAt.shaped (.tuple (toPyL ds)) = true := by
  obtain ⟨h1, h2⟩ := layL_of o (okD_all h)
  have e1 : (PyData.tuple (toPyL ds)).canLay0 = true := by simpa [PyData.canLay0] using h1
  have e2 : (PyData.tuple (toPyL ds)).depth ≤ 64 := by
    have : (PyData.tuple (toPyL ds)).depth = PyData.depthAll (toPyL ds) + 1 := by simp [PyData.depth]
    rw [this]
    exact Nat.le_trans (Nat.succ_le_succ h2) (by decide)
  unfold SeqAt.shaped
  rw [e1, decide_eq_true e2]
  rfl
end
end VI

namespace VI
variable [Tn]
open PySem PySem.Spec L2
theorem szl : sizeLine = lim := sizeLine_eq
section
variable {X : Cx} {mg : Str → Option Value} {call : CallT} {W : WX}
theorem PE.weak {e : Expr} {t t' : TE} (h : PE X e t) (hw : ∀ σ H Q, t' σ H Q → t σ H Q) : PE X e t' := ⟨fun pins s σ H Q I q => h.run pins s σ H Q I (hw σ H Q q)⟩
theorem cup_no {A : AS} : cup no A = A := funext fun a => propext ⟨fun h => h.elim (fun z => z.elim) id, .inr⟩
theorem cup_comm {A B : AS} : cup A B = cup B A := funext fun a => propext ⟨fun h => h.elim .inr .inl, fun h => h.elim .inr .inl⟩
theorem opFin {ast : Expr} {o : Op} {es : List E} {r : List V → Hp → VK → Prop} (hr : PE X ast (fun σ H Q => tRs X.K mg call W es σ H fun vs H2 => r vs H2 Q))
    (hop : ∀ {F H : Hp} {A : AS} {vs : List V} {ds : List D} {d : D} {Q : VK}, Wd F H A → RL X.K mg F H A es vs ds → opD o ds = some d → (o = .ix → d.pure = true ∨ sharesL es = true) → Rs X.K mg F H A (shares (.op o es)) d Q → r vs H Q) :
    PE X ast (tE X.K mg call (.op o es) W) := by
  refine PE.weak hr fun σ H Q h => ?_
  obtain ⟨F, A, ρ, w, s, p⟩ := h
  refine seqR es w s ?_
  simp only [ev] at p
  cases he : evR call es ρ with
  | bad => simp only [he, R.bind, PostE] at p
  | err x ρ' => simp only [he, R.bind, PostE] at p; exact p
  | ok ds ρ' =>
    simp only [he, R.bind] at p
    cases hd : opD o ds with
    | none => simp only [hd, PostE] at p
    | some d =>
      simp only [hd] at p
      by_cases hc : (o != .ix || d.pure || sharesL es) = true
      · rw [if_pos hc] at p
        intro vs F' H' A' ex s' rl q
        refine hop ex.wd rl hd (fun z => ?_) ⟨fun hal v F2 H2 B e2 sm2 o2 => ?_, fun hal v B o2 sb => ?_⟩
        · subst z; simpa using hc
        · obtain ⟨f1, f2⟩ := Ext.frame (A := no) (B := A') (by rw [cup_no]; exact ex.wd) Dj.no_l e2
          rw [cup_no, cup_comm] at f1
          refine p v F2 H2 A' B (ex.trans w f1) (Slots.ext e2 Dj.no_l s') o2 (fun z => by rw [hal] at z; cases z) (fun _ => f2.symm) fun hq => ?_
          obtain ⟨q1, q2, q3⟩ := q hq
          exact ⟨q1, fun a u h => sm2 a u (q2 a u h), q3⟩
        · have eq : cup A' B = A' := funext fun a => propext ⟨fun h => h.elim id (sb a), .inl⟩
          exact p v F' H' A' B (by rw [eq]; exact ex) s' o2 (fun _ => sb) (fun z => by rw [hal] at z; cases z) fun hq => q hq
      · rw [if_neg hc] at p; exact p.elim

theorem OpR.never {f : Value → Value → Sem Value} : OpR X f (fun _ _ _ _ => False) := fun _ _ _ _ _ _ _ _ _ _ _ _ h => h.elim
/-! ### binary operators -/
theorem bin_ok (o : Operator) : ∃ r : R2, OpR X (binaryOp o) r ∧ ∀ {F H : Hp} {A B1 B2 : AS} {v1 v2 : V} {d1 d2 d : D} {Q : VK}, Wd F H A → Own X.K mg F H v1 d1 B1 → Own X.K mg F H v2 d2 B2 →
    binO o d1 d2 = some d → Rs X.K mg F H A false d Q → r v1 v2 H Q := by
  cases o with
  | Add =>
    refine ⟨_, op_add.or (op_add_str.or (op_cat.or op_catT)), fun {F H A B1 B2 v1 v2 d1 d2 d Q} w o1 o2 h r => ?_⟩
    simp only [binO] at h
    unfold addO at h
    split at h <;> try (cases h; done)
    · cases h; exact .inl ⟨_, _, o1.int, o2.int, r.int w⟩
    · split at h
      · rename_i hl
        cases h
        obtain ⟨e1, c1⟩ := o1.str
        obtain ⟨e2, c2⟩ := o2.str
        refine .inr (.inl ⟨_, _, e1, e2, ?_, ?_⟩)
        · rw [szl]; show (ST _).length + (ST _).length ≤ _; rw [st_len, st_len]; exact hl
        · have := r.str w (okCs_app c1 c2)
          rw [show (⟨_⟩ : Str) ++ ⟨_⟩ = _ from st_app _ _]; exact this
      · cases h
    · split at h
      · rename_i hl
        simp only [Bool.and_eq_true, decide_eq_true_eq] at hl
        cases h
        obtain ⟨a, vs, rfl, ha, ol⟩ := o1.lstv w.same
        obtain ⟨b, ws, rfl, hb, ol2⟩ := o2.lstv w.same
        have f1 := ol.fzd hl.1.1
        have f2 := ol2.fzd hl.1.2
        refine .inr (.inr (.inl ⟨a, b, vs, ws, rfl, rfl, ha, hb, by rw [szl, f1.len, f2.len]; exact hl.2, fun p hp => r.lst w (f1.append f2) hp⟩))
      · cases h
    · split at h
      · rename_i hl
        simp only [decide_eq_true_eq] at hl
        cases h
        obtain ⟨a, vs, rfl, ha, _, f1⟩ := o1.tupv w.same
        obtain ⟨b, ws, rfl, hb, _, f2⟩ := o2.tupv w.same
        refine .inr (.inr (.inr ⟨a, b, vs, ws, rfl, rfl, ha, hb, fun z => ?_, by rw [szl, f1.len, f2.len]; exact hl, fun z => ?_, fun _ p hp => r.tup w (f1.append f2) hp⟩))
        · subst z; cases f1
        · subst z
          cases f2
          cases o1 with
          | fz hf => simpa using r.fz w (by simpa using hf)
      · cases h
  | Sub =>
    refine ⟨_, op_sub, fun {F H A B1 B2 v1 v2 d1 d2 d Q} w o1 o2 h r => ?_⟩
    simp only [binO] at h
    unfold subO at h
    split at h <;> try (cases h; done)
    cases h; exact ⟨_, _, o1.int, o2.int, r.int w⟩
  | Mult =>
    refine ⟨_, op_mul.or (op_rep.or op_repS), fun {F H A B1 B2 v1 v2 d1 d2 d Q} w o1 o2 h r => ?_⟩
    simp only [binO] at h
    unfold mulO at h
    split at h <;> try (cases h; done)
    · split at h
      · rename_i hl
        simp only [Bool.or_eq_true, decide_eq_true_eq] at hl
        cases h
        exact .inl ⟨_, _, o1.int, o2.int, hl, r.int w⟩
      · cases h
    · split at h
      · rename_i hl
        simp only [Bool.and_eq_true, decide_eq_true_eq] at hl
        cases h
        obtain ⟨e1, c1⟩ := o1.str
        exact .inr (.inr ⟨_, _, e1, o2.int, hl.1.1, hl.1.2, by rw [szl]; exact hl.2, r.str w (okCs_rep c1)⟩)
      · cases h
    · split at h
      · rename_i hl
        simp only [Bool.and_eq_true, decide_eq_true_eq] at hl
        cases h
        obtain ⟨a, vs, rfl, ha, ol⟩ := o1.lstv w.same
        have f1 := ol.fzd hl.1.1.1
        refine .inr (.inl ⟨a, _, vs, rfl, o2.int, ha, hl.1.1.2, hl.1.2, by rw [szl, f1.len]; exact hl.2, fun p hp => r.lst w (f1.rep _) hp⟩)
      · cases h
  | FloorDiv =>
    refine ⟨_, op_fdivW, fun {F H A B1 B2 v1 v2 d1 d2 d Q} w o1 o2 h r => ?_⟩
    simp only [binO] at h
    unfold divO at h
    split at h <;> try (cases h; done)
    split at h
    · rename_i hl
      cases h
      exact ⟨_, _, o1.int, o2.int, ⟨hl.1, log_64 hl⟩, r.int w⟩
    · cases h
  | Mod =>
    refine ⟨_, op_mod, fun {F H A B1 B2 v1 v2 d1 d2 d Q} w o1 o2 h r => ?_⟩
    simp only [binO] at h
    unfold modO at h
    split at h <;> try (cases h; done)
    split at h
    · rename_i hl
      cases h
      exact ⟨_, _, o1.int, o2.int, hl, r.int w⟩
    · cases h
  | Pow =>
    refine ⟨_, op_pow, fun {F H A B1 B2 v1 v2 d1 d2 d Q} w o1 o2 h r => ?_⟩
    simp only [binO] at h
    unfold powO at h
    split at h <;> try (cases h; done)
    split at h
    · rename_i hl
      cases h
      exact ⟨_, _, o1.int, o2.int, hl, r.int w⟩
    · cases h
  | _ => exact ⟨_, OpR.never, fun {F H A B1 B2 v1 v2 d1 d2 d Q} w o1 o2 h r => by simp [binO] at h⟩
/-! ### comparisons -/
theorem eqV_deq {K : PySem.W.Frag} {F H : Hp} {B1 B2 : AS} {v1 v2 : V} {d1 d2 : D} (o1 : Own K mg F H v1 d1 B1) (o2 : Own K mg F H v2 d2 B2) (h1 : flat d1 = true) (h2 : flat d2 = true) : flatV v1 = true ∧ eqV v1 v2 = deq d1 d2 := by
  cases d1 with
  | non => rw [o1.non]; refine ⟨rfl, ?_⟩; cases d2 <;> first | (rw [o2.non]; rfl) | (rw [o2.bl]; rfl) | (rw [o2.int]; rfl) | (rw [o2.str.1]; rfl) | (simp [flat] at h2)
  | bl b => rw [o1.bl]; refine ⟨rfl, ?_⟩; cases d2 <;> first | (rw [o2.non]; rfl) | (rw [o2.bl]; rfl) | (rw [o2.int]; rfl) | (rw [o2.str.1]; rfl) | (simp [flat] at h2)
  | int b => rw [o1.int]; refine ⟨rfl, ?_⟩; cases d2 <;> first | (rw [o2.non]; rfl) | (rw [o2.bl]; rfl) | (rw [o2.int]; rfl) | (rw [o2.str.1]; rfl) | (simp [flat] at h2)
  | str x =>
    rw [o1.str.1]; refine ⟨rfl, ?_⟩
    cases d2 with
    | str y =>
      rw [o2.str.1]
      show (ST x == ST y) = decide (x = y)
      by_cases e : x = y
      · subst e; simp
      · rw [decide_eq_false e]; exact beq_eq_false_iff_ne.mpr fun z => e (st_inj z)
    | _ => first | (rw [o2.non]; rfl) | (rw [o2.bl]; rfl) | (rw [o2.int]; rfl) | (simp [flat] at h2)
  | _ => simp [flat] at h1
theorem inV_inO {K : PySem.W.Frag} {F H : Hp} {B1 : AS} {v1 : V} {d1 : D} (o1 : Own K mg F H v1 d1 B1) (h1 : flat d1 = true) : ∀ {vs : List V} {ds : List D}, FzL K F vs ds → ds.all flat = true → vs.all flatV = true ∧ inV v1 vs = inO d1 ds
  | _, _, .nil, _ => ⟨rfl, rfl⟩
  | _, _, .cons (v := v) (d := d) (vs := vs) (ds := ds) h r, ha => by
    simp only [List.all_cons, Bool.and_eq_true] at ha
    obtain ⟨e1, e2⟩ := eqV_deq (mg := mg) (H := H) (B1 := no) (.fz h) o1 ha.1 h1
    obtain ⟨e3, e4⟩ := inV_inO o1 h1 r ha.2
    refine ⟨by rw [List.all_cons, e1, e3]; rfl, ?_⟩
    show (eqV v v1 || inV v1 vs) = (deq d d1 || inO d1 ds)
    rw [e2, e4]
theorem isNon_eq {K : PySem.W.Frag} {F H : Hp} {B1 : AS} {v1 : V} {d1 : D} (sm : Same F H) (o1 : Own K mg F H v1 d1 B1) : decide (v1 = V.non) = isNon d1 := by
  cases d1 with
  | non => rw [o1.non]; rfl
  | bl b => rw [o1.bl]; rfl
  | int b => rw [o1.int]; rfl
  | str b => rw [o1.str.1]; rfl
  | tup b => obtain ⟨_, _, rfl, _⟩ := o1.tupv sm; rfl
  | lst _ b => obtain ⟨_, _, rfl, _⟩ := o1.lstv sm; rfl
  | scr b => obtain ⟨_, rfl, _⟩ := o1.scrv sm; rfl
  | dic m b => cases o1 with | fz h => cases h; rfl | dic => rfl
  | dit m b => cases o1 with | fz h => cases h; rfl | dit => rfl
  | ins m b => cases o1 with | fz h => cases h | ins => rfl
theorem non_of {K : PySem.W.Frag} {F H : Hp} {B1 : AS} {v1 : V} {d1 : D} (o1 : Own K mg F H v1 d1 B1) (h : isNon d1 = true) : v1 = V.non := by
  cases d1 <;> first | exact o1.non | (simp [isNon] at h)
theorem cmp_ok (hu : X.A.units + 65 < cLine) (o : CmpOp) : ∃ r : R2, OpR X (compareOp o) r ∧ ∀ {F H : Hp} {A B1 B2 : AS} {v1 v2 : V} {d1 d2 : D} {k : Bool} {Q : VK}, Wd F H A → Own X.K mg F H v1 d1 B1 → Own X.K mg F H v2 d2 B2 →
    cmpB o d1 d2 = some k → Q (.bl k) H → r v1 v2 H Q := by
  have hu4 : X.A.units + 64 < cLine := by omega
  cases o with
  | Eq =>
    refine ⟨_, op_eqD hu4, fun {F H A B1 B2 v1 v2 d1 d2 d Q} w o1 o2 h r => ?_⟩
    simp only [cmpB, eqO] at h
    split at h
    · rename_i hl
      simp only [Bool.and_eq_true] at hl
      cases h
      refine ⟨_, _, dp_of w.same o1 hl.1, dp_of w.same o2 hl.2, shaped_of o1 hl.1, shaped_of o2 hl.2, ?_⟩
      rw [eqv_deq d1 d2 hl.1 hl.2]; exact r
    · cases h
  | NotEq =>
    refine ⟨_, op_neD hu4, fun {F H A B1 B2 v1 v2 d1 d2 d Q} w o1 o2 h r => ?_⟩
    simp only [cmpB, eqO, Option.map_eq_some_iff] at h
    obtain ⟨k, h, rfl⟩ := h
    split at h
    · rename_i hl
      simp only [Bool.and_eq_true] at hl
      cases h
      refine ⟨_, _, dp_of w.same o1 hl.1, dp_of w.same o2 hl.2, shaped_of o1 hl.1, shaped_of o2 hl.2, ?_⟩
      rw [eqv_deq d1 d2 hl.1 hl.2]; exact r
    · cases h
  | Lt =>
    refine ⟨_, (op_lt.or op_lt_str).or (op_ltT (by omega)), fun {F H A B1 B2 v1 v2 d1 d2 d Q} w o1 o2 h r => ?_⟩
    simp only [cmpB] at h
    unfold ltO at h
    split at h
    · rename_i xs ys
      simp only [Option.bind_eq_some_iff, Option.map_eq_some_iff] at h
      obtain ⟨a, ha, b, hb, rfl⟩ := h
      obtain ⟨p, vs, rfl, hp, _, f1⟩ := o1.tupv w.same
      obtain ⟨q, ws, rfl, hq, _, f2⟩ := o2.tupv w.same
      have ea := intsO_some ha
      have eb := intsO_some hb
      subst ea
      subst eb
      have e1 := FzL.vI f1
      have e2 := FzL.vI f2
      subst e1
      subst e2
      exact .inr ⟨_, _, _, _, rfl, rfl, hp, hq, r⟩
    · cases h
      exact .inl (.inl ⟨_, _, o1.int, o2.int, r⟩)
    · cases h
      exact .inl (.inr ⟨_, _, o1.str.1, o2.str.1, by simpa using r⟩)
    · cases h
  | LtE =>
    refine ⟨_, op_le.or op_le_str, fun {F H A B1 B2 v1 v2 d1 d2 d Q} w o1 o2 h r => ?_⟩
    simp only [cmpB] at h
    unfold leO at h
    split at h <;> cases h
    · exact .inl ⟨_, _, o1.int, o2.int, r⟩
    · exact .inr ⟨_, _, o1.str.1, o2.str.1, by simpa using r⟩
  | Gt =>
    refine ⟨_, op_gt, fun {F H A B1 B2 v1 v2 d1 d2 d Q} w o1 o2 h r => ?_⟩
    simp only [cmpB] at h
    unfold gtO at h
    split at h <;> cases h
    exact ⟨_, _, o1.int, o2.int, r⟩
  | GtE =>
    refine ⟨_, op_ge, fun {F H A B1 B2 v1 v2 d1 d2 d Q} w o1 o2 h r => ?_⟩
    simp only [cmpB] at h
    unfold geO at h
    split at h <;> cases h
    exact ⟨_, _, o1.int, o2.int, r⟩
  | Is =>
    refine ⟨_, op_isN, fun {F H A B1 B2 v1 v2 d1 d2 d Q} w o1 o2 h r => ?_⟩
    simp only [cmpB] at h
    split at h
    · rename_i hl
      cases h
      refine ⟨non_of o2 hl, ?_⟩
      rw [isNon_eq w.same o1]; exact r
    · cases h
  | IsNot =>
    refine ⟨_, op_notN, fun {F H A B1 B2 v1 v2 d1 d2 d Q} w o1 o2 h r => ?_⟩
    simp only [cmpB] at h
    split at h
    · rename_i hl
      cases h
      refine ⟨non_of o2 hl, ?_⟩
      rw [isNon_eq w.same o1]; exact r
    · cases h
  | In =>
    refine ⟨_, (op_inD hu).or (op_in_seq.or (op_in_sign.or (op_inDT hu))), fun {F H A B1 B2 v1 v2 d1 d2 d Q} w o1 o2 h r => ?_⟩
    simp only [cmpB] at h
    unfold memO at h
    split at h
    · split at h
      · rename_i hl
        simp only [Bool.and_eq_true] at hl
        cases h
        obtain ⟨a, vs, rfl, ha, ol⟩ := o2.lstv w.same
        refine .inl ⟨_, _, dp_of w.same o1 hl.1, .lst (SqL.of ha) (dpL_of w.same ol (okD_all hl.2)), shaped_of o1 hl.1, shapedL_of ol hl.2, ?_⟩
        rw [inO_any _ hl.1 _ (okD_all hl.2)]; exact r
      · cases h
    · split at h
      · rename_i hl
        simp only [Bool.and_eq_true] at hl
        cases h
        obtain ⟨a, vs, rfl, ha, _, f⟩ := o2.tupv w.same
        obtain ⟨e1, e2⟩ := inV_inO o1 hl.1 f hl.2
        refine .inr (.inl ⟨a, vs, rfl, .inr ha, (eqV_deq o1 o1 hl.1 hl.1).1, e1, ?_⟩)
        show Q (.bl (inV v1 vs)) H
        rw [e2]; exact r
      · split at h
        · rename_i hl
          simp only [Bool.and_eq_true] at hl
          cases h
          obtain ⟨a, vs, rfl, ha, _, f⟩ := o2.tupv w.same
          refine .inr (.inr (.inr ⟨_, _, dp_of w.same o1 hl.1, .tup ha (dpL_of w.same (FzL.own (H := H) (mg := mg) f) (okD_all hl.2)), shaped_of o1 hl.1, shapedT_of (FzL.own (H := H) (mg := mg) f) hl.2, ?_⟩))
          rw [inO_any _ hl.1 _ (okD_all hl.2)]; exact r
        · cases h
    · cases h
      refine .inr (.inr (.inl ⟨_, _, o1.str.1, o2.str.1, by simpa using r⟩))
    · cases h
  | NotIn =>
    refine ⟨_, (op_notInD hu).or (op_notIn_seq.or (op_notIn_sign.or (op_notInDT hu))), fun {F H A B1 B2 v1 v2 d1 d2 d Q} w o1 o2 h r => ?_⟩
    simp only [cmpB, Option.map_eq_some_iff] at h
    obtain ⟨k, h, rfl⟩ := h
    unfold memO at h
    split at h
    · split at h
      · rename_i hl
        simp only [Bool.and_eq_true] at hl
        cases h
        obtain ⟨a, vs, rfl, ha, ol⟩ := o2.lstv w.same
        refine .inl ⟨_, _, dp_of w.same o1 hl.1, .lst (SqL.of ha) (dpL_of w.same ol (okD_all hl.2)), shaped_of o1 hl.1, shapedL_of ol hl.2, ?_⟩
        rw [inO_any _ hl.1 _ (okD_all hl.2)]; exact r
      · cases h
    · split at h
      · rename_i hl
        simp only [Bool.and_eq_true] at hl
        cases h
        obtain ⟨a, vs, rfl, ha, _, f⟩ := o2.tupv w.same
        obtain ⟨e1, e2⟩ := inV_inO o1 hl.1 f hl.2
        refine .inr (.inl ⟨a, vs, rfl, .inr ha, (eqV_deq o1 o1 hl.1 hl.1).1, e1, ?_⟩)
        show Q (.bl (!inV v1 vs)) H
        rw [e2]; exact r
      · split at h
        · rename_i hl
          simp only [Bool.and_eq_true] at hl
          cases h
          obtain ⟨a, vs, rfl, ha, _, f⟩ := o2.tupv w.same
          refine .inr (.inr (.inr ⟨_, _, dp_of w.same o1 hl.1, .tup ha (dpL_of w.same (FzL.own (H := H) (mg := mg) f) (okD_all hl.2)), shaped_of o1 hl.1, shapedT_of (FzL.own (H := H) (mg := mg) f) hl.2, ?_⟩))
          rw [inO_any _ hl.1 _ (okD_all hl.2)]; exact r
        · cases h
    · cases h
      refine .inr (.inr (.inl ⟨_, _, o1.str.1, o2.str.1, by simpa using r⟩))
    · cases h
end
end VI

namespace VI
variable [Tn]
open PySem PySem.Spec PyProof.Rows L2
def noStar : Expr → Bool
  | .Starred _ _ => false
  | _ => true
theorem starEach_cons {e : Expr} (h : noStar e = true) (es : List Expr) (env : Env) : starEach (e :: es) env = (false, eval e env) :: starEach es env := by
  cases e <;> first | rfl | (simp [noStar] at h)
theorem star_none : ∀ (es : List Expr) (env : Env), es.all noStar = true → (starEach es env).any (·.1) = false
  | [], _, _ => rfl
  | e :: es, env, h => by
    simp only [List.all_cons, Bool.and_eq_true] at h
    rw [starEach_cons h.1, List.any_cons, star_none es env h.2]; rfl
theorem back_any (pos : Pos) : ∀ (l : List (Bool × Sem Value)), (backTo pos l).any (·.1) = l.any (·.1)
  | [] => rfl
  | x :: r => by
    have := back_any pos r
    unfold backTo at this ⊢
    simp only [List.map_cons, List.any_cons, this]
theorem back_none {pos : Pos} {es : List Expr} {env : Env} (h : es.all noStar = true) : (backTo pos (starEach es env)).any (·.1) = false := by
  rw [back_any]; exact star_none es env h
section
variable {X : Cx} {mg : Str → Option Value} {call : CallT} {W : WX}
def PEs (X : Cx) (t : E → TE) : List E → List Expr → Prop
  | [], [] => True
  | e :: es, a :: as => noStar a = true ∧ PE X a (t e) ∧ PEs X t es as
  | _, _ => False
theorem PEs.star {t : E → TE} : ∀ {es : List E} {as : List Expr}, PEs X t es as → as.all noStar = true
  | [], [], _ => rfl
  | e :: es, a :: as, h => by rw [List.all_cons, h.1, PEs.star h.2.2]; rfl
  | [], _ :: _, h => h.elim
  | _ :: _, [], h => h.elim
theorem PEs.pa : ∀ {es : List E} {as : List Expr}, PEs X (tR X.K mg call W) es as → PA X as (tRs X.K mg call W es)
  | [], [], _ => pa_nil
  | e :: es, a :: as, h => pa_cons h.2.1 (PEs.pa h.2.2) (starEach_cons h.1 as X.env)
  | [], _ :: _, h => h.elim
  | _ :: _, [], h => h.elim
theorem PEs.paC : ∀ {es : List E} {as : List Expr}, PEs X (fun e => tE X.K mg call e W) es as → PA X as (tCs X.K mg call W es)
  | [], [], _ => pa_nil
  | e :: es, a :: as, h => pa_cons h.2.1 (PEs.paC h.2.2) (starEach_cons h.1 as X.env)
  | [], _ :: _, h => h.elim
  | _ :: _, [], h => h.elim
theorem PA.weak {es : List Expr} {t t' : TA} (h : PA X es t) (hw : ∀ σ H Q, t' σ H Q → t σ H Q) : PA X es t' := ⟨fun pos pins s σ H Q I q => h.run pos pins s σ H Q I (hw σ H Q q)⟩

/-! ### one, two arguments -/
theorem RL.d1 {K : PySem.W.Frag} {F H : Hp} {A : AS} {es : List E} {vs : List V} {d : D} (h : RL K mg F H A es vs [d]) : ∃ v B, vs = [v] ∧ Own K mg F H v d B := by
  cases h with | cons o _ r => cases r; exact ⟨_, _, rfl, o⟩
theorem RL.d2 {K : PySem.W.Frag} {F H : Hp} {A : AS} {es : List E} {vs : List V} {d e : D} (h : RL K mg F H A es vs [d, e]) : ∃ v w B C, vs = [v, w] ∧ Own K mg F H v d B ∧ Own K mg F H w e C := by
  cases h with | cons o _ r => cases r with | cons o2 _ r => cases r; exact ⟨_, _, _, _, rfl, o, o2⟩
theorem RL.d3 {K : PySem.W.Frag} {F H : Hp} {A : AS} {es : List E} {vs : List V} {d e f : D} (h : RL K mg F H A es vs [d, e, f]) : ∃ v w x B C G, vs = [v, w, x] ∧ Own K mg F H v d B ∧ Own K mg F H w e C ∧ Own K mg F H x f G := by
  cases h with | cons o _ r => cases r with | cons o2 _ r => cases r with | cons o3 _ r => cases r; exact ⟨_, _, _, _, _, _, rfl, o, o2, o3⟩
theorem RL.lens {K : PySem.W.Frag} {F H : Hp} {A : AS} {es : List E} {vs : List V} {ds : List D} (h : RL K mg F H A es vs ds) : es.length = ds.length ∧ vs.length = ds.length := by
  induction h with
  | nil => exact ⟨rfl, rfl⟩
  | cons _ _ _ ih => simp [ih]


abbrev on1 (r : V → Hp → VK → Prop) : List V → Hp → VK → Prop := fun vs H Q => match vs with | [x] => r x H Q | _ => False
abbrev on2 (r : R2) : List V → Hp → VK → Prop := fun vs H Q => match vs with | [x, y] => r x y H Q | _ => False
abbrev on3 (r : V → V → V → Hp → VK → Prop) : List V → Hp → VK → Prop := fun vs H Q => match vs with | [x, y, z] => r x y z H Q | _ => False
theorem pe_bin {o : Operator} {e1 e2 : E} {a b : Expr} {pos : Pos} (ha : PE X a (tR X.K mg call W e1)) (hb : PE X b (tR X.K mg call W e2)) : PE X (.BinOp a o b pos) (tE X.K mg call (.op (.bin o) [e1, e2]) W) := by
  obtain ⟨r, hr, ok⟩ := bin_ok (X := X) (mg := mg) o
  refine opFin (r := on2 r) (pe_op hr ha hb) fun {F H A vs ds d Q} w rl hd _ rs => ?_
  obtain ⟨l1, _⟩ := rl.lens
  match ds, l1 with
  | [d1, d2], _ =>
    obtain ⟨v1, v2, B1, B2, rfl, o1, o2⟩ := rl.d2
    exact ok w o1 o2 hd rs
theorem pe_cmpE (hu : X.A.units + 65 < cLine) {o : CmpOp} {e1 e2 : E} {a b : Expr} {pos : Pos} (hm : behindInMarks o b = false) (ha : PE X a (tR X.K mg call W e1)) (hb : PE X b (tR X.K mg call W e2)) : PE X (.Compare a [o] [b] pos) (tE X.K mg call (.op (.cmp o) [e1, e2]) W) := by
  obtain ⟨r, hr, ok⟩ := cmp_ok (X := X) (mg := mg) hu o
  refine opFin (r := on2 r) (pe_cmpR hr ha hb hm) fun {F H A vs ds d Q} w rl hd _ rs => ?_
  obtain ⟨l1, _⟩ := rl.lens
  match ds, l1 with
  | [d1, d2], _ =>
    obtain ⟨v1, v2, B1, B2, rfl, o1, o2⟩ := rl.d2
    simp only [opD, cmpO, Option.map_eq_some_iff] at hd
    obtain ⟨k, hk, rfl⟩ := hd
    exact ok w o1 o2 hk (rs.bl w)
theorem pe_ixE {e1 e2 : E} {a b : Expr} {pos : Pos} (hs : PlainIx b) (ha : PE X a (tR X.K mg call W e1)) (hb : PE X b (tR X.K mg call W e2)) : PE X (.Subscript a b pos) (tE X.K mg call (.op .ix [e1, e2]) W) := by
  refine opFin (r := on2 (rIx X.K)) (pe_ix ix_seq ha hb hs) fun {F H A vs ds d Q} w rl hd hc rs => ?_
  have hc := hc rfl
  have hal : shares (.op .ix [e1, e2]) = shares e1 := by simp only [shares, sharesL]
  rw [hal] at rs
  obtain ⟨v1, v2, d1, d2, B1, B2, rfl, rfl, o1, s1, o2⟩ : ∃ v1 v2 d1 d2 B1 B2, vs = [v1, v2] ∧ ds = [d1, d2] ∧ Own X.K mg F H v1 d1 B1 ∧ (shares e1 = true → Sb B1 A) ∧ Own X.K mg F H v2 d2 B2 := by
    cases rl with
    | cons o1 s1 rl =>
    cases rl with
    | cons o2 _ rl =>
    cases rl
    exact ⟨_, _, _, _, _, _, rfl, rfl, o1, s1, o2⟩
  show rIx X.K v1 v2 H Q
  cases d2 with
  | int i =>
    have e2' := o2.int
    subst e2'
    cases d1 with
    | str x =>
      simp only [opD] at hd
      split at hd
      · rename_i hl
        simp only [Option.map_eq_some_iff] at hd
        obtain ⟨c, h1, rfl⟩ := hd
        obtain ⟨e, hok⟩ := o1.str
        refine .inr (.inr ⟨_, i, c, e, rfl, ?_, by simpa using h1, ?_⟩)
        · rw [szl]; show (ST x).length ≤ _; rw [st_len]; exact hl
        · refine rs.str w (okCs_sub hok fun y hy => ?_)
          have : c ∈ x := by
            have h1 : atI x i = some c := h1
            unfold atI at h1
            cases q : ixN x.length i with
            | none => rw [q] at h1; cases h1
            | some j => rw [q] at h1; exact List.mem_of_getElem? h1
          simp at hy; rw [hy]; exact this
      · cases hd
    | lst m xs =>
      simp only [opD] at hd
      obtain ⟨p, ws, rfl, hp, ol⟩ := o1.lstv w.same
      obtain ⟨v, B', h1, h2, h3⟩ := atI_own ol hd
      refine .inl ⟨p, ws, i, v, rfl, rfl, SqL.of hp, h1, ?_⟩
      cases ha' : shares e1 with
      | true => rw [ha'] at rs; exact rs.same rfl v B' h2 (h3.trans (s1 ha'))
      | false =>
        simp only [sharesL, ha', Bool.false_eq_true, or_false] at hc
        exact rs.fz w (h2.fzd hc)
    | tup xs =>
      simp only [opD] at hd
      obtain ⟨p, ws, rfl, hp, _, f⟩ := o1.tupv w.same
      obtain ⟨v, h1, h2⟩ := atI_fz f hd
      exact .inr (.inl ⟨p, ws, i, v, rfl, rfl, hp, h1, rs.fz w h2⟩)
    | _ => simp [opD] at hd
  | _ => cases d1 <;> simp [opD] at hd
theorem cutD_fz {K : PySem.W.Frag} {F : Hp} {vs : List V} {ds : List D} (h : FzL K F vs ds) (lo hi : Option Int) : FzL K F (cutV vs lo hi) (cutD ds lo hi) := by
  unfold cutV cutD
  rw [h.len]
  exact (h.drop _).take _
theorem slO_ok {F H : Hp} {A B : AS} {v : V} {x d : D} {lo hi : Option Int} {Q : VK} (w : Wd F H A) (o : Own X.K mg F H v x B) (h : slO x lo hi = some d) (rs : Rs X.K mg F H A false d Q) :
    (rSlS v lo hi H Q ∨ (rSlL X.K v lo hi H Q ∨ rSlT X.K v lo hi H Q)) := by
  unfold slO at h
  split at h
  · split at h
    · rename_i hl
      cases h
      obtain ⟨e, hok⟩ := o.str
      refine .inl ⟨_, e, by rw [szl]; show (ST _).length ≤ _; rw [st_len]; exact hl, ?_⟩
      have := rs.str w (okCs_sub hok fun y hy => List.mem_of_mem_drop (List.mem_of_mem_take hy))
      have e2 : ∀ l : List Nat, cutS (ST l) lo hi = ST (cutD l lo hi) := fun l => by
        unfold cutS cutD
        rw [st_len]
      rw [show (⟨_⟩ : Str) = ST _ from rfl, e2]; exact this
    · cases h
  · split at h
    · rename_i hl
      cases h
      obtain ⟨p, ws, rfl, hp, ol⟩ := o.lstv w.same
      exact .inr (.inl ⟨p, ws, rfl, SqL.of hp, fun q hq => rs.lst w (cutD_fz (ol.fzd hl) lo hi) hq⟩)
    · cases h
  · split at h
    · cases h
    · rename_i hl
      cases h
      obtain ⟨p, ws, rfl, hp, _, f⟩ := o.tupv w.same
      exact .inr (.inr ⟨p, ws, rfl, hp, by rw [f.len]; exact hl, fun q hq => rs.tup w (cutD_fz f lo hi) hq⟩)
  · cases h
theorem sl_any : SlR X (fun v lo hi H Q => rSlS v lo hi H Q ∨ (rSlL X.K v lo hi H Q ∨ rSlT X.K v lo hi H Q)) := sl_str.or (sl_list.or sl_tup)
theorem slice_run {r : V → Option Int → Option Int → Hp → VK → Prop} {lo hi : Option Expr} {p2 pos : Pos} {e : Expr} (hr : SlR X r) {pins : List (Addr × Obj)} {s3 : Shared} {σ : SG} {H : Hp} {v vl vu : Value} {x : V} {l u : Option Int} {Q : VK} (I : Inv X pins σ H s3) (rx : RelV x v) (pl : IsPart vl l) (pu : IsPart vu u) (q : r x l u H Q) :
    wpAny (model X.prog X.w) X.A (subscriptTail e (.Slice lo hi none p2) v (.ref s3.heap.objs.size)) (EP X pins σ Q) X.xe { s3 with heap := s3.heap.push { cls := .type "slice", data := .fields #[vl, vu, .none] } } := by
  have I4 : Inv X pins σ H { s3 with heap := s3.heap.push { cls := .type "slice", data := .fields #[vl, vu, .none] } } := I.kept (t' := s3.toks) fun b ob q => Heap.get?_push_of_some _ q
  obtain ⟨T, id, hT, ht, hg⟩ := hr pins { s3 with heap := s3.heap.push { cls := .type "slice", data := .fields #[vl, vu, .none] } } σ H x v vl vu l u s3.heap.objs.size Q I4 rx (Heap.IsSliceOf.new ..) pl pu q
  exact tail_any (ops := [.ref s3.heap.objs.size, v]) ht hT hg (by with_unfolding_all rfl)
theorem part_int {i : Int} {v : Value} (r : RelV (.int i) v) : IsPart v (some i) := by
  obtain ⟨t, rfl⟩ := r
  exact .int i t
theorem pe_sl10 {e el : E} {a l : Expr} {p2 pos : Pos} (ha : PE X a (tR X.K mg call W e)) (hl : PE X l (tR X.K mg call W el)) : PE X (.Subscript a (.Slice (some l) none none p2) pos) (tE X.K mg call (.op (.sl true false) [e, el]) W) := by
  refine opFin (r := on2 fun v y H Q => ∃ i, y = .int i ∧ (rSlS v (some i) none H Q ∨ (rSlL X.K v (some i) none H Q ∨ rSlT X.K v (some i) none H Q))) ⟨fun pins s σ H Q I h => ?_⟩ fun {F H A vs ds d Q} w rl hd _ rs => ?_
  · refine Subscript_ (thn (ha.run pins s σ H _ I h) fun v s1 ⟨x, H1, I1, r1, q1⟩ => ?_)
    refine wpAny_Slice ?_
    rw [evalPart_some]
    refine thn (hl.run pins s1 σ H1 _ I1 q1) fun vl s2 ⟨y, H2, I2, r2, q2⟩ => ?_
    rw [evalPart_none]
    refine wpAny_pure ?_
    refine wpAny_pure ?_
    obtain ⟨i, rfl, q⟩ := q2
    exact slice_run (pos := pos) sl_any I2 r1 (part_int r2) .none q
  · obtain ⟨l1, _⟩ := rl.lens
    match ds, l1 with
    | [d1, d2], _ =>
      obtain ⟨v1, v2, B1, B2, rfl, o1, o2⟩ := rl.d2
      cases d2 <;> simp only [opD] at hd <;> try (cases hd; done)
      exact ⟨_, o2.int, slO_ok w o1 hd rs⟩
theorem pe_sl01 {e el : E} {a l : Expr} {p2 pos : Pos} (ha : PE X a (tR X.K mg call W e)) (hl : PE X l (tR X.K mg call W el)) : PE X (.Subscript a (.Slice none (some l) none p2) pos) (tE X.K mg call (.op (.sl false true) [e, el]) W) := by
  refine opFin (r := on2 fun v y H Q => ∃ i, y = .int i ∧ (rSlS v none (some i) H Q ∨ (rSlL X.K v none (some i) H Q ∨ rSlT X.K v none (some i) H Q))) ⟨fun pins s σ H Q I h => ?_⟩ fun {F H A vs ds d Q} w rl hd _ rs => ?_
  · refine Subscript_ (thn (ha.run pins s σ H _ I h) fun v s1 ⟨x, H1, I1, r1, q1⟩ => ?_)
    refine wpAny_Slice ?_
    rw [evalPart_none]
    refine wpAny_pure ?_
    rw [evalPart_some]
    refine thn (hl.run pins s1 σ H1 _ I1 q1) fun vl s2 ⟨y, H2, I2, r2, q2⟩ => ?_
    refine wpAny_pure ?_
    obtain ⟨i, rfl, q⟩ := q2
    exact slice_run (pos := pos) sl_any I2 r1 .none (part_int r2) q
  · obtain ⟨l1, _⟩ := rl.lens
    match ds, l1 with
    | [d1, d2], _ =>
      obtain ⟨v1, v2, B1, B2, rfl, o1, o2⟩ := rl.d2
      cases d2 <;> simp only [opD] at hd <;> try (cases hd; done)
      exact ⟨_, o2.int, slO_ok w o1 hd rs⟩
theorem pe_sl11 {e el eh : E} {a l u : Expr} {p2 pos : Pos} (ha : PE X a (tR X.K mg call W e)) (hl : PE X l (tR X.K mg call W el)) (hh : PE X u (tR X.K mg call W eh)) : PE X (.Subscript a (.Slice (some l) (some u) none p2) pos) (tE X.K mg call (.op (.sl true true) [e, el, eh]) W) := by
  refine opFin (r := on3 fun v y z H Q => ∃ i j, y = .int i ∧ z = .int j ∧ (rSlS v (some i) (some j) H Q ∨ (rSlL X.K v (some i) (some j) H Q ∨ rSlT X.K v (some i) (some j) H Q))) ⟨fun pins s σ H Q I h => ?_⟩ fun {F H A vs ds d Q} w rl hd _ rs => ?_
  · refine Subscript_ (thn (ha.run pins s σ H _ I h) fun v s1 ⟨x, H1, I1, r1, q1⟩ => ?_)
    refine wpAny_Slice ?_
    rw [evalPart_some]
    refine thn (hl.run pins s1 σ H1 _ I1 q1) fun vl s2 ⟨y, H2, I2, r2, q2⟩ => ?_
    rw [evalPart_some]
    refine thn (hh.run pins s2 σ H2 _ I2 q2) fun vh s3 ⟨z, H3, I3, r3, q3⟩ => ?_
    rw [evalPart_none]
    refine wpAny_pure ?_
    obtain ⟨i, j, rfl, rfl, q⟩ := q3
    exact slice_run (pos := pos) sl_any I3 r1 (part_int r2) (part_int r3) q
  · obtain ⟨l1, _⟩ := rl.lens
    match ds, l1 with
    | [d1, d2, d3], _ =>
      obtain ⟨v1, v2, v3, B1, B2, B3, rfl, o1, o2, o3⟩ := rl.d3
      cases d2 <;> cases d3 <;> simp only [opD] at hd <;> try (cases hd; done)
      exact ⟨_, _, o2.int, o3.int, slO_ok w o1 hd rs⟩
theorem rngO_len (lo hi : Int) : (rngO lo hi).length = (hi - lo).toNat := by unfold rngO; simp
theorem in62_of {i : Int} (h : in62 i = true) : -(2 ^ 62) ≤ i ∧ i < 2 ^ 62 := by simpa [in62] using h
end
end VI

namespace VI
variable [Tn]
open PySem PySem.Spec PyProof.Rows L2
section
variable {prog : Program} {w : World} {A : Around} {R : Result → Shared → Prop} {I : Addr} {fp wr : List Addr} {n : Nat} {vf : Nat → Value} {St : Nat → Heap → Prop} {Kp : Heap → Prop} {lt : Nat → Nat → Bool}
def LtAt (prog : Program) (w : World) (A : Around) (Kp : Heap → Prop) (n : Nat) (vf : Nat → Value) (lt : Nat → Nat → Bool) : Prop :=
  ∀ (i j : Nat) (s : Shared) (Q : Value → Shared → Prop) (E : Value → Shared → Prop), Kp s.heap → i < n → j < n → Q (.bool (lt i j)) s → wpAny (model prog w) A (richCompare .Lt (vf i) (vf j)) Q E s
structure MinH (prog : Program) (w : World) (A : Around) (S : Addr) (fp wr : List Addr) (n : Nat) (vf : Nat → Value) (Kp : Heap → Prop) (lt : Nat → Nat → Bool) : Prop where
  cmp : LtAt prog w A.in1 Kp n vf lt
  keep : ∀ h h', Kp h → (∀ b o, b ∉ wr → b ≠ S → h.get? b = some o → h'.get? b = some o) → Kp h'
  free : S ∉ fp
  irr : ∀ c, lt c c = false
  tr : ∀ m b c, lt m b = false → lt c b = true → lt m c = false
abbrev cellOb (v : Value) (c : Nat) : Obj := { cls := .type "list", dict := none, data := .seq #[v, v] c, slots := #[] }
abbrev loopNm : String := toString "min" ++ toString ".loop"
theorem minT_go {S : Addr} (W : Walks prog w A.in1 I fp wr n (fun i v => i < n ∧ v = vf i) St) (M : MinH prog w A S fp wr n vf Kp lt) :
    ∀ (k j : Nat) (s : Shared) (b c : Nat), n = j + 1 + k → b ≤ j → (∀ m, m ≤ j → lt m b = false) → St (j + 1) s.heap → Kp s.heap → s.heap.get? S = some (cellOb (vf b) c) →
    (∀ b' h' tk, b' < n → (∀ m, m < n → lt m b' = false) → (∀ a o, a ∉ wr → a ≠ S → s.heap.get? a = some o → h'.get? a = some o) → R (.ok (.ret (vf b'))) { s with heap := h', toks := tk }) →
    codeAny (model prog w) A (.builtin "min.loop" ⟨[.ref I, .none, .ref S], []⟩) R s := by
  have notW : S ∉ wr := fun z => M.free (W.sub _ z)
  have nm : loopNm = "min.loop" := by decide
  intro k
  induction k with
  | zero =>
    intro j s b c hn hb hmin st kp hS done
    have hn' : n = j + 1 := by omega
    apply codeAny_builtin F.entry_min_loop
    rw [Around.under_plainId F.plain_min_loop _]
    apply wpAny_bind
    apply wpAny_seqItems hS rfl
    apply wpAny_bind
    apply wpAny_tryCatch
    apply W.done s _ _ (hn' ▸ st)
    intro h1 tk1 k1
    have hS1 := k1 S _ notW hS
    apply wpAny_bind
    apply wpAny_updateSeq hS1 rfl
    apply wpAny_bind
    apply wpAny_letGo
    apply wpAny_pure
    apply done b _ tk1 (by omega) (fun m hm => hmin m (by omega))
    intro a o na ns e
    have e1 := k1 a o na e
    rw [← e1]
    exact Heap.get?_update_other _ _ (Ne.symm ns)
  | succ k ih =>
    intro j s b c hn hb hmin st kp hS done
    apply codeAny_builtin F.entry_min_loop
    rw [Around.under_plainId F.plain_min_loop _]
    apply wpAny_bind
    apply wpAny_seqItems hS rfl
    apply wpAny_bind
    apply wpAny_tryCatch
    apply W.item (j + 1) s _ _ (by omega) st
    rintro v h1 tk1 ⟨_, rfl⟩ st1 k1
    have hS1 := k1 S _ notW hS
    have kp1 : Kp h1 := M.keep _ _ kp fun a o na _ e => k1 a o na e
    apply wpAny_bind
    apply wpAny_pure
    show wpAny _ A.in1 (tryCatch _ _ >>= _) _ _ _
    apply wpAny_bind
    apply wpAny_tryCatch
    apply wpAny_holding
    apply wpAny_bind
    apply M.cmp (j + 1) b _ _ _ kp1 (by omega) (by omega)
    apply wpAny_bind
    apply wpAny_holding
    apply wpAny_truthy_bool
    apply wpAny_bind
    apply wpAny_letGo
    apply wpAny_pure
    cases hlt : lt (j + 1) b with
    | true =>
      simp only [if_true]
      apply wpAny_bind
      apply wpAny_updateSeq hS1 rfl
      apply wpAny_bind
      apply wpAny_letGo
      rw [show (toString "min" ++ toString ".loop" : String) = "min.loop" from nm]
      apply wpAny_pure
      refine ⟨plainId_quiet F.plain_min_loop _, ih (j + 1) _ (j + 1) _ (by omega) (Nat.le_refl _) ?_ ?_ ?_ (Heap.get?_update_self _ hS1 rfl) ?_⟩
      · intro m hm
        rcases Nat.lt_or_ge m (j + 1) with z | z
        · exact M.tr m b (j + 1) (hmin m (by omega)) hlt
        · rw [show m = j + 1 by omega]; exact M.irr _
      · exact W.frame _ _ _ st1 fun a ha o e => (Heap.get?_update_other _ _ (fun z : S = a => M.free (z ▸ ha))).trans e
      · exact M.keep _ _ kp1 fun a o _ ns e => (Heap.get?_update_other _ _ (Ne.symm ns)).trans e
      · intro b' h2 tk2 hb' hmin' k2
        exact done b' h2 tk2 hb' hmin' fun a o na ns e => k2 a o na ns ((Heap.get?_update_other _ _ (Ne.symm ns)).trans (k1 a o na e))
    | false =>
      simp only [Bool.false_eq_true, if_false]
      apply wpAny_bind
      apply wpAny_letGo
      rw [show (toString "min" ++ toString ".loop" : String) = "min.loop" from nm]
      apply wpAny_pure
      refine ⟨plainId_quiet F.plain_min_loop _, ih (j + 1) _ b c (by omega) (by omega) ?_ st1 kp1 hS1 ?_⟩
      · intro m hm
        rcases Nat.lt_or_ge m (j + 1) with z | z
        · exact hmin m (by omega)
        · rw [show m = j + 1 by omega]; exact hlt
      · intro b' h2 tk2 hb' hmin' k2
        exact done b' h2 tk2 hb' hmin' fun a o na ns e => k2 a o na ns (k1 a o na e)
end
end VI
namespace VI
variable [Tn]
open PySem PySem.Spec PyProof.Rows L2
theorem ltP_irr (a : Int × Int) : ltP a a = false := by simp [ltP]
theorem ltP_tr {a b c : Int × Int} (h1 : ltP a b = false) (h2 : ltP c b = true) : ltP a c = false := by
  unfold ltP at *
  split at h1 <;> split at h2 <;> split <;> simp at * <;> omega
theorem ltP_eq {a b : Int × Int} (h1 : ltP a b = false) (h2 : ltP b a = false) : a = b := by
  unfold ltP at *
  obtain ⟨a1, a2⟩ := a
  obtain ⟨b1, b2⟩ := b
  split at h1 <;> split at h2 <;> simp at * <;> omega
section
variable {prog : Program} {w : World} {A : Around} {E : Value → Shared → Prop} {s : Shared}
theorem minT_first {R : Result → Shared → Prop} {I : Addr} {fp wr : List Addr} {n : Nat} {vf : Nat → Value} {St : Nat → Heap → Prop} {Kp : Heap → Prop} {lt : Nat → Nat → Bool} {S : Addr} {c : Nat}
    (W : Walks prog w A.in1 I fp wr n (fun i v => i < n ∧ v = vf i) St) (M : MinH prog w A S fp wr n vf Kp lt) (hn : 0 < n) (st : St 0 s.heap) (kp : Kp s.heap)
    (hS : s.heap.get? S = some { cls := .type "list", dict := none, data := .seq #[] c, slots := #[] })
    (done : ∀ b' h' tk, b' < n → (∀ m, m < n → lt m b' = false) → (∀ a o, a ∉ wr → a ≠ S → s.heap.get? a = some o → h'.get? a = some o) → R (.ok (.ret (vf b'))) { s with heap := h', toks := tk }) :
    codeAny (model prog w) A (.builtin "min.loop" ⟨[.ref I, .none, .ref S], []⟩) R s := by
  have notW : S ∉ wr := fun z => M.free (W.sub _ z)
  have nm : loopNm = "min.loop" := by decide
  apply codeAny_builtin F.entry_min_loop
  rw [Around.under_plainId F.plain_min_loop _]
  apply wpAny_bind
  apply wpAny_seqItems hS rfl
  apply wpAny_bind
  apply wpAny_tryCatch
  apply W.item 0 s _ _ hn st
  rintro v h1 tk1 ⟨_, rfl⟩ st1 k1
  have hS1 := k1 S _ notW hS
  have kp1 : Kp h1 := M.keep _ _ kp fun a o na _ e => k1 a o na e
  apply wpAny_bind
  apply wpAny_pure
  show wpAny _ A.in1 (updateSeq S _ >>= _) _ _ _
  apply wpAny_bind
  apply wpAny_updateSeq hS1 rfl
  rw [show (toString "min" ++ toString ".loop" : String) = "min.loop" from nm]
  apply wpAny_pure
  refine ⟨plainId_quiet F.plain_min_loop _, minT_go W M (n - 1) 0 _ 0 _ (by omega) (Nat.le_refl _) ?_ ?_ ?_ (Heap.get?_update_self _ hS1 rfl) ?_⟩
  · intro m hm
    rw [show m = 0 by omega]; exact M.irr _
  · exact W.frame _ _ _ st1 fun a ha o e => (Heap.get?_update_other _ _ (fun z : S = a => M.free (z ▸ ha))).trans e
  · exact M.keep _ _ kp1 fun a o _ ns e => (Heap.get?_update_other _ _ (Ne.symm ns)).trans e
  · intro b' h2 tk2 hb' hmin' k2
    exact done b' h2 tk2 hb' hmin' fun a o na ns e => k2 a o na ns ((Heap.get?_update_other _ _ (Ne.symm ns)).trans (k1 a o na e))
theorem call_minT {l : Addr} {items : Array Value} {tf : Nat → Addr} {tt : Nat → Array Value} {pf : Nat → Int × Int} {Q : Value → Shared → Prop} (hh : A.handled = none) (hu : A.units + 1 < cLine) (hl : s.heap.IsList l items) (hne : 0 < items.size)
    (hv : ∀ i, i < items.size → items[i]? = some (.ref (tf i))) (ht : ∀ i, i < items.size → s.heap.IsTuple (tf i) (tt i))
    (hp : ∀ i, i < items.size → ∃ t u, tt i = #[.int (pf i).1 t, .int (pf i).2 u])
    (h : ∀ b h' tk, b < items.size → (∀ m, m < items.size → ltP (pf m) (pf b) = false) → (∀ a o, s.heap.get? a = some o → h'.get? a = some o) → Q (.ref (tf b)) { s with heap := h', toks := tk }) :
    wpAny (model prog w) A (call (.builtin "min") [.ref l]) Q E s := by
  have nm : loopNm = "min.loop" := by decide
  have hlt : l < s.heap.objs.size := by obtain ⟨_, e, _⟩ := hl; exact Heap.lt_size e
  have htl : ∀ i, i < items.size → tf i < s.heap.objs.size := fun i hi => by obtain ⟨_, e, _⟩ := ht i hi; exact Heap.lt_size e
  apply call_function_tree F.kind_min F.plain_min F.entry_min (F.args_min1 _)
  show wpAny _ A.in1 (Builtin.Builtins.bindParams "min" ["key", "default"] 0 ⟨[], []⟩ >>= _) _ _ s
  apply wpAny_bind
  apply wpAny_of_eq (show Builtin.Builtins.bindParams "min" ["key", "default"] 0 ⟨[], []⟩ = pure [none, none] from rfl)
  show wpAny _ A.in1 (pure _ >>= _) _ _ s
  apply wpAny_bind
  apply wpAny_pure
  apply wpAny_bind
  apply wpAny_pyIter_list hl
  apply wpAny_bind
  refine wpAny_newObj_type ?_ (by show (0 : Nat) ≤ sizeLine; omega)
  rw [show (toString "min" ++ toString ".loop" : String) = "min.loop" from nm]
  apply wpAny_pure
  refine ⟨plainId_quiet F.plain_min_loop _, ?_⟩
  have sz : (s.heap.push { cls := .type "list_iterator", data := .fields #[.ref l, .int 0 0] }).objs.size = s.heap.objs.size + 1 := by rw [Heap.size_push]
  have old : ∀ a o, s.heap.get? a = some o → ((s.heap.push { cls := .type "list_iterator", data := .fields #[.ref l, .int 0 0] }).push { cls := .type "list", data := .seq #[] }).get? a = some o := fun a o e => Heap.get?_push_of_some _ (Heap.get?_push_of_some _ e)
  have W0 := Walks.list (prog := prog) (w := w) (A := A.in1) hh s.heap.objs.size l (Nat.ne_of_lt hlt) items
  have W : Walks prog w A.in1 s.heap.objs.size [s.heap.objs.size, l] [s.heap.objs.size] items.size (fun i v => i < items.size ∧ v = Value.ref (tf i)) (fun i h => h.IsListIter s.heap.objs.size l i ∧ h.IsList l items) :=
    { W0 with item := fun i s' Q' E' hi st hQ => W0.item i s' Q' E' hi st fun v h' tk hP st' k => hQ v h' tk ⟨hi, by rw [hv i hi] at hP; exact (Option.some.inj hP).symm⟩ st' k }
  have M : MinH prog w A (s.heap.objs.size + 1) [s.heap.objs.size, l] [s.heap.objs.size] items.size (fun i => Value.ref (tf i)) (fun h => ∀ i, i < items.size → h.IsTuple (tf i) (tt i)) (fun i j => ltP (pf i) (pf j)) := by
    refine ⟨?_, ?_, ?_, fun c => ltP_irr _, fun m b c h1 h2 => ltP_tr h1 h2⟩
    · intro i j s' Q' E' kp hi hj hq
      obtain ⟨t, u, e1⟩ := hp i hi
      obtain ⟨t', u', e2⟩ := hp j hj
      have h1 := kp i hi
      have h2 := kp j hj
      rw [e1] at h1
      rw [e2] at h2
      have R := Ob.RcOp.tuples_lt (A := A.in1) (s := s') (e := fun k => if k = 0 then decide ((pf i).1 = (pf j).1) else decide ((pf i).2 = (pf j).2)) (r := fun k => if k = 0 then decide ((pf i).1 < (pf j).1) else decide ((pf i).2 < (pf j).2)) h1 h2 (show A.units + 1 < cLine from hu) ?_ ?_
      · have e3 : Ob.lexAt (fun k => if k = 0 then decide ((pf i).1 = (pf j).1) else decide ((pf i).2 = (pf j).2)) (fun k => if k = 0 then decide ((pf i).1 < (pf j).1) else decide ((pf i).2 < (pf j).2)) (decide (2 < 2)) 0 2 = ltP (pf i) (pf j) := by
          simp only [Ob.lexAt]
          unfold ltP
          by_cases z1 : (pf i).1 = (pf j).1
          · by_cases z2 : (pf i).2 = (pf j).2 <;> simp [z1, z2]
          · simp [z1]
        exact R prog w E' Q' (by
          show Q' (.bool (Ob.lexAt (fun k => if k = 0 then decide ((pf i).1 = (pf j).1) else decide ((pf i).2 = (pf j).2)) (fun k => if k = 0 then decide ((pf i).1 < (pf j).1) else decide ((pf i).2 < (pf j).2)) (decide (2 < 2)) 0 2)) s'
          rw [e3]; exact hq)
      · intro k k1 k2
        have eqd : ∀ a b : Int, (a == b) = decide (a = b) := fun a b => by
          by_cases q : a = b
          · rw [decide_eq_true q]; exact beq_iff_eq.mpr q
          · rw [decide_eq_false q]; exact beq_eq_false_iff_ne.mpr q
        match k, k1, k2 with
        | 0, _, _ =>
          show SeqAt.EqAt A.in1.in1 s' (.int (pf i).1 t) (.int (pf j).1 t') (decide ((pf i).1 = (pf j).1))
          rw [← eqd]; exact SeqAt.EqAt.int_int _ _ _ _
        | 1, _, _ =>
          show SeqAt.EqAt A.in1.in1 s' (.int (pf i).2 u) (.int (pf j).2 u') (decide ((pf i).2 = (pf j).2))
          rw [← eqd]; exact SeqAt.EqAt.int_int _ _ _ _
        | k + 2, k1, _ => exact absurd k1 (by simp)
      · intro k k1 k2 _
        match k, k1, k2 with
        | 0, _, _ => exact Ob.RcOp.lt_int _ _ _ _
        | 1, _, _ => exact Ob.RcOp.lt_int _ _ _ _
        | k + 2, k1, _ => exact absurd k1 (by simp)
    · intro h h' kp k i hi
      obtain ⟨o, e, r⟩ := kp i hi
      have := htl i hi
      exact ⟨o, k _ _ (fun hm => absurd (List.mem_singleton.mp hm) (Nat.ne_of_lt this)) (Nat.ne_of_lt (Nat.lt_succ_of_lt this)) e, r⟩
    · intro hm
      rcases List.mem_cons.mp hm with e | hm
      · exact absurd e (Nat.ne_of_gt (Nat.lt_succ_self _))
      · exact absurd (List.mem_singleton.mp hm) (Nat.ne_of_gt (Nat.lt_succ_of_lt hlt))
  have fin := minT_first (s := { s with heap := (s.heap.push { cls := .type "list_iterator", data := .fields #[.ref l, .int 0 0] }).push { cls := .type "list", data := .seq #[] } }) (R := fun r s' => match r with
      | Except.ok (Flow.ret v) => Q v s'
      | Except.ok a => False
      | Except.error e => E e s') (c := 0) W M hne ?_ ?_ ?_ ?_
  · rw [← sz] at fin
    exact fin
  · exact ⟨⟨_, Heap.get?_push_of_some _ (Heap.get?_push_size _ rfl), rfl, rfl⟩, (hl.push _).push _⟩
  · intro i hi
    obtain ⟨o, e, r⟩ := ht i hi
    exact ⟨o, old _ _ e, r⟩
  · rw [← sz]; exact Heap.get?_push_size _ rfl
  · intro b h' tk hb hmin k
    refine h b h' tk hb hmin fun a o e => ?_
    have := Heap.lt_size e
    exact k a o (fun hm => absurd (List.mem_singleton.mp hm) (Nat.ne_of_lt this)) (Nat.ne_of_lt (Nat.lt_succ_of_lt this)) (old _ _ e)
end
theorem ltP_tr2 {a b c : Int × Int} (h1 : ltP a b = false) (h2 : ltP b c = false) : ltP a c = false := by
  unfold ltP at *
  split at h1 <;> split at h2 <;> split <;> simp at * <;> omega
theorem ltP_as {a b : Int × Int} (h1 : ltP a b = true) : ltP b a = false := by
  unfold ltP at *
  split at h1 <;> split <;> simp at * <;> omega
theorem minP_min : ∀ {ps : List (Int × Int)}, ps ≠ [] → minP ps ∈ ps ∧ ∀ p ∈ ps, ltP p (minP ps) = false
  | [], h => absurd rfl h
  | [x], _ => ⟨by simp [minP], fun p hp => by simp at hp; subst hp; exact ltP_irr _⟩
  | x :: y :: r, _ => by
    obtain ⟨h1, h2⟩ := minP_min (ps := y :: r) (by simp)
    simp only [minP]
    cases hc : ltP (minP (y :: r)) x with
    | true =>
      rw [if_pos rfl]
      refine ⟨List.mem_cons_of_mem _ h1, fun p hp => ?_⟩
      rcases List.mem_cons.mp hp with rfl | hp
      · exact ltP_as hc
      · exact h2 p hp
    | false =>
      rw [if_neg (by decide)]
      refine ⟨List.mem_cons_self, fun p hp => ?_⟩
      rcases List.mem_cons.mp hp with rfl | hp
      · exact ltP_irr _
      · exact ltP_tr2 (h2 p hp) hc
def pT (p : Int × Int) : D := .tup [.int p.1, .int p.2]
theorem prsO_some : ∀ {ds : List D} {ps : List (Int × Int)}, prsO ds = some ps → ds = ps.map pT
  | [], ps, h => by simp [prsO] at h; subst h; rfl
  | d :: r, ps, h => by
    unfold prsO at h
    split at h
    · rename_i heq; cases heq
    · rename_i a b r' heq
      cases heq
      rw [Option.map_eq_some_iff] at h
      obtain ⟨qs, h1, rfl⟩ := h
      rw [prsO_some h1]; rfl
    · cases h
theorem OwnL.prs {K : PySem.W.Frag} {mg : Str → Option Value} {F H : Hp} (sm : Same F H) : ∀ {ps : List (Int × Int)} {ws : List V} {B : AS}, OwnL K mg F H ws (ps.map pT) B → ∃ ts : List Addr, ws = ts.map V.ref ∧ ts.length = ps.length ∧ ∀ (i : Nat) (t : Addr) (q : Int × Int), ts[i]? = some t → ps[i]? = some q → SqT K H t [V.int q.1, V.int q.2] ∧ Fz K F (.ref t) (pT q)
  | [], ws, B, o => by
    cases o
    exact ⟨[], rfl, rfl, fun i t q h => by simp at h⟩
  | p :: ps, ws, B, o => by
    cases o with
    | cons o1 o2 d12 t1 t2 =>
      obtain ⟨ts, rfl, hl, ht⟩ := OwnL.prs sm o2
      obtain ⟨a, vs, rfl, h2, h3⟩ := o1.tupx
      have h1 := SqT.of (K := K) (sm _ _ h2)
      have e := (FzL.own (mg := mg) (H := H) h3)
      have e2 := OwnL.ints (ns := [p.1, p.2]) e
      subst e2
      refine ⟨a :: ts, rfl, by simp [hl], fun i t q hi hq => ?_⟩
      cases i with
      | zero =>
        simp at hi hq
        subst hi hq
        exact ⟨h1, .tup h2 h3⟩
      | succ i => exact ht i t q (by simpa using hi) (by simpa using hq)
theorem refs_of : ∀ {ts : List Addr} {us : List Value}, Vals (ts.map V.ref) us → us = ts.map Value.ref
  | [], _, .nil => rfl
  | t :: ts, _ :: us, .cons r rr => by cases r; rw [refs_of rr]; rfl
def rMinT (K : PySem.W.Frag) : List V → Hp → VK → Prop := fun vs H Q => ∃ (a : Addr) (ts : List Addr) (ps : List (Int × Int)), vs = [V.ref a] ∧ SqL K H a (ts.map V.ref) ∧ ts.length = ps.length ∧ 0 < ps.length ∧ (∀ (i : Nat) (t : Addr) (q : Int × Int), ts[i]? = some t → ps[i]? = some q → SqT K H t [V.int q.1, V.int q.2]) ∧
  ∀ (b : Nat) (t : Addr) (q : Int × Int), ts[b]? = some t → ps[b]? = some q → (∀ p ∈ ps, ltP p q = false) → Q (.ref t) H
theorem cr_minT {X : Cx} (hc : X.calm = true) (hu : X.A.units + 1 < cLine) : CallR X (.builtin "min") (rMinT X.K) := by
  intro pins s σ H vs us Q I r h
  obtain ⟨a, ts, ps, rfl, hs, hlen, hpos, ht, q⟩ := h
  obtain ⟨its, rv, hl, hz⟩ := I.list hs
  rw [Vals.ref1 r]
  have hits := refs_of rv
  subst hits
  have hsz : (ts.map Value.ref).toArray.size = ps.length := by simp [hlen]
  have tk : ∀ i, (hi : i < ts.length) → ts[i]? = some (ts.getD i 0) := fun i hi => by simp [List.getD, hi]
  have pk : ∀ i, (hi : i < ps.length) → ps[i]? = some (ps.getD i (0, 0)) := fun i hi => by simp [List.getD, hi]
  have hex : ∀ i, ∃ arr : Array Value, i < ps.length → s.heap.IsTuple (ts.getD i 0) arr ∧ ∃ t u, arr = #[.int (ps.getD i (0, 0)).1 t, .int (ps.getD i (0, 0)).2 u] := by
    intro i
    by_cases hi : i < ps.length
    · obtain ⟨its', rv', p1, _⟩ := I.tuple (ht i _ _ (tk i (by omega)) (pk i hi))
      refine ⟨its'.toArray, fun _ => ⟨p1, ?_⟩⟩
      cases rv' with
      | cons a1 rr =>
        cases rr with
        | cons a2 rr2 =>
          cases rr2
          obtain ⟨t, rfl⟩ := a1
          obtain ⟨u, rfl⟩ := a2
          exact ⟨t, u, rfl⟩
    · exact ⟨#[], fun z => absurd z hi⟩
  obtain ⟨tt, htt⟩ := Classical.skolem.mp hex
  refine call_minT (tf := fun i => ts.getD i 0) (tt := tt) (pf := fun i => ps.getD i (0, 0)) (I.ok.hd hc) hu hl.isList (by rw [hsz]; exact hpos) ?_ ?_ ?_ ?_
  · intro i hi
    rw [hsz] at hi
    simp [List.getD, show i < ts.length by omega]
  · intro i hi
    rw [hsz] at hi
    exact (htt i hi).1
  · intro i hi
    rw [hsz] at hi
    exact (htt i hi).2
  · intro b h' tk' hb hmin hk
    rw [hsz] at hb hmin
    refine ⟨.ref (ts.getD b 0), H, I.kept (t' := tk') hk, rfl, q b _ _ (tk b (by omega)) (pk b hb) fun p hp => ?_⟩
    obtain ⟨m, hm, rfl⟩ := List.mem_iff_getElem.mp hp
    have := hmin m hm
    simpa [List.getD, hm] using this
end VI

namespace VI
open PySem PySem.Spec PyProof.Rows L2 PySem.W
section
variable {prog : Program} {w : World} {A : Around} {E : Value → Shared → Prop} {s : Shared} {a kS : Addr} {vs : List Value} {e1 : Nat} {P : PySem.Fin → Shared → Prop} {kz : List PyData}
end
section
variable {prog : Program} {w : World} {A : Around} {E : Value → Shared → Prop} {s : Shared} {vs : List Value} {kz : List PyData}
end
end VI

namespace VI
open PySem PySem.Spec PyProof.Rows L2 LamX
structure LamQ (sc scope : Scope) : Prop where
  kind : scope.kind = .function
  co : scope.isCoroutine = false
  gen : scope.isGenerator = false
  nocell : ∀ y ∈ scope.names, y.2 ≠ .cell
  free : ∀ y ∈ scope.names, y.2 = .free → sc.names.lookup y.1 = some .cell ∨ sc.names.lookup y.1 = some .free
theorem LamQ.has {X : Cx} {scope : Scope} (L : LamQ X.env.scope scope) (ok : X.Ok) : ∀ y ∈ scope.names, y.2 = .free → ∃ c, X.env.cells.lookup y.1 = some c :=
  fun y m e => ok.has _ (by rcases L.free y m e with k | k; exact .inl k; exact .inr k)
section
variable {X : Cx} {pins : List (Addr × Obj)} {σ σ' : L2.St} {H HZ : Hp} {s s1 : Shared} {scope : Scope}
end
end VI

namespace VI
variable [Tn]
open PySem PySem.Spec PyProof.Rows L2 PySem.W
end VI

namespace VI
variable [Tn]
open PySem PySem.Spec PyProof.Rows L2 PySem.W
end VI

set_option maxHeartbeats 2000000
namespace VI
open PySem PySem.Spec PyProof.Rows L2
section
variable {prog : Program} {w : World} {A : Around} {E : Value → Shared → Prop} {s : Shared}
theorem call_strI {n : Int} {u : Tok} {Q : Value → Shared → Prop} (hd : n.natAbs.log2 < 1920) (h : Q (.str (PySem.Str.ofString (toString n)) s.toks) { s with toks := s.toks + 1 }) : wpAny (model prog w) A (call (.type "str") [.int n u]) Q E s :=
  callType_new F.called_str (by decide) (F.typeCall_str_1 _) (F.newCall_str_1 _) (fun obj => F.args_object_init_2 obj _) F.entry_str_new
    (meets_str_new (S := fun A' R s' => R (.ok (.ret (.str (PySem.Str.ofString (toString n)) s'.toks))) { s' with toks := s'.toks + 1 })
      fun _ _ A' _ _ hq => PySem.W.KPc.strOf_int hd hq)
    ⟨typeIs_str _ _ _, h⟩
theorem call_strS {x : Str} {t : Tok} {Q : Value → Shared → Prop} (h : Q (.str x t) s) : wpAny (model prog w) A (call (.type "str") [.str x t]) Q E s :=
  callType_new F.called_str (by decide) (F.typeCall_str_1 _) (F.newCall_str_1 _) (fun obj => F.args_object_init_2 obj _) F.entry_str_new
    (meets_str_new (S := fun A' R s' => R (.ok (.ret (.str x t))) s')
      fun _ _ A' _ _ hq => by
        unfold PySem.Builtin.Str.strOf
        repeat wp_step
        exact hq)
    ⟨typeIs_str _ _ _, h⟩
end
section
variable {X : Cx}
theorem cr_str : CallR X (.type "str") fun vs H Q => (∃ a, vs = [.str a] ∧ Q (.str a) H) ∨ ∃ n : Int, vs = [.int n] ∧ n.natAbs.log2 < 1920 ∧ Q (.str (PySem.Str.ofString (toString n))) H := by
  intro pins s σ H xs us Q I r h
  rcases h with ⟨a, rfl, q⟩ | ⟨n, rfl, hn, q⟩
  · obtain ⟨u, rfl, ru⟩ := vals1 r
    obtain ⟨t, rfl⟩ := ru
    exact call_strS ⟨.str a, H, I, ⟨_, rfl⟩, q⟩
  · obtain ⟨u, rfl, ru⟩ := vals1 r
    obtain ⟨t, rfl⟩ := ru
    exact call_strI hn ⟨V.str (PySem.Str.ofString (toString n)), H, I.tok _, ⟨_, rfl⟩, q⟩
theorem cr_intS : CallR X (.type "int") fun vs H Q => ∃ (a : Str) (n : Int), vs = [.str a] ∧ a.length ≤ 640 ∧ PySem.intText? a = some n ∧ Q (.int n) H := by
  intro pins s σ H xs us Q I r h
  obtain ⟨a, n, rfl, hl, hn, q⟩ := h
  obtain ⟨u, rfl, t, rfl⟩ := vals1 r
  exact PySem.W.KIN.call_text hn hl ⟨V.int n, H, I.tok _, ⟨_, rfl⟩, q⟩
end
end VI

namespace VI
variable [Tn]
open PySem PySem.Spec PyProof.Rows L2
section
variable {X : Cx} {mg : Str → Option Value} {call : CallT} {W : WX}
def CB (X : Cx) (x : Str) (r : List V → Hp → VK → Prop) : Prop := ∀ {e : Expr} {es : List Expr} {t : TA} {p pos : Pos}, Gl X x → (e :: es).all noStar = true → PA X (e :: es) t →
  PE X (.Call (.Name x p) (e :: es) [] pos) (fun σ H Q => t σ H fun vs H1 => r vs H1 Q)
theorem CB.b {x : Str} {id : String} {r : List V → Hp → VK → Prop} (hc : CallR X (.builtin id) r) (hm : X.mg x = none) (hv : bootBuiltins x = some (.builtin id)) (hn : x ≠ "__name__") (hd : (x == ("__debug__" : Str)) = false) : CB X x r :=
  fun {e es t p pos} hg hs ha => by
    simp only [List.all_cons, Bool.and_eq_true] at hs
    exact pe_callB hc hg hm hv ha hn hd (starEach_cons hs.1 es X.env) (back_none hs.2)
theorem CB.ty {x : Str} {id : String} {r : List V → Hp → VK → Prop} (hc : CallR X (.type id) r) (hm : X.mg x = none) (hv : bootBuiltins x = some (.type id)) (hn : x ≠ "__name__") (hd : (x == ("__debug__" : Str)) = false) : CB X x r :=
  fun {e es t p pos} hg hs ha => by
    simp only [List.all_cons, Bool.and_eq_true] at hs
    exact pe_callTy hc hg hm hv ha hn hd (starEach_cons hs.1 es X.env) (back_none hs.2)
theorem CB.never {x : Str} : CB X x (fun _ _ _ => False) ∨ True := .inr trivial
def fnName : Fn → Str
  | .len => "len" | .abs => "abs" | .max => "max" | .min => "min" | .sum => "sum" | .sorted => "sorted" | .list => "list" | .tuple => "tuple" | .int => "int" | .str => "str" | .all => "all" | .any => "any" | .dict => "dict" | .set => "set"
def fnHas : Fn → Bool
  | .len => true | .max => true | .min => true | .list => true | .tuple => true | .int => true | .all => true | .str => true
  | _ => false
theorem maxL_eq : ∀ {ns : List Int} {m : Int}, m ∈ ns → (∀ y ∈ ns, y ≤ m) → maxL ns = m
  | [x], m, h, _ => by simp at h; subst h; rfl
  | x :: y :: r, m, h, hle => by
    show (if x < maxL (y :: r) then maxL (y :: r) else x) = m
    have top : ∀ (l : List Int), l ≠ [] → maxL l ∈ l ∧ ∀ z ∈ l, z ≤ maxL l := by
      intro l
      induction l with
      | nil => intro h; exact absurd rfl h
      | cons a l ih =>
        intro _
        cases l with
        | nil => exact ⟨by simp [maxL], by simp [maxL]⟩
        | cons b l =>
          obtain ⟨i1, i2⟩ := ih (by simp)
          show (if a < maxL (b :: l) then maxL (b :: l) else a) ∈ a :: b :: l ∧ ∀ z ∈ a :: b :: l, z ≤ (if a < maxL (b :: l) then maxL (b :: l) else a)
          by_cases hc : a < maxL (b :: l)
          · rw [if_pos hc]
            refine ⟨List.mem_cons_of_mem _ i1, fun z hz => ?_⟩
            rcases List.mem_cons.mp hz with rfl | hz
            · omega
            · exact i2 z hz
          · rw [if_neg hc]
            refine ⟨List.mem_cons_self, fun z hz => ?_⟩
            rcases List.mem_cons.mp hz with rfl | hz
            · omega
            · have := i2 z hz; omega
    obtain ⟨t1, t2⟩ := top (x :: y :: r) (by simp)
    have e : maxL (x :: y :: r) = (if x < maxL (y :: r) then maxL (y :: r) else x) := rfl
    rw [← e]
    have a1 := hle _ t1
    have a2 := t2 m h
    omega
theorem minL_eq : ∀ {ns : List Int} {m : Int}, m ∈ ns → (∀ y ∈ ns, m ≤ y) → minL ns = m
  | [x], m, h, _ => by simp at h; subst h; rfl
  | x :: y :: r, m, h, hle => by
    have top : ∀ (l : List Int), l ≠ [] → minL l ∈ l ∧ ∀ z ∈ l, minL l ≤ z := by
      intro l
      induction l with
      | nil => intro h; exact absurd rfl h
      | cons a l ih =>
        intro _
        cases l with
        | nil => exact ⟨by simp [minL], by simp [minL]⟩
        | cons b l =>
          obtain ⟨i1, i2⟩ := ih (by simp)
          show (if minL (b :: l) < a then minL (b :: l) else a) ∈ a :: b :: l ∧ ∀ z ∈ a :: b :: l, (if minL (b :: l) < a then minL (b :: l) else a) ≤ z
          by_cases hc : minL (b :: l) < a
          · rw [if_pos hc]
            refine ⟨List.mem_cons_of_mem _ i1, fun z hz => ?_⟩
            rcases List.mem_cons.mp hz with rfl | hz
            · omega
            · exact i2 z hz
          · rw [if_neg hc]
            refine ⟨List.mem_cons_self, fun z hz => ?_⟩
            rcases List.mem_cons.mp hz with rfl | hz
            · omega
            · have := i2 z hz; omega
    obtain ⟨t1, t2⟩ := top (x :: y :: r) (by simp)
    have a1 := hle _ t1
    have a2 := t2 m h
    omega
theorem len_pos {ns : List Int} (h : ns ≠ []) : 0 < ns.length := by
  cases ns with
  | nil => exact absurd rfl h
  | cons => simp
theorem scr_fz {K : PySem.W.Frag} {F : Hp} (ns : List Int) : FzL K F (ns.map V.int) (ns.map D.int) := by
  induction ns with
  | nil => exact .nil
  | cons n r ih => exact .cons (.int n) ih
theorem fn_ok (hcalm : X.calm = true) (hu : X.A.units + 65 < cLine) (f : Fn) (hm : X.mg (fnName f) = none) (hf : fnHas f = true) : ∃ r, CB X (fnName f) r ∧
    ∀ {F H : Hp} {A : AS} {es : List E} {vs : List V} {ds : List D} {d : D} {Q : VK}, Wd F H A → RL X.K mg F H A es vs ds → fnO f ds = some d → Rs X.K mg F H A false d Q → r vs H Q := by
  cases f with
  | len =>
    refine ⟨_, CB.b call_len hm PySem.boot_len (by decide +kernel) (by decide +kernel), fun {F H A es vs ds d Q} w rl hd rs => ?_⟩
    simp only [fnO] at hd
    unfold lenO at hd
    split at hd
    · split at hd
      · rename_i hl
        cases hd
        obtain ⟨v, B, rfl, o⟩ := rl.d1
        rw [o.str.1]
        refine ⟨_, _, rfl, ⟨by rw [szl]; show (ST _).length ≤ _; rw [st_len]; exact hl, rfl⟩, ?_⟩
        rw [show (⟨_⟩ : Str) = ST _ from rfl, st_len]
        exact rs.int w
      · cases hd
    · cases hd
      obtain ⟨v, B, rfl, o⟩ := rl.d1
      obtain ⟨p, ws, rfl, hp, ol⟩ := o.lstv w.same
      exact ⟨_, _, rfl, .inl ⟨ws, SqL.of hp, rfl⟩, by rw [ol.len]; exact rs.int w⟩
    · cases hd
      obtain ⟨v, B, rfl, o⟩ := rl.d1
      obtain ⟨p, ws, rfl, hp, _, ol⟩ := o.tupv w.same
      exact ⟨_, _, rfl, .inr ⟨ws, hp, rfl⟩, by rw [ol.len]; exact rs.int w⟩
    · cases hd
      obtain ⟨v, B, rfl, o⟩ := rl.d1
      obtain ⟨p, rfl, hp⟩ := o.scrv w.same
      exact ⟨_, _, rfl, .inl ⟨_, hp, rfl⟩, by rw [List.length_map]; exact rs.int w⟩
    · cases hd
  | max =>
    refine ⟨_, CB.b ((call_max2 hcalm).or (cr_max hcalm)) hm boot_max (by decide +kernel) (by decide +kernel), fun {F H A es vs ds d Q} w rl hd rs => ?_⟩
    simp only [fnO] at hd
    unfold maxO at hd
    split at hd
    · cases hd
      obtain ⟨v, v', B, B', rfl, o, o'⟩ := rl.d2
      exact .inl ⟨_, _, by rw [o.int, o'.int], rs.int w⟩
    · simp only [Option.bind_eq_some_iff] at hd
      obtain ⟨ns, h1, h2⟩ := hd
      split at h2
      · cases h2
      · rename_i hne
        cases h2
        obtain ⟨v, B, rfl, o⟩ := rl.d1
        obtain ⟨p, ws, rfl, hp, ol⟩ := o.lstv w.same
        rw [intsO_some h1] at ol
        have e := ol.ints
        subst e
        exact .inr ⟨p, ns, rfl, SqL.of hp, len_pos hne, fun m h3 h4 => by rw [← maxL_eq h3 h4]; exact rs.int w⟩
    · cases hd
  | min =>
    refine ⟨_, CB.b ((call_min2 hcalm).or ((cr_min hcalm).or (cr_minT hcalm (by omega)))) hm boot_min (by decide +kernel) (by decide +kernel), fun {F H A es vs ds d Q} w rl hd rs => ?_⟩
    simp only [fnO] at hd
    unfold minO at hd
    split at hd
    · cases hd
      obtain ⟨v, v', B, B', rfl, o, o'⟩ := rl.d2
      exact .inl ⟨_, _, by rw [o.int, o'.int], rs.int w⟩
    · split at hd
      · rename_i ns h1
        split at hd
        · cases hd
        · rename_i hne
          cases hd
          obtain ⟨v, B, rfl, o⟩ := rl.d1
          obtain ⟨p, ws, rfl, hp, ol⟩ := o.lstv w.same
          rw [intsO_some h1] at ol
          have e := ol.ints
          subst e
          exact .inr (.inl ⟨p, ns, rfl, SqL.of hp, len_pos hne, fun m h3 h4 => by rw [← minL_eq h3 h4]; exact rs.int w⟩)
      · rename_i hno
        rw [Option.map_eq_some_iff] at hd
        obtain ⟨ps, h1, rfl⟩ := hd
        have hne : ps ≠ [] := fun z => by
          rw [prsO_some h1, z] at hno
          simp [intsO] at hno
        obtain ⟨v, B, rfl, o⟩ := rl.d1
        obtain ⟨p, ws, rfl, hp, ol⟩ := o.lstv w.same
        rw [prsO_some h1] at ol
        obtain ⟨ts, rfl, hl, ht⟩ := OwnL.prs w.same ol
        refine .inr (.inr ⟨p, ts, ps, rfl, SqL.of hp, hl, List.length_pos_iff.mpr hne, fun i t q a b => (ht i t q a b).1, fun b t q hb hq hm => ?_⟩)
        obtain ⟨k1, k2⟩ := minP_min hne
        have e : q = minP ps := ltP_eq (k2 q (List.mem_of_getElem? hq)) (hm _ k1)
        have fz := (ht b t q hb hq).2
        rw [e] at fz
        exact rs.fz w fz
    · cases hd
  | all =>
    refine ⟨_, CB.b (cr_all hcalm) hm boot_all (by decide +kernel) (by decide +kernel), fun {F H A es vs ds d Q} w rl hd rs => ?_⟩
    simp only [fnO] at hd
    unfold allO at hd
    split at hd
    · simp only [Option.map_eq_some_iff] at hd
      obtain ⟨ns, h1, rfl⟩ := hd
      obtain ⟨v, B, rfl, o⟩ := rl.d1
      obtain ⟨p, ws, rfl, hp, ol⟩ := o.lstv w.same
      rw [blsO_some h1] at ol
      have e := ol.bls
      subst e
      exact ⟨p, ns, rfl, SqL.of hp, rs.bl w⟩
    · cases hd
  | list =>
    refine ⟨_, CB.ty call_list_of hm boot_list (by decide +kernel) (by decide +kernel), fun {F H A es vs ds d Q} w rl hd rs => ?_⟩
    simp only [fnO] at hd
    unfold listO at hd
    split at hd
    · split at hd
      · rename_i hl
        cases hd
        obtain ⟨v, B, rfl, o⟩ := rl.d1
        obtain ⟨p, ws, rfl, hp, ol⟩ := o.lstv w.same
        exact ⟨p, ws, rfl, .inl (SqL.of hp), fun q hq => rs.lst w (ol.fzd hl) hq⟩
      · cases hd
    · cases hd
      obtain ⟨v, B, rfl, o⟩ := rl.d1
      obtain ⟨p, ws, rfl, hp, _, f⟩ := o.tupv w.same
      exact ⟨p, ws, rfl, .inr hp, fun q hq => rs.lst w f hq⟩
    · cases hd
      obtain ⟨v, B, rfl, o⟩ := rl.d1
      obtain ⟨p, rfl, hp⟩ := o.scrv w.same
      exact ⟨p, _, rfl, .inl hp, fun q hq => rs.lst w (scr_fz _) hq⟩
    · cases hd
  | tuple =>
    refine ⟨_, CB.ty call_tuple_of hm boot_tuple (by decide +kernel) (by decide +kernel), fun {F H A es vs ds d Q} w rl hd rs => ?_⟩
    simp only [fnO] at hd
    unfold tupleO at hd
    split at hd
    · split at hd
      · rename_i hl
        cases hd
        obtain ⟨v, B, rfl, o⟩ := rl.d1
        obtain ⟨p, ws, rfl, hp, ol⟩ := o.lstv w.same
        exact ⟨p, ws, rfl, .inl ⟨SqL.of hp, fun q hq => rs.tup w (ol.fzd hl) hq⟩⟩
      · cases hd
    · cases hd
      obtain ⟨v, B, rfl, o⟩ := rl.d1
      obtain ⟨p, ws, rfl, hpf, f⟩ := o.tupx
      exact ⟨p, ws, rfl, .inr ⟨SqT.of (w.same _ _ hpf), rs.fz w (.tup hpf f)⟩⟩
    · cases hd
  | int =>
    refine ⟨_, CB.ty (call_int1.or cr_intS) hm boot_int (by decide +kernel) (by decide +kernel), fun {F H A es vs ds d Q} w rl hd rs => ?_⟩
    simp only [fnO] at hd
    unfold intO at hd
    split at hd
    · cases hd
      obtain ⟨v, B, rfl, o⟩ := rl.d1
      exact .inl (.inl ⟨_, by rw [o.int], rs.int w⟩)
    · cases hd
      obtain ⟨v, B, rfl, o⟩ := rl.d1
      exact .inl (.inr ⟨_, by rw [o.bl], rs.int w⟩)
    · split at hd
      · rename_i hl
        simp only [Option.map_eq_some_iff] at hd
        obtain ⟨n, hn, rfl⟩ := hd
        obtain ⟨v, B, rfl, o⟩ := rl.d1
        exact .inr ⟨_, n, by rw [o.str.1], by show (ST _).length ≤ 640; rw [st_len]; exact hl, hn, rs.int w⟩
      · cases hd
    · cases hd
  | str =>
    refine ⟨_, CB.ty cr_str hm boot_str (by decide +kernel) (by decide +kernel), fun {F H A es vs ds d Q} w rl hd rs => ?_⟩
    simp only [fnO] at hd
    unfold strO at hd
    split at hd
    · cases hd
      obtain ⟨v, B, rfl, o⟩ := rl.d1
      exact .inl ⟨_, by rw [o.str.1], rs.str w o.str.2⟩
    · split at hd
      · rename_i hl
        split at hd
        · rename_i hk
          cases hd
          obtain ⟨v, B, rfl, o⟩ := rl.d1
          refine .inr ⟨_, by rw [o.int], hl, ?_⟩
          have q := rs.str w hk
          unfold numS at q
          exact q
        · cases hd
      · cases hd
    · cases hd
  | _ => simp [fnHas] at hf
theorem pe_fn (hcalm : X.calm = true) (hu : X.A.units + 65 < cLine) {f : Fn} {es : List E} {a : Expr} {as : List Expr} {p pos : Pos} (hf : fnHas f = true) (hm : X.mg (fnName f) = none) (hg : Gl X (fnName f)) (h : PEs X (tR X.K mg call W) es (a :: as)) :
    PE X (.Call (.Name (fnName f) p) (a :: as) [] pos) (tE X.K mg call (.op (.fn f) es) W) := by
  obtain ⟨r, hr, ok⟩ := fn_ok (X := X) (mg := mg) hcalm hu f hm hf
  exact opFin (r := r) (hr hg h.star h.pa) fun {F H A vs ds d Q} w rl hd _ rs => ok w rl hd rs
/-! ### join of a written text -/
theorem join_eq (s : List Nat) : ∀ ys : List (List Nat), Txt.join (ST s) (ys.map ST) = ST (joinS s ys) := by
  intro ys
  have fold : ∀ (r : List (List Nat)) (acc : List Nat), (r.map ST).foldl (fun acc p => acc ++ (ST s).cps ++ p.cps) acc.toArray = (r.foldl (fun a y => a ++ s ++ y) acc).toArray := by
    intro r
    induction r with
    | nil => intro acc; rfl
    | cons y r ih =>
      intro acc
      rw [List.map_cons, List.foldl_cons, List.foldl_cons, ← ih]
      congr 1
      show acc.toArray ++ s.toArray ++ y.toArray = _
      simp
  have js : ∀ (r : List (List Nat)) (x : List Nat), r.foldl (fun a y => a ++ s ++ y) x = joinS s (x :: r) := by
    intro r
    induction r with
    | nil => intro x; rfl
    | cons y r ih =>
      intro x
      rw [List.foldl_cons, ih]
      cases r with
      | nil => rfl
      | cons z r => show (x ++ s ++ y) ++ s ++ joinS s (z :: r) = x ++ s ++ (y ++ s ++ joinS s (z :: r)); simp
  cases ys with
  | nil => rfl
  | cons x r =>
    show (⟨(r.map ST).foldl (fun acc p => acc ++ (ST s).cps ++ p.cps) x.toArray⟩ : Str) = _
    rw [fold, js]
theorem okCs_join (s : List Nat) (h : okCs s = true) : ∀ ys : List (List Nat), ys.all okCs = true → okCs (joinS s ys) = true
  | [], _ => rfl
  | [x], hx => by show okCs x = true; simpa using hx
  | x :: y :: r, hx => by
    rw [List.all_cons, Bool.and_eq_true] at hx
    exact okCs_app (okCs_app hx.1 h) (okCs_join s h (y :: r) hx.2)
theorem pe_joinE {l : List Nat} {e : E} {b : Expr} {k : Nat} {p0 apos pos : Pos} (hok : okCs l = true) (hline : (apos.endLine == pos.line) = true) (nb : noStar b = true) (hb : PE X b (tR X.K mg call W e)) :
    PE X (.Call (.Attribute (.Constant (.str ⟨l.toArray⟩) k p0) "join" apos) [b] [] pos) (tE X.K mg call (.op (.mt (.join l)) [e]) W) := by
  refine opFin (r := on1 fun y H Q => ∃ a p, ∃ ys : List Str, V.str ⟨l.toArray⟩ = .str a ∧ [y] = [V.ref p] ∧ (SqL X.K H p (ys.map V.str) ∨ SqT X.K H p (ys.map V.str)) ∧ (ys.map (·.length)).sum + ys.length * a.length ≤ 16777216 ∧ Q (.str (Txt.join a ys)) H)
    (PE.weak (pe_join (X := X) (o := .Constant (.str ⟨l.toArray⟩) k p0) (e := b) (to := tC (.str ⟨l.toArray⟩)) (te := tR X.K mg call W e) (apos := apos) (pos := pos) pe_str hb (by rw [starEach_cons nb]; rfl) rfl hline) fun σ H Q h => ?_) fun {F H A vs ds d Q} w rl hd _ rs => ?_
  · exact ⟨⟨_, rfl⟩, h⟩
  · simp only [opD, mtO] at hd
    unfold joinO at hd
    split at hd
    · simp only [Option.bind_eq_some_iff] at hd
      obtain ⟨ys, h1, h2⟩ := hd
      split at h2
      · rename_i hl
        cases h2
        obtain ⟨v, B, rfl, o⟩ := rl.d1
        obtain ⟨p, ws, rfl, hp, ol⟩ := o.lstv w.same
        rw [strsO_some h1] at ol
        obtain ⟨e1, e2⟩ := ol.strs
        subst e1
        refine ⟨ST l, p, ys.map ST, rfl, rfl, .inl (SqL.of hp), ?_, ?_⟩
        · rw [List.map_map, List.length_map, st_len]
          have : (fun y : Str => y.length) ∘ ST = fun y : List Nat => y.length := funext fun y => st_len y
          rw [this]; exact hl
        · rw [join_eq]; exact rs.str w (okCs_join l hok ys e2)
      · cases h2
    · cases hd
/-! ### isinstance -/
def tNames : List String := ["NoneType", "bool", "int", "str", "tuple", "list", "dict"]
def cNames : List String := ["bool", "int", "str", "tuple", "list", "dict"]
theorem kit_all : ∀ t ∈ tNames, ∀ c ∈ cNames, kitB t c = some (kitT t c) := by decide +kernel
theorem boot_all' : ∀ c ∈ cNames, bootBuiltins (Str.ofString c) = some (.type c) ∧ Str.ofString c ≠ "__name__" ∧ (Str.ofString c == ("__debug__" : Str)) = false := by decide +kernel
theorem tyN_mem {d : D} {t : String} (h : tyN d = some t) : t ∈ tNames := by
  cases d <;> simp only [tyN, Option.some.injEq] at h <;> first | (subst h; decide +kernel) | cases h
theorem kit_any {K : PySem.W.Frag} {t : String} (ht : t ∈ tNames) : ∀ {cs : List String}, (∀ c ∈ cs, c ∈ cNames) → PySem.W.kitAny K (.type t) (cs.map .type) = some (cs.any (kitT t))
  | [], _ => rfl
  | c :: cs, h => by
    have e := kit_ty (K := K) (kit_all t ht c (h c List.mem_cons_self))
    rw [List.map_cons, List.any_cons]
    refine kitAny_cons e (fun z => ?_) fun z => ?_
    · rw [z, Bool.false_or]; exact kit_any ht fun d hd => h d (List.mem_cons_of_mem _ hd)
    · rw [z, Bool.true_or]
theorem ty_of {K : PySem.W.Frag} {F H : Hp} {B : AS} {v : V} {d : D} {t : String} (s : Same F H) (o : Own K mg F H v d B) (h : tyN d = some t) : TyX K H v (.type t) := by
  cases d <;> simp only [tyN, Option.some.injEq] at h <;> try (cases h; done)
  · subst h; rw [o.non]; exact .base .non
  · subst h; rw [o.bl]; exact .base (.bl _)
  · subst h; rw [o.int]; exact .base (.int _)
  · subst h; rw [o.str.1]; exact .base (.str _)
  · subst h
    obtain ⟨p, ws, rfl, hp, _⟩ := o.tupv s
    rcases hp with (hp | ⟨ob, hp⟩) | ⟨ob, its, n, hk, hc, _⟩
    · exact .base (.tup hp)
    · exact .fTuple hp
    · exact .kTuple hk hc
  · subst h
    obtain ⟨p, ws, rfl, hp, _⟩ := o.lstv s
    exact .base (.lst hp)
  · subst h
    cases o with
    | fz hf => cases hf with | dic h1 _ => exact .fDict (s _ _ h1)
    | dic h1 => exact .base (.dK h1)
def tyEs : List String → List Expr → Bool
  | [], [] => true
  | c :: cs, .Name x _ :: es => decide (x = Str.ofString c) && decide (c ∈ cNames) && tyEs cs es
  | _, _ => false
theorem tyEs_pa : ∀ {cs : List String} {es : List Expr}, tyEs cs es = true → (∀ c ∈ cs, Gl X (Str.ofString c) ∧ X.mg (Str.ofString c) = none) → (∀ c ∈ cs, c ∈ cNames) ∧ es.all noStar = true ∧ PA X es (fun σ H Q => Q (cs.map V.ty) H)
  | [], [], _, _ => ⟨by simp, rfl, PA.weak pa_nil fun _ _ _ h => h⟩
  | [], _ :: _, h, _ => by simp [tyEs] at h
  | _ :: _, [], h, _ => by simp [tyEs] at h
  | c :: cs, e :: es, h, g => by
    obtain ⟨x, p, rfl⟩ : ∃ x p, e = .Name x p := by
      cases e <;> first | exact ⟨_, _, rfl⟩ | (simp [tyEs] at h)
    simp only [tyEs, Bool.and_eq_true, decide_eq_true_eq] at h
    obtain ⟨⟨h1, h2⟩, h3⟩ := h
    subst h1
    obtain ⟨i1, i2, i3⟩ := tyEs_pa h3 fun d hd => g d (List.mem_cons_of_mem _ hd)
    obtain ⟨g1, g2⟩ := g c List.mem_cons_self
    obtain ⟨b1, b2, b3⟩ := boot_all' c h2
    refine ⟨fun d hd => ?_, by rw [List.all_cons, i2]; rfl, ?_⟩
    · rcases List.mem_cons.mp hd with rfl | hd
      · exact h2
      · exact i1 d hd
    · have hp : PE X (.Name (Str.ofString c) p) (tC (.ty c)) := pe_bltn g1 g2 b1 rfl b2 b3
      exact PA.weak (pa_cons hp i3 (starEach_cons rfl es X.env)) fun _ _ _ h => h
theorem pe_isi1 {c : String} {e : E} {a : Expr} {q p pos : Pos} (hm : X.mg "isinstance" = none) (hg : Gl X "isinstance") (hc : c ∈ cNames) (gc : Gl X (Str.ofString c)) (mc : X.mg (Str.ofString c) = none) (na : noStar a = true) (ha : PE X a (tR X.K mg call W e)) :
    PE X (.Call (.Name "isinstance" p) [a, .Name (Str.ofString c) q] [] pos) (tE X.K mg call (.op (.isi [c]) [e]) W) := by
  obtain ⟨b1, b2, b3⟩ := boot_all' c hc
  have hp : PE X (.Name (Str.ofString c) q) (tC (.ty c)) := pe_bltn gc mc b1 rfl b2 b3
  refine opFin (r := on1 fun x H Q => rIsi X.K [x, .ty c] H Q) (pe_callB call_isi hg hm (by decide +kernel) (pa_cons ha (pa_cons hp pa_nil (starEach_cons rfl [] X.env)) (starEach_cons na _ X.env)) (by decide +kernel) (by decide +kernel) (starEach_cons na _ X.env) (back_none (es := [.Name (Str.ofString c) q]) rfl)) fun {F H A vs ds d Q} w rl hd _ rs => ?_
  obtain ⟨l1, _⟩ := rl.lens
  match ds, l1 with
  | [d1], _ =>
    obtain ⟨v1, B1, rfl, o1⟩ := rl.d1
    simp only [opD, isiO, Option.map_eq_some_iff] at hd
    obtain ⟨t, h1, rfl⟩ := hd
    refine ⟨v1, .ty c, .type t, .type c, _, rfl, .ty c, ty_of w.same o1 h1, kit_ty (kit_all t (tyN_mem h1) c hc), ?_⟩
    have : [c].any (kitT t) = kitT t c := by simp
    rw [this] at rs
    exact rs.bl w
theorem prTy : ∀ cs : List String, Paired ClsV (cs.map V.ty) (cs.map Value.type)
  | [] => .nil
  | c :: r => .cons (.ty c) (prTy r)
theorem pe_isiN {cs : List String} {es : List Expr} {e : E} {a : Expr} {kk : Nat} {q p pos : Pos} (hm : X.mg "isinstance" = none) (hg : Gl X "isinstance") (hts : tyEs cs es = true) (hl : cs.length ≤ 5) (gs : ∀ c ∈ cs, Gl X (Str.ofString c) ∧ X.mg (Str.ofString c) = none) (na : noStar a = true) (ha : PE X a (tR X.K mg call W e)) :
    PE X (.Call (.Name "isinstance" p) [a, .Tuple es kk q] [] pos) (tE X.K mg call (.op (.isi cs) [e]) W) := by
  obtain ⟨i1, i2, i3⟩ := tyEs_pa hts gs
  refine opFin (r := on1 fun x H Q => (cs.map V.ty).length ≤ sizeLine ∧ ∀ p, H p = none → rIsiT X.K [x, .ref p] (upd H p (.tup (cs.map V.ty))) Q) (pe_callB call_isiT hg hm (by decide +kernel) (pa_cons ha (pa_cons (pe_tup i3) pa_nil (starEach_cons rfl [] X.env)) (starEach_cons na _ X.env)) (by decide +kernel) (by decide +kernel) (starEach_cons na _ X.env) (back_none (es := [.Tuple es kk q]) rfl)) fun {F H A vs ds d Q} w rl hd _ rs => ?_
  obtain ⟨l1, _⟩ := rl.lens
  match ds, l1 with
  | [d1], _ =>
    obtain ⟨v1, B1, rfl, o1⟩ := rl.d1
    simp only [opD, isiO, Option.map_eq_some_iff] at hd
    obtain ⟨t, h1, rfl⟩ := hd
    refine ⟨by rw [List.length_map, szl]; show _ ≤ 16777216; omega, fun p hp => ?_⟩
    have e := Ext.laidF (o := .tup (cs.map V.ty)) w.no hp
    have ty := ty_of (w.same) o1 h1
    have ty2 : TyX X.K (upd H p (.tup (cs.map V.ty))) v1 (.type t) := by
      have keep : ∀ b u, H b = some u → upd H p (.tup (cs.map V.ty)) b = some u := fun b u z => by rw [upd_ne (ne_of_none z hp)]; exact z
      have o2 := Own.move (F' := F) (H' := upd H p (.tup (cs.map V.ty))) (fun _ _ z => z) (fun b u _ z => keep b u z) o1
      exact ty_of (fun b u z => keep b u (w.same b u z)) o2 h1
    have pr : Paired ClsV (cs.map V.ty) (cs.map Value.type) := prTy cs
    refine ⟨v1, p, cs.map V.ty, .type t, cs.map .type, _, rfl, upd_same, pr, ty2, kit_any (tyN_mem h1) i1, ?_⟩
    exact rs.new rfl _ _ _ no e (fun _ _ z => (upd_ne (ne_of_none z hp)).trans z) (.fz (.bl _))
end
end VI

namespace VI
variable [Tn]
open PySem PySem.Spec PyProof.Rows L2
section
variable {X : Cx} {mg : Str → Option Value} {call : CallT} {W : WX}
theorem set_same {α : Type} : ∀ (l : List α) (i : Nat) (v : α), l[i]? = some v → l.set i v = l
  | [], _, _, h => by simp at h
  | a :: l, 0, v, h => by simp at h; subst h; rfl
  | a :: l, i + 1, v, h => by rw [List.set_cons_succ, set_same l i v (by simpa using h)]
theorem cup_sub {A B : AS} (h : Sb B A) : cup A B = A := funext fun a => propext ⟨fun z => z.elim id (h a), .inl⟩
theorem cup_no' {A : AS} : cup A no = A := cup_sub Sb.no_l
theorem put_back {K : PySem.W.Frag} {F H : Hp} {σ : SG} {ρ : Env'} {A1 A2 : AS} {i : Nat} {v : V} {d : D} (hv : σ[i]? = some (some v)) (o : Own K mg F H v d A1) (s : Slots K mg F H σ ρ A2) (dj : Dj A1 A2) : Slots K mg F H σ (ρ.set i (some d)) (cup A1 A2) := by
  have := Slots.put (i := i) o s dj (by rw [hv]; rfl)
  rwa [set_same σ i _ hv] at this
theorem pe_varE {i : Nat} {x : Str} {pos : Pos} (h : PE X (.Name x pos) (tVar i)) : PE X (.Name x pos) (tE X.K mg call (.var i) W) := by
  refine PE.weak h fun σ H Q h => ?_
  obtain ⟨F, A, ρ, w, s, p⟩ := h
  simp only [ev] at p
  cases hi : ρ[i]? with
  | none => rw [hi] at p; exact p.elim
  | some o =>
  cases o with
  | none => rw [hi] at p; exact p.elim
  | some d =>
    rw [hi] at p
    obtain ⟨v, A1, A2, h1, h2, _, _, h5, _⟩ := s.get hi
    exact ⟨v, h1, p v F H A A1 (by rw [cup_sub h5]; exact Ext.refl w) s h2 (fun _ => h5) (fun z => by simp [shares] at z) fun _ => ⟨rfl, Same.rfl', rfl⟩⟩
theorem Wd.nq {F H : Hp} {A : AS} (w : Wd F H A) {a q : Addr} (h : A a) (hq : H q = none) : a ≠ q := fun z => by
  obtain ⟨_, u, e, _⟩ := w.own a h
  rw [z, hq] at e; cases e
theorem lk_all {pins : List (Addr × Obj)} {σ : SG} {s : Shared} : ∀ (L : List Addr) {H : Hp}, Inv X pins σ H s → (∀ a ∈ L, ∃ u, H a = some u ∧ Mut (some u)) → ∃ H2, LkL L H H2 ∧ Inv X pins σ H2 s
  | [], H, I, _ => ⟨H, fun a => ⟨fun h => by simp at h, fun _ => rfl⟩, I⟩
  | a :: L, H, I, h => by
    obtain ⟨H2, lk, I2⟩ := lk_all L I fun b hb => h b (List.mem_cons_of_mem _ hb)
    by_cases ha : a ∈ L
    · exact ⟨H2, fun b => ⟨fun hb => (lk b).1 ((List.mem_cons.mp hb).elim (fun z => z ▸ ha) id), fun hb => (lk b).2 fun z => hb (List.mem_cons_of_mem _ z)⟩, I2⟩
    · obtain ⟨u, hu, mu⟩ := h a List.mem_cons_self
      have e2 : H2 a = some u := by rw [(lk a).2 ha]; exact hu
      obtain ⟨od, I3⟩ := I2.lock e2 mu
      refine ⟨_, fun b => ⟨fun hb => ?_, fun hb => ?_⟩, I3⟩
      · by_cases z : b = a
        · subst z; exact ⟨u, od, hu, upd_same⟩
        · rw [upd_ne z]
          exact (lk b).1 ((List.mem_cons.mp hb).elim (fun y => (z y).elim) id)
      · have z : b ≠ a := fun z => hb (z ▸ List.mem_cons_self)
        rw [upd_ne z]
        exact (lk b).2 fun y => hb (List.mem_cons_of_mem _ y)
theorem PE.lockd {e : Expr} {t : TE} (h : PE X e t) : PE X e (fun σ H Q => t σ H fun v H1 => ∃ L : List Addr, (∀ a ∈ L, ∃ u, H1 a = some u ∧ Mut (some u)) ∧ ∀ H2, LkL L H1 H2 → Q v H2) := by
  refine ⟨fun pins s σ H Q I q => thn (h.run pins s σ H _ I q) fun v s1 ⟨x, H1, I1, r, L, hL, q1⟩ => ?_⟩
  obtain ⟨H2, lk, I2⟩ := lk_all L I1 hL
  exact ⟨x, H2, I2, r, q1 H2 lk⟩
theorem PSs.lockd {as : List Stmt} {t : TS} (h : PSs X as t) : PSs X as (fun D σ H => ∃ L : List Addr, (∀ a ∈ L, ∃ u, H a = some u ∧ Mut (some u)) ∧ ∀ H2, LkL L H H2 → t D σ H2) := by
  refine ⟨fun pins s σ H D I ⟨L, hL, q⟩ => ?_⟩
  obtain ⟨H2, lk, I2⟩ := lk_all L I hL
  exact h.run pins s σ H2 D I2 (q H2 lk)
theorem slot_frz {K : PySem.W.Frag} {F H : Hp} {A : AS} {σ : SG} {ρ : Env'} {i : Nat} {d : D} (w : Wd F H A) (s : Slots K mg F H σ ρ A) (hi : ρ[i]? = some (some d)) (hc : d.cand = true) :
    ∃ v, ∃ L : List Addr, σ[i]? = some (some v) ∧ (∀ a ∈ L, ∃ u, H a = some u ∧ Mut (some u)) ∧ ∀ H2, LkL L H H2 → ∃ F' A', Ext F H A F' H2 A' ∧ Slots K mg F' H2 σ (ρ.set i (some d.frz)) A' ∧ Fz K F' v d.frz := by
  obtain ⟨v, A1, A2, h1, h2, h3, h4, h5, h6⟩ := s.get hi
  have w12 : Wd F H (cup A1 A2) := w.sub fun a x => x.elim (h5 a) (h6 a)
  obtain ⟨L, hL, go⟩ := freezeL w12 h4 hc h2
  refine ⟨v, L, h1, hL, fun H2 lk => ?_⟩
  obtain ⟨G, ext, fz, sf, kk⟩ := go H2 lk
  have s2 : Slots K mg G H2 σ (ρ.set i none) A2 := Slots.move sf h3 fun a u b e => kk a u b e
  have s3 := put_back h1 (Own.fz fz) s2 Dj.no_l
  rw [cup_no] at s3
  have e : (ρ.set i none).set i (some d.frz) = ρ.set i (some d.frz) := by rw [List.set_set]
  rw [e] at s3
  exact ⟨_, A2, ext.more fun a x => x.elim (h5 a) (h6 a), s3, fz⟩
theorem pe_useE {i : Nat} {x : Str} {pos : Pos} (h : PE X (.Name x pos) (tVar i)) : PE X (.Name x pos) (tE X.K mg call (.use i) W) := by
  refine PE.weak (PE.lockd h) fun σ H Q h => ?_
  obtain ⟨F, A, ρ, w, s, p⟩ := h
  simp only [ev] at p
  cases hi : ρ[i]? with
  | none => rw [hi] at p; exact p.elim
  | some o =>
  cases o with
  | none => rw [hi] at p; exact p.elim
  | some d =>
    rw [hi] at p
    simp only at p
    split at p
    · rename_i hc
      obtain ⟨v, L, h1, hL, go⟩ := slot_frz w s hi hc
      refine ⟨v, h1, L, hL, fun H2 lk => ?_⟩
      obtain ⟨F', A', e, s', fz⟩ := go H2 lk
      exact p v F' H2 A' no (by rw [cup_no']; exact e) s' (.fz fz) (fun z => by simp [shares] at z) (fun _ => Dj.no_r) fun z => by simp [quiet] at z
    · exact p.elim
theorem pe_takeE {i : Nat} {x : Str} {pos : Pos} (h : PE X (.Name x pos) (tVar i)) : PE X (.Name x pos) (tE X.K mg call (.take i) W) := by
  refine PE.weak h fun σ H Q h => ?_
  obtain ⟨F, A, ρ, w, s, p⟩ := h
  simp only [ev] at p
  cases hi : ρ[i]? with
  | none => rw [hi] at p; exact p.elim
  | some o =>
  cases o with
  | none => rw [hi] at p; exact p.elim
  | some d =>
    rw [hi] at p
    obtain ⟨v, A1, A2, h1, h2, h3, h4, h5, h6⟩ := s.get hi
    exact ⟨v, h1, p v F H A2 A1 ((Ext.refl w).sub fun a x => x.elim (h6 a) (h5 a)) h3 h2 (fun z => by simp [shares] at z) (fun _ => h4.symm) fun z => by simp [quiet] at z⟩
def Const (K : PySem.W.Frag) (v : V) (d : D) : Prop := ∀ F : Hp, Fz K F v d
theorem pe_constE {ast : Expr} {v : V} {d : D} (e : E) (he : ∀ ρ, ev call e ρ = .ok d ρ) (ha : shares e = false) (hv : Const X.K v d) (h : PE X ast (tC v)) : PE X ast (tE X.K mg call e W) := by
  refine PE.weak h fun σ H Q h => ?_
  obtain ⟨F, A, ρ, w, s, p⟩ := h
  rw [he] at p
  exact p v F H A no (by rw [cup_no']; exact Ext.refl w) s (.fz (hv F)) (fun z => by rw [ha] at z; cases z) (fun _ => Dj.no_r) fun _ => ⟨rfl, Same.rfl', rfl⟩

/-! ### tests -/
def PostT (K : PySem.W.Frag) (mg : Str → Option Value) (W : WX) (F H : Hp) (A : AS) (σ : SG) (r : R D) (Q : Bool → Hp → Prop) : Prop := match r with
  | .ok d ρ' => ∃ k, truD d = some k ∧ ∀ F' H' A', Ext F H A F' H' A' → Slots K mg F' H' σ ρ' A' → Q k H'
  | .err x ρ' => PX K mg W F H A σ x ρ'
  | .bad => False
def tT (K : PySem.W.Frag) (mg : Str → Option Value) (call : CallT) (e : E) (W : WX) : TT := fun σ H Q => ∃ F A ρ, Wd F H A ∧ Slots K mg F H σ ρ A ∧ PostT K mg W F H A σ (ev call e ρ) Q
theorem PT.weak {e : Expr} {t t' : TT} (h : PT X e t) (hw : ∀ σ H Q, t' σ H Q → t σ H Q) : PT X e t' := ⟨fun pins s σ H Q I q => h.run pins s σ H Q I (hw σ H Q q)⟩
theorem PW.weak {e : Expr} {t t' : TT} (h : PW X e t) (hw : ∀ σ H Q, t' σ H Q → t σ H Q) : PW X e t' := ⟨fun wh pins s σ H Q I q => h.run wh pins s σ H Q I (hw σ H Q q)⟩
theorem tru_of {K : PySem.W.Frag} {F H : Hp} {B : AS} {v : V} {d : D} {k : Bool} (s : Same F H) (o : Own K mg F H v d B) (h : truD d = some k) : TruV K v H k := by
  cases d with
  | non => rw [o.non]; simp only [truD, Option.some.injEq] at h; exact h.symm
  | bl b => rw [o.bl]; simp only [truD, Option.some.injEq] at h; exact h.symm
  | int i => rw [o.int]; simp only [truD, Option.some.injEq] at h; exact h.symm
  | str l =>
    rw [o.str.1]
    simp only [truD] at h
    split at h
    · rename_i hl
      cases h
      refine ⟨by rw [szl]; show (ST _).length ≤ _; rw [st_len]; exact hl, ?_⟩
      show (l.length != 0) = (((ST l).length : Int) != 0)
      rw [st_len, Bool.eq_iff_iff]
      simp
    · cases h
  | lst m xs =>
    obtain ⟨p, ws, rfl, hp, ol⟩ := o.lstv s
    simp only [truD, Option.some.injEq] at h
    subst h
    refine .inl ⟨ws, SqL.of hp, ?_⟩
    cases ol <;> rfl
  | tup xs =>
    obtain ⟨p, ws, rfl, hp, _, ol⟩ := o.tupv s
    simp only [truD, Option.some.injEq] at h
    subst h
    refine .inr (.inl ⟨ws, hp, ?_⟩)
    cases ol <;> rfl
  | _ => simp [truD] at h
def plainTest : Expr → Bool
  | .UnaryOp .Not _ _ => false
  | .BoolOp .. => false
  | .IfExp .. => false
  | .Compare .. => false
  | _ => true
theorem plain_isTrue {a : Expr} (h : plainTest a = true) (env : Env) (whole : Sem Value) : isTrue a env whole = (do let v ← whole; standAt a.pos; holding [v] (truthy v)) := by
  cases a <;> first | rfl | (simp [plainTest] at h; done) | skip
  all_goals (rename_i op _ _; cases op <;> first | rfl | (simp [plainTest] at h))
theorem pt_ofE {e : E} {a : Expr} (h : plainTest a = true) (he : PE X a (tE X.K mg call e W)) : PT X a (tT X.K mg call e W) := by
  refine PT.weak (pt_truth he (plain_isTrue h X.env)) fun σ H Q h => ?_
  obtain ⟨F, A, ρ, w, s, p⟩ := h
  refine ⟨F, A, ρ, w, s, ?_⟩
  cases hr : ev call e ρ with
  | bad => rw [hr] at p; exact p
  | err x ρ' => rw [hr] at p; exact p
  | ok d ρ' =>
    rw [hr] at p
    obtain ⟨k, hk, p⟩ := p
    intro v F' H' A' B ex s' o _ _ _
    exact ⟨k, tru_of ex.wd.same o hk, p F' H' A' (ex.sub Sb.l) s'⟩
theorem pt_notE {e : E} {a : Expr} {pos : Pos} (h : PT X a (tT X.K mg call e W)) : PT X (.UnaryOp .Not a pos) (tT X.K mg call (.not e) W) := by
  refine PT.weak (pt_not h) fun σ H Q h => ?_
  obtain ⟨F, A, ρ, w, s, p⟩ := h
  refine ⟨F, A, ρ, w, s, ?_⟩
  simp only [ev] at p
  cases hr : ev call e ρ with
  | bad => rw [hr] at p; exact p
  | err x ρ' => rw [hr] at p; exact p
  | ok d ρ' =>
    rw [hr] at p
    simp only [R.bind] at p
    cases d <;> simp only [PostT] at p
    case bl k =>
      obtain ⟨k', hk, p⟩ := p
      simp only [truD, Option.some.injEq] at hk
      subst hk
      exact ⟨k, rfl, p⟩
theorem pe_notE {e : E} {a : Expr} {pos : Pos} (h : PE X a (tE X.K mg call e W)) : PE X (.UnaryOp .Not a pos) (tE X.K mg call (.not e) W) := by
  refine PE.weak (pe_not h) fun σ H Q h => ?_
  obtain ⟨F, A, ρ, w, s, p⟩ := h
  refine ⟨F, A, ρ, w, s, ?_⟩
  simp only [ev] at p
  cases hr : ev call e ρ with
  | bad => rw [hr] at p; exact p
  | err x ρ' => rw [hr] at p; exact p
  | ok d ρ' =>
    rw [hr] at p
    simp only [R.bind] at p
    cases d <;> simp only [PostE] at p
    case bl k =>
      intro v F' H' A' B ex s' o _ _ q
      refine ⟨k, o.bl, p (.bl (!k)) F' H' A' no (by rw [cup_no']; exact ex.sub Sb.l) s' (.fz (.bl _)) (fun z => by simp [shares] at z) (fun _ => Dj.no_r) q⟩
theorem pt_cmpE (hu : X.A.units + 65 < cLine) {o : CmpOp} {e1 e2 : E} {a b : Expr} {pos : Pos} (hm : behindInMarks o b = false) (ha : PE X a (tR X.K mg call W e1)) (hb : PE X b (tR X.K mg call W e2)) : PT X (.Compare a [o] [b] pos) (tT X.K mg call (.op (.cmp o) [e1, e2]) W) := by
  obtain ⟨r, hr, ok⟩ := cmp_ok (X := X) (mg := mg) hu o
  refine PT.weak (pt_cmpR hr ha hb hm) fun σ H Q h => ?_
  obtain ⟨F, A, ρ, w, s, p⟩ := h
  show tRs X.K mg call W [e1, e2] σ H fun vs H2 => on2 r vs H2 fun x H' => ∃ k, x = .bl k ∧ Q k H'
  refine seqR _ w s ?_
  simp only [ev] at p
  cases he : evR call [e1, e2] ρ with
  | bad => simp only [he, R.bind, PostT] at p
  | err x ρ' => simp only [he, R.bind, PostT] at p; exact p
  | ok ds ρ' =>
    simp only [he, R.bind] at p
    cases hd : opD (.cmp o) ds with
    | none => simp only [hd, PostT] at p
    | some d =>
      simp only [hd] at p
      intro vs F' H' A' ex s' rl q
      obtain ⟨l1, _⟩ := rl.lens
      match ds, l1 with
      | [d1, d2], _ =>
        obtain ⟨v1, v2, B1, B2, rfl, o1, o2⟩ := rl.d2
        simp only [opD, cmpO, Option.map_eq_some_iff] at hd
        obtain ⟨k, hk, rfl⟩ := hd
        have hc : (Op.cmp o != Op.ix || (D.bl k).pure || sharesL [e1, e2]) = true := by simp [D.pure]
        rw [if_pos hc] at p
        obtain ⟨k', hk', p⟩ := p
        simp only [truD, Option.some.injEq] at hk'
        subst hk'
        exact ok ex.wd o1 o2 hk ⟨k, rfl, p F' H' A' ex s'⟩
def PostB (K : PySem.W.Frag) (mg : Str → Option Value) (W : WX) (F H : Hp) (A : AS) (σ : SG) (q : Bool) (ρ : Env') (r : R D) (Q : VK) : Prop := match r with
  | .ok d ρ' => ∃ k, d = .bl k ∧ ∀ F' H' A', Ext F H A F' H' A' → Slots K mg F' H' σ ρ' A' → (q = true → ρ' = ρ ∧ Same H H' ∧ A' = A) → Q (.bl k) H'
  | .err x ρ' => PX K mg W F H A σ x ρ'
  | .bad => False
theorem chain_core (hu : X.A.units + 65 < cLine) {o1 o2 : CmpOp} {ea eb ec : E} {r1 r2 : R2} {σ : SG} {H F : Hp} {A : AS} {ρ : Env'} {Q : VK}
    (ok1 : ∀ {F H : Hp} {A B1 B2 : AS} {v1 v2 : V} {d1 d2 : D} {k : Bool} {Q : VK}, Wd F H A → Own X.K mg F H v1 d1 B1 → Own X.K mg F H v2 d2 B2 → cmpB o1 d1 d2 = some k → Q (.bl k) H → r1 v1 v2 H Q)
    (ok2 : ∀ {F H : Hp} {A B1 B2 : AS} {v1 v2 : V} {d1 d2 : D} {k : Bool} {Q : VK}, Wd F H A → Own X.K mg F H v1 d1 B1 → Own X.K mg F H v2 d2 B2 → cmpB o2 d1 d2 = some k → Q (.bl k) H → r2 v1 v2 H Q)
    (w : Wd F H A) (s : Slots X.K mg F H σ ρ A)
    (p : PostB X.K mg W F H A σ (quiet (.chain o1 o2 ea eb ec)) ρ (ev call (.chain o1 o2 ea eb ec) ρ) Q) : tChain r1 r2 (tE X.K mg call ea W) (tE X.K mg call eb W) (tE X.K mg call ec W) σ H Q := by
  simp only [ev] at p
  refine ⟨F, A, ρ, w, s, ?_⟩
  cases ha : ev call ea ρ with
  | bad => simp only [ha, R.bind] at p; exact p.elim
  | err x ρ' => simp only [ha, R.bind] at p; exact p
  | ok x ρ1 =>
  simp only [ha, R.bind] at p
  intro v F1 H1 A1 B1 e1 s1 q1 al1 dj1 qt1
  refine ⟨F1, A1, ρ1, e1.wd.sub Sb.l, s1, ?_⟩
  cases hb : ev call eb ρ1 with
  | bad => simp only [hb] at p; exact p.elim
  | err y ρ' => simp only [hb] at p; exact fun cls dx F' H' A' e' s' y => p cls dx F' H' A' (e1.trans w (e'.more Sb.l)) s' y
  | ok y ρ2 =>
  simp only [hb] at p
  intro u F2 H2 A2 B2 e2 s2 q2 al2 dj2 qt2
  by_cases hp : (x.pure && y.pure) = true
  · rw [if_pos hp] at p
    simp only [Bool.and_eq_true] at hp
    have f1 := Fz.up e2.fsame (q1.fzd hp.1)
    have f2 := q2.fzd hp.2
    have w2 := e2.wd.sub (Sb.l (A := A2) (B := B2))
    have e12 : Ext F H A F2 H2 A2 := e1.trans w ((e2.sub Sb.l).more Sb.l)
    cases hc : cmpB o1 x y with
    | none => simp only [hc] at p; exact p.elim
    | some k =>
    cases k with
    | false =>
      simp only [hc] at p
      refine ok1 w2 (.fz (A := no) f1) (.fz (A := no) f2) hc ⟨false, rfl, ?_⟩
      obtain ⟨k', hk', p⟩ := p
      cases hk'
      exact p F2 H2 A2 e12 s2 fun hq => by
        simp only [quiet, Bool.and_eq_true] at hq
        obtain ⟨r1, r2, r3⟩ := qt1 hq.1.1
        obtain ⟨t1, t2, t3⟩ := qt2 hq.1.2
        exact ⟨t1.trans r1, fun a o h => t2 a o (r2 a o h), t3.trans r3⟩
    | true =>
      simp only [hc] at p
      refine ok1 w2 (.fz (A := no) f1) (.fz (A := no) f2) hc ⟨true, rfl, ?_⟩
      show tE X.K mg call ec W σ H2 _
      refine ⟨F2, A2, ρ2, w2, s2, ?_⟩
      cases hcc : ev call ec ρ2 with
      | bad => simp only [hcc] at p; exact p.elim
      | err z ρ' => simp only [hcc] at p; exact fun cls dx F' H' A' e' s' y => p cls dx F' H' A' (e12.trans w e') s' y
      | ok z ρ3 =>
        simp only [hcc] at p
        intro t F3 H3 A3 B3 e3 s3 q3 al3 dj3 qt3
        by_cases hz : z.pure = true
        · rw [if_pos hz] at p
          cases hc2 : cmpO o2 y z with
          | none => simp only [hc2, R.of] at p; exact p.elim
          | some d =>
            simp only [hc2, R.of] at p
            simp only [cmpO, Option.map_eq_some_iff] at hc2
            obtain ⟨k2, hk2, rfl⟩ := hc2
            obtain ⟨k', hk', p⟩ := p
            cases hk'
            refine ok2 (e3.wd.sub (Sb.l (A := A3) (B := B3))) (.fz (A := no) (Fz.up e3.fsame f2)) (.fz (A := no) (q3.fzd hz)) hk2 ?_
            exact p F3 H3 A3 (e12.trans w (e3.sub Sb.l)) s3 fun hq => by
              simp only [quiet, Bool.and_eq_true] at hq
              obtain ⟨r1, r2, r3⟩ := qt1 hq.1.1
              obtain ⟨t1, t2, t3⟩ := qt2 hq.1.2
              obtain ⟨u1, u2, u3⟩ := qt3 hq.2
              exact ⟨u1.trans (t1.trans r1), fun a o h => u2 a o (t2 a o (r2 a o h)), u3.trans (t3.trans r3)⟩
        · rw [if_neg hz] at p; exact p.elim
  · rw [if_neg hp] at p; exact p.elim
theorem cmpO_bl {o : CmpOp} {a b d : D} (h : cmpO o a b = some d) : ∃ k, d = .bl k := by
  simp only [cmpO, Option.map_eq_some_iff] at h
  obtain ⟨k, _, rfl⟩ := h
  exact ⟨k, rfl⟩
theorem chain_bl {o1 o2 : CmpOp} {ea eb ec : E} {ρ ρ' : Env'} {d : D} (h : ev call (.chain o1 o2 ea eb ec) ρ = .ok d ρ') : ∃ k, d = .bl k := by
  simp only [ev] at h
  cases ha : ev call ea ρ with
  | bad => simp [ha, R.bind] at h
  | err x ρ' => simp [ha, R.bind] at h
  | ok x ρ1 =>
  simp only [ha, R.bind] at h
  cases hb : ev call eb ρ1 with
  | bad => simp [hb] at h
  | err x ρ' => simp [hb] at h
  | ok y ρ2 =>
  simp only [hb] at h
  split at h
  · cases hc : cmpB o1 x y with
    | none => simp [hc] at h
    | some k =>
    cases k with
    | false => simp only [hc, R.ok.injEq] at h; exact ⟨false, h.1.symm⟩
    | true =>
      simp only [hc] at h
      cases hcc : ev call ec ρ2 with
      | bad => simp [hcc] at h
      | err x ρ' => simp [hcc] at h
      | ok z ρ3 =>
        simp only [hcc] at h
        split at h
        · cases hc2 : cmpO o2 y z with
          | none => simp [hc2, R.of] at h
          | some d' =>
            simp only [hc2, R.of, R.ok.injEq] at h
            obtain ⟨k, hk⟩ := cmpO_bl hc2
            exact ⟨k, by rw [← h.1, hk]⟩
        · cases h
  · cases h
theorem pe_chainE (hu : X.A.units + 65 < cLine) {o1 o2 : CmpOp} {ea eb ec : E} {a b c : Expr} {pos : Pos} (hm : lastMarks [o1, o2] [b, c] = false) (ha : PE X a (tE X.K mg call ea W)) (hb : PE X b (tE X.K mg call eb W)) (hc : PE X c (tE X.K mg call ec W)) :
    PE X (.Compare a [o1, o2] [b, c] pos) (tE X.K mg call (.chain o1 o2 ea eb ec) W) := by
  obtain ⟨r1, hr1, ok1⟩ := cmp_ok (X := X) (mg := mg) hu o1
  obtain ⟨r2, hr2, ok2⟩ := cmp_ok (X := X) (mg := mg) hu o2
  refine PE.weak (pe_chain hr1 hr2 ha hb hc hm) fun σ H Q h => ?_
  obtain ⟨F, A, ρ, w, s, p⟩ := h
  refine chain_core hu ok1 ok2 w s ?_
  cases hr : ev call (.chain o1 o2 ea eb ec) ρ with
  | bad => rw [hr] at p; exact p
  | err x ρ' => rw [hr] at p; exact p
  | ok d ρ' =>
    rw [hr] at p
    obtain ⟨k, rfl⟩ := chain_bl hr
    exact ⟨k, rfl, fun F' H' A' e s' q => p (.bl k) F' H' A' no (by rw [cup_no']; exact e) s' (.fz (.bl k)) (fun z => by simp [shares] at z) (fun _ => Dj.no_r) q⟩
theorem pt_chainE (hu : X.A.units + 65 < cLine) {o1 o2 : CmpOp} {ea eb ec : E} {a b c : Expr} {pos : Pos} (hm : lastMarks [o1, o2] [b, c] = false) (ha : PE X a (tE X.K mg call ea W)) (hb : PE X b (tE X.K mg call eb W)) (hc : PE X c (tE X.K mg call ec W)) :
    PT X (.Compare a [o1, o2] [b, c] pos) (tT X.K mg call (.chain o1 o2 ea eb ec) W) := by
  obtain ⟨r1, hr1, ok1⟩ := cmp_ok (X := X) (mg := mg) hu o1
  obtain ⟨r2, hr2, ok2⟩ := cmp_ok (X := X) (mg := mg) hu o2
  refine PT.weak (pt_chain hr1 hr2 ha hb hc hm) fun σ H Q h => ?_
  obtain ⟨F, A, ρ, w, s, p⟩ := h
  refine chain_core hu ok1 ok2 w s ?_
  cases hr : ev call (.chain o1 o2 ea eb ec) ρ with
  | bad => rw [hr] at p; exact p
  | err x ρ' => rw [hr] at p; exact p
  | ok d ρ' =>
    rw [hr] at p
    obtain ⟨k, rfl⟩ := chain_bl hr
    obtain ⟨k', hk, p⟩ := p
    simp only [truD, Option.some.injEq] at hk
    subst hk
    exact ⟨k, rfl, fun F' H' A' e s' q => ⟨k, rfl, p F' H' A' e s'⟩⟩
def tChain3 (r1 r2 r3 : R2) (ta tb tc td : TE) : TE := fun σ H Q => ta σ H fun x H1 => tb σ H1 fun y H2 => r1 x y H2 fun z H3 => ∃ k, z = .bl k ∧
  (if k = true then tc σ H3 fun w' H4 => r2 y w' H4 fun z2 H5 => ∃ k2, z2 = .bl k2 ∧ (if k2 = true then td σ H5 fun u' H6 => r3 w' u' H6 Q else Q (.bl false) H5) else Q (.bl false) H3)
theorem pe_chain3 {op1 op2 op3 : CmpOp} {r1 r2 r3 : R2} {a b c d : Expr} {pos : Pos} {ta tb tc td : TE} (h1 : OpR X (compareOp op1) r1) (h2 : OpR X (compareOp op2) r2) (h3 : OpR X (compareOp op3) r3) (ha : PE X a ta) (hb : PE X b tb) (hc : PE X c tc) (hd : PE X d td)
    (hm : lastMarks [op1, op2, op3] [b, c, d] = false) : PE X (.Compare a [op1, op2, op3] [b, c, d] pos) (tChain3 r1 r2 r3 ta tb tc td) := by
  refine ⟨fun pins s σ H Q I h => ?_⟩
  refine Compare_chain (thn (ha.run pins s σ H _ I h) fun v s1 ⟨x, H1, I1, r1, q1⟩ => chain_link (thn (hb.run pins s1 σ H1 _ I1 q1) fun u s2 ⟨y, H2, I2, r2, q2⟩ =>
    thn (h1 pins s2 σ H2 x y v u _ I2 r1 r2 q2) fun d s3 ⟨z, H3, I3, r3, k, e, q3⟩ => ?_)) hm
  subst e
  cases r3
  refine wpAny_truthy_bool ?_
  cases k with
  | false => exact ite_ff ⟨.bl false, H3, I3, rfl, q3⟩
  | true =>
    refine ite_tt (chain_link (thn (hc.run pins s3 σ H3 _ I3 q3) fun w' s4 ⟨z', H4, I4, r4, q4⟩ => thn (h2 pins s4 σ H4 y z' u w' _ I4 r2 r4 q4) fun d2 s5 ⟨z2, H5, I5, r5, k2, e2, q5⟩ => ?_))
    subst e2
    cases r5
    refine wpAny_truthy_bool ?_
    cases k2 with
    | false => exact ite_ff ⟨.bl false, H5, I5, rfl, q5⟩
    | true => exact ite_tt (chain_last (thn (hd.run pins s5 σ H5 _ I5 q5) fun w2 s6 ⟨z3, H6, I6, r6, q6⟩ => h3 pins s6 σ H6 z' z3 w' w2 Q I6 r4 r6 q6))
theorem pt_chain3 {op1 op2 op3 : CmpOp} {r1 r2 r3 : R2} {a b c d : Expr} {pos : Pos} {ta tb tc td : TE} (h1 : OpR X (compareOp op1) r1) (h2 : OpR X (compareOp op2) r2) (h3 : OpR X (compareOp op3) r3) (ha : PE X a ta) (hb : PE X b tb) (hc : PE X c tc) (hd : PE X d td)
    (hm : lastMarks [op1, op2, op3] [b, c, d] = false) : PT X (.Compare a [op1, op2, op3] [b, c, d] pos) (tTest (tChain3 r1 r2 r3 ta tb tc td)) := by
  refine ⟨fun pins s σ H Q I h => ?_⟩
  refine isTrue_chain (thn (ha.run pins s σ H _ I h) fun v s1 ⟨x, H1, I1, r1, q1⟩ => test_link (thn (hb.run pins s1 σ H1 _ I1 q1) fun u s2 ⟨y, H2, I2, r2, q2⟩ =>
    thn (h1 pins s2 σ H2 x y v u _ I2 r1 r2 q2) fun d s3 ⟨z, H3, I3, r3, k, e, q3⟩ => ?_)) hm
  subst e
  cases r3
  refine wpAny_truthy_bool ?_
  cases k with
  | false =>
    obtain ⟨k', e', q'⟩ := q3
    cases e'
    exact ite_ff ⟨H3, I3, q'⟩
  | true =>
    refine ite_tt (test_link (thn (hc.run pins s3 σ H3 _ I3 q3) fun w' s4 ⟨z', H4, I4, r4, q4⟩ => thn (h2 pins s4 σ H4 y z' u w' _ I4 r2 r4 q4) fun d2 s5 ⟨z2, H5, I5, r5, k2, e2, q5⟩ => ?_))
    subst e2
    cases r5
    refine wpAny_truthy_bool ?_
    cases k2 with
    | false =>
      obtain ⟨k', e', q'⟩ := q5
      cases e'
      exact ite_ff ⟨H5, I5, q'⟩
    | true =>
      refine ite_tt (test_last (thn (hd.run pins s5 σ H5 _ I5 q5) fun w2 s6 ⟨z3, H6, I6, r6, q6⟩ => thn (h3 pins s6 σ H6 z' z3 w' w2 _ I6 r4 r6 q6) fun d' s7 ⟨z4, H7, I7, r7, k3, e3, q7⟩ => ?_))
      subst e3
      cases r7
      exact wpAny_truthy_bool ⟨H7, I7, q7⟩
theorem chain3_core (hu : X.A.units + 65 < cLine) {o1 o2 o3 : CmpOp} {ea eb ec ed : E} {r1 r2 r3 : R2} {σ : SG} {H F : Hp} {A : AS} {ρ : Env'} {Q : VK}
    (ok1 : ∀ {F H : Hp} {A B1 B2 : AS} {v1 v2 : V} {d1 d2 : D} {k : Bool} {Q : VK}, Wd F H A → Own X.K mg F H v1 d1 B1 → Own X.K mg F H v2 d2 B2 → cmpB o1 d1 d2 = some k → Q (.bl k) H → r1 v1 v2 H Q)
    (ok2 : ∀ {F H : Hp} {A B1 B2 : AS} {v1 v2 : V} {d1 d2 : D} {k : Bool} {Q : VK}, Wd F H A → Own X.K mg F H v1 d1 B1 → Own X.K mg F H v2 d2 B2 → cmpB o2 d1 d2 = some k → Q (.bl k) H → r2 v1 v2 H Q)
    (ok3 : ∀ {F H : Hp} {A B1 B2 : AS} {v1 v2 : V} {d1 d2 : D} {k : Bool} {Q : VK}, Wd F H A → Own X.K mg F H v1 d1 B1 → Own X.K mg F H v2 d2 B2 → cmpB o3 d1 d2 = some k → Q (.bl k) H → r3 v1 v2 H Q)
    (w : Wd F H A) (s : Slots X.K mg F H σ ρ A)
    (p : PostB X.K mg W F H A σ false ρ (ev call (.chain3 o1 o2 o3 ea eb ec ed) ρ) Q) : tChain3 r1 r2 r3 (tE X.K mg call ea W) (tE X.K mg call eb W) (tE X.K mg call ec W) (tE X.K mg call ed W) σ H Q := by
  simp only [ev] at p
  refine ⟨F, A, ρ, w, s, ?_⟩
  cases ha : ev call ea ρ with
  | bad => simp only [ha, R.bind] at p; exact p.elim
  | err x ρ' => simp only [ha, R.bind] at p; exact p
  | ok x ρ1 =>
  simp only [ha, R.bind] at p
  intro v F1 H1 A1 B1 e1 s1 q1 al1 dj1 qt1
  refine ⟨F1, A1, ρ1, e1.wd.sub Sb.l, s1, ?_⟩
  cases hb : ev call eb ρ1 with
  | bad => simp only [hb] at p; exact p.elim
  | err y ρ' => simp only [hb] at p; exact fun cls dx F' H' A' e' s' y => p cls dx F' H' A' (e1.trans w (e'.more Sb.l)) s' y
  | ok y ρ2 =>
  simp only [hb] at p
  intro u F2 H2 A2 B2 e2 s2 q2 al2 dj2 qt2
  by_cases hp : (x.pure && y.pure) = true
  · rw [if_pos hp] at p
    simp only [Bool.and_eq_true] at hp
    have f1 := Fz.up e2.fsame (q1.fzd hp.1)
    have f2 := q2.fzd hp.2
    have w2 := e2.wd.sub (Sb.l (A := A2) (B := B2))
    have e12 : Ext F H A F2 H2 A2 := e1.trans w ((e2.sub Sb.l).more Sb.l)
    cases hc : cmpB o1 x y with
    | none => simp only [hc] at p; exact p.elim
    | some k =>
    cases k with
    | false =>
      simp only [hc] at p
      refine ok1 w2 (.fz (A := no) f1) (.fz (A := no) f2) hc ⟨false, rfl, ?_⟩
      obtain ⟨k', hk', p⟩ := p
      cases hk'
      exact p F2 H2 A2 e12 s2 fun hq => by cases hq
    | true =>
      simp only [hc] at p
      refine ok1 w2 (.fz (A := no) f1) (.fz (A := no) f2) hc ⟨true, rfl, ?_⟩
      show tE X.K mg call ec W σ H2 _
      refine ⟨F2, A2, ρ2, w2, s2, ?_⟩
      cases hcc : ev call ec ρ2 with
      | bad => simp only [hcc] at p; exact p.elim
      | err z ρ' => simp only [hcc] at p; exact fun cls dx F' H' A' e' s' y => p cls dx F' H' A' (e12.trans w e') s' y
      | ok z ρ3 =>
        simp only [hcc] at p
        intro t F3 H3 A3 B3 e3 s3 q3 al3 dj3 qt3
        by_cases hz : z.pure = true
        · rw [if_pos hz] at p
          have g2 := Fz.up e3.fsame f2
          have g3 := q3.fzd hz
          have w3 := e3.wd.sub (Sb.l (A := A3) (B := B3))
          have e13 : Ext F H A F3 H3 A3 := e12.trans w (e3.sub Sb.l)
          cases hc2 : cmpB o2 y z with
          | none => simp only [hc2] at p; exact p.elim
          | some k =>
          cases k with
          | false =>
            simp only [hc2] at p
            refine ok2 w3 (.fz (A := no) g2) (.fz (A := no) g3) hc2 ⟨false, rfl, ?_⟩
            obtain ⟨k', hk', p⟩ := p
            cases hk'
            exact p F3 H3 A3 e13 s3 fun hq => by cases hq
          | true =>
            simp only [hc2] at p
            refine ok2 w3 (.fz (A := no) g2) (.fz (A := no) g3) hc2 ⟨true, rfl, ?_⟩
            show tE X.K mg call ed W σ H3 _
            refine ⟨F3, A3, ρ3, w3, s3, ?_⟩
            cases hdd : ev call ed ρ3 with
            | bad => simp only [hdd] at p; exact p.elim
            | err z ρ' => simp only [hdd] at p; exact fun cls dx F' H' A' e' s' y => p cls dx F' H' A' (e13.trans w e') s' y
            | ok w4 ρ4 =>
              simp only [hdd] at p
              intro t4 F4 H4 A4 B4 e4 s4 q4 al4 dj4 qt4
              by_cases hw : w4.pure = true
              · rw [if_pos hw] at p
                cases hc3 : cmpO o3 z w4 with
                | none => simp only [hc3, R.of] at p; exact p.elim
                | some d =>
                  simp only [hc3, R.of] at p
                  simp only [cmpO, Option.map_eq_some_iff] at hc3
                  obtain ⟨k2, hk2, rfl⟩ := hc3
                  obtain ⟨k', hk', p⟩ := p
                  cases hk'
                  refine ok3 (e4.wd.sub (Sb.l (A := A4) (B := B4))) (.fz (A := no) (Fz.up e4.fsame g3)) (.fz (A := no) (q4.fzd hw)) hk2 ?_
                  exact p F4 H4 A4 (e13.trans w (e4.sub Sb.l)) s4 fun hq => by cases hq
              · rw [if_neg hw] at p; exact p.elim
        · rw [if_neg hz] at p; exact p.elim
  · rw [if_neg hp] at p; exact p.elim
theorem chain3_bl {o1 o2 o3 : CmpOp} {ea eb ec ed : E} {ρ ρ' : Env'} {d : D} (h : ev call (.chain3 o1 o2 o3 ea eb ec ed) ρ = .ok d ρ') : ∃ k, d = .bl k := by
  simp only [ev] at h
  cases ha : ev call ea ρ with
  | bad => simp [ha, R.bind] at h
  | err x ρ' => simp [ha, R.bind] at h
  | ok x ρ1 =>
  simp only [ha, R.bind] at h
  cases hb : ev call eb ρ1 with
  | bad => simp [hb] at h
  | err x ρ' => simp [hb] at h
  | ok y ρ2 =>
  simp only [hb] at h
  split at h
  · cases hc : cmpB o1 x y with
    | none => simp [hc] at h
    | some k =>
    cases k with
    | false => simp only [hc, R.ok.injEq] at h; exact ⟨false, h.1.symm⟩
    | true =>
      simp only [hc] at h
      cases hcc : ev call ec ρ2 with
      | bad => simp [hcc] at h
      | err x ρ' => simp [hcc] at h
      | ok z ρ3 =>
        simp only [hcc] at h
        split at h
        · cases hc2 : cmpB o2 y z with
          | none => simp [hc2] at h
          | some k =>
          cases k with
          | false => simp only [hc2, R.ok.injEq] at h; exact ⟨false, h.1.symm⟩
          | true =>
            simp only [hc2] at h
            cases hdd : ev call ed ρ3 with
            | bad => simp [hdd] at h
            | err x ρ' => simp [hdd] at h
            | ok w ρ4 =>
              simp only [hdd] at h
              split at h
              · cases hc3 : cmpO o3 z w with
                | none => simp [hc3, R.of] at h
                | some d' =>
                  simp only [hc3, R.of, R.ok.injEq] at h
                  obtain ⟨k, hk⟩ := cmpO_bl hc3
                  exact ⟨k, by rw [← h.1, hk]⟩
              · cases h
        · cases h
  · cases h
theorem pe_chain3E (hu : X.A.units + 65 < cLine) {o1 o2 o3 : CmpOp} {ea eb ec ed : E} {a b c d : Expr} {pos : Pos} (hm : lastMarks [o1, o2, o3] [b, c, d] = false) (ha : PE X a (tE X.K mg call ea W)) (hb : PE X b (tE X.K mg call eb W)) (hc : PE X c (tE X.K mg call ec W)) (hd : PE X d (tE X.K mg call ed W)) :
    PE X (.Compare a [o1, o2, o3] [b, c, d] pos) (tE X.K mg call (.chain3 o1 o2 o3 ea eb ec ed) W) := by
  obtain ⟨r1, hr1, ok1⟩ := cmp_ok (X := X) (mg := mg) hu o1
  obtain ⟨r2, hr2, ok2⟩ := cmp_ok (X := X) (mg := mg) hu o2
  obtain ⟨r3, hr3, ok3⟩ := cmp_ok (X := X) (mg := mg) hu o3
  refine PE.weak (pe_chain3 hr1 hr2 hr3 ha hb hc hd hm) fun σ H Q h => ?_
  obtain ⟨F, A, ρ, w, s, p⟩ := h
  refine chain3_core hu ok1 ok2 ok3 w s ?_
  cases hr : ev call (.chain3 o1 o2 o3 ea eb ec ed) ρ with
  | bad => rw [hr] at p; exact p
  | err x ρ' => rw [hr] at p; exact p
  | ok d ρ' =>
    rw [hr] at p
    obtain ⟨k, rfl⟩ := chain3_bl hr
    exact ⟨k, rfl, fun F' H' A' e s' q => p (.bl k) F' H' A' no (by rw [cup_no']; exact e) s' (.fz (.bl k)) (fun z => by simp [shares] at z) (fun _ => Dj.no_r) (fun z => by simp [quiet] at z)⟩
theorem pt_chain3E (hu : X.A.units + 65 < cLine) {o1 o2 o3 : CmpOp} {ea eb ec ed : E} {a b c d : Expr} {pos : Pos} (hm : lastMarks [o1, o2, o3] [b, c, d] = false) (ha : PE X a (tE X.K mg call ea W)) (hb : PE X b (tE X.K mg call eb W)) (hc : PE X c (tE X.K mg call ec W)) (hd : PE X d (tE X.K mg call ed W)) :
    PT X (.Compare a [o1, o2, o3] [b, c, d] pos) (tT X.K mg call (.chain3 o1 o2 o3 ea eb ec ed) W) := by
  obtain ⟨r1, hr1, ok1⟩ := cmp_ok (X := X) (mg := mg) hu o1
  obtain ⟨r2, hr2, ok2⟩ := cmp_ok (X := X) (mg := mg) hu o2
  obtain ⟨r3, hr3, ok3⟩ := cmp_ok (X := X) (mg := mg) hu o3
  refine PT.weak (pt_chain3 hr1 hr2 hr3 ha hb hc hd hm) fun σ H Q h => ?_
  obtain ⟨F, A, ρ, w, s, p⟩ := h
  refine chain3_core hu ok1 ok2 ok3 w s ?_
  cases hr : ev call (.chain3 o1 o2 o3 ea eb ec ed) ρ with
  | bad => rw [hr] at p; exact p
  | err x ρ' => rw [hr] at p; exact p
  | ok d ρ' =>
    rw [hr] at p
    obtain ⟨k, rfl⟩ := chain3_bl hr
    obtain ⟨k', hk, p⟩ := p
    simp only [truD, Option.some.injEq] at hk
    subst hk
    exact ⟨k, rfl, fun F' H' A' e s' q => ⟨k, rfl, p F' H' A' e s'⟩⟩
end
end VI

namespace VI
variable [Tn]
open PySem PySem.Spec PyProof.Rows L2
section
variable {X : Cx} {mg : Str → Option Value} {call : CallT} {W : WX}
theorem quiets {ρ ρ1 ρ2 : Env'} {H H1 H2 : Hp} {A A1 A2 : AS} (a : ρ1 = ρ ∧ Same H H1 ∧ A1 = A) (b : ρ2 = ρ1 ∧ Same H1 H2 ∧ A2 = A1) : ρ2 = ρ ∧ Same H H2 ∧ A2 = A :=
  ⟨b.1.trans a.1, fun x o h => b.2.1 x o (a.2.1 x o h), b.2.2.trans a.2.2⟩
theorem pe_andE {a b : E} {x y : Expr} {rest : List Expr} {pos : Pos} (ha : PE X x (tE X.K mg call a W)) (hb : PE X (.BoolOp .And (y :: rest) pos) (tE X.K mg call b W)) : PE X (.BoolOp .And (x :: y :: rest) pos) (tE X.K mg call (.and a b) W) := by
  refine PE.weak (pe_and ha hb) fun σ H Q h => ?_
  obtain ⟨F, A, ρ, w, s, p⟩ := h
  refine ⟨F, A, ρ, w, s, ?_⟩
  simp only [ev] at p
  cases hr : ev call a ρ with
  | bad => rw [hr] at p; exact p
  | err z ρ' => rw [hr] at p; exact p
  | ok d ρ1 =>
    rw [hr] at p
    simp only [R.bind] at p
    intro v F1 H1 A1 B1 e1 s1 o1 _ _ q1
    cases d <;> try (exact p.elim)
    case bl k =>
      refine ⟨k, o1.bl, ?_⟩
      have w1 := e1.wd.sub (Sb.l (A := A1) (B := B1))
      have e1' := e1.sub (Sb.l (A := A1) (B := B1))
      cases k with
      | true =>
        rw [if_pos rfl]
        refine ⟨F1, A1, ρ1, w1, s1, ?_⟩
        simp only at p
        cases hb' : ev call b ρ1 with
        | bad => rw [hb'] at p; exact p
        | err z ρ' => rw [hb'] at p; exact fun cls dx F' H' A' e' s' y => p cls dx F' H' A' (e1'.trans w e') s' y
        | ok y ρ2 =>
          rw [hb'] at p
          intro u F2 H2 A2 B2 e2 s2 o2 _ _ q2
          cases y <;> try (exact p.elim)
          case bl k2 =>
            rw [o2.bl]
            exact p (.bl k2) F2 H2 A2 no (by rw [cup_no']; exact e1'.trans w (e2.sub Sb.l)) s2 (.fz (.bl k2)) (fun z => by simp [shares] at z) (fun _ => Dj.no_r) fun hq => by
              simp only [quiet, Bool.and_eq_true] at hq
              exact quiets (q1 hq.1) (q2 hq.2)
      | false =>
        rw [if_neg Bool.false_ne_true]
        exact p (.bl false) F1 H1 A1 no (by rw [cup_no']; exact e1') s1 (.fz (.bl false)) (fun z => by simp [shares] at z) (fun _ => Dj.no_r) fun hq => by
          simp only [quiet, Bool.and_eq_true] at hq
          exact q1 hq.1
theorem pe_orE {a b : E} {x y : Expr} {rest : List Expr} {pos : Pos} (ha : PE X x (tE X.K mg call a W)) (hb : PE X (.BoolOp .Or (y :: rest) pos) (tE X.K mg call b W)) : PE X (.BoolOp .Or (x :: y :: rest) pos) (tE X.K mg call (.or a b) W) := by
  refine PE.weak (pe_or ha hb) fun σ H Q h => ?_
  obtain ⟨F, A, ρ, w, s, p⟩ := h
  refine ⟨F, A, ρ, w, s, ?_⟩
  simp only [ev] at p
  cases hr : ev call a ρ with
  | bad => rw [hr] at p; exact p
  | err z ρ' => rw [hr] at p; exact p
  | ok d ρ1 =>
    rw [hr] at p
    simp only [R.bind] at p
    intro v F1 H1 A1 B1 e1 s1 o1 _ _ q1
    cases d <;> try (exact p.elim)
    case bl k =>
      refine ⟨k, o1.bl, ?_⟩
      have w1 := e1.wd.sub (Sb.l (A := A1) (B := B1))
      have e1' := e1.sub (Sb.l (A := A1) (B := B1))
      cases k with
      | false =>
        rw [if_neg Bool.false_ne_true]
        refine ⟨F1, A1, ρ1, w1, s1, ?_⟩
        simp only at p
        cases hb' : ev call b ρ1 with
        | bad => rw [hb'] at p; exact p
        | err z ρ' => rw [hb'] at p; exact fun cls dx F' H' A' e' s' y => p cls dx F' H' A' (e1'.trans w e') s' y
        | ok y ρ2 =>
          rw [hb'] at p
          intro u F2 H2 A2 B2 e2 s2 o2 _ _ q2
          cases y <;> try (exact p.elim)
          case bl k2 =>
            rw [o2.bl]
            exact p (.bl k2) F2 H2 A2 no (by rw [cup_no']; exact e1'.trans w (e2.sub Sb.l)) s2 (.fz (.bl k2)) (fun z => by simp [shares] at z) (fun _ => Dj.no_r) fun hq => by
              simp only [quiet, Bool.and_eq_true] at hq
              exact quiets (q1 hq.1) (q2 hq.2)
      | true =>
        rw [if_pos rfl]
        exact p (.bl true) F1 H1 A1 no (by rw [cup_no']; exact e1') s1 (.fz (.bl true)) (fun z => by simp [shares] at z) (fun _ => Dj.no_r) fun hq => by
          simp only [quiet, Bool.and_eq_true] at hq
          exact q1 hq.1
theorem pe_oneE {op : BoolOp} {e : E} {x : Expr} {pos : Pos} (h : PE X x (tE X.K mg call e W)) : PE X (.BoolOp op [x] pos) (tE X.K mg call e W) := pe_one h
theorem pw_andE {a b : E} {x y : Expr} {rest : List Expr} {pos : Pos} (ha : PT X x (tT X.K mg call a W)) (hb : PW X (.BoolOp .And (y :: rest) pos) (tT X.K mg call b W)) : PW X (.BoolOp .And (x :: y :: rest) pos) (tT X.K mg call (.and a b) W) := by
  refine PW.weak (pw_and ha hb) fun σ H Q h => ?_
  obtain ⟨F, A, ρ, w, s, p⟩ := h
  refine ⟨F, A, ρ, w, s, ?_⟩
  simp only [ev] at p
  cases hr : ev call a ρ with
  | bad => rw [hr] at p; exact p
  | err z ρ' => rw [hr] at p; exact p
  | ok d ρ1 =>
    rw [hr] at p
    simp only [R.bind] at p
    cases d <;> try (exact p.elim)
    case bl k =>
      refine ⟨k, rfl, fun F1 H1 A1 e1 s1 => ?_⟩
      cases k with
      | true =>
        rw [if_pos rfl]
        refine ⟨F1, A1, ρ1, e1.wd, s1, ?_⟩
        simp only at p
        cases hb' : ev call b ρ1 with
        | bad => rw [hb'] at p; exact p
        | err z ρ' => rw [hb'] at p; exact fun cls dx F' H' A' e' s' y => p cls dx F' H' A' (e1.trans w e') s' y
        | ok y ρ2 =>
          rw [hb'] at p
          cases y <;> try (exact p.elim)
          case bl k2 =>
            obtain ⟨k', hk, p⟩ := p
            simp only [truD, Option.some.injEq] at hk
            subst hk
            exact ⟨k2, rfl, fun F2 H2 A2 e2 s2 => p F2 H2 A2 (e1.trans w e2) s2⟩
      | false =>
        rw [if_neg Bool.false_ne_true]
        obtain ⟨k', hk, p⟩ := p
        simp only [truD, Option.some.injEq] at hk
        subst hk
        exact p F1 H1 A1 e1 s1
theorem pw_orE {a b : E} {x y : Expr} {rest : List Expr} {pos : Pos} (ha : PT X x (tT X.K mg call a W)) (hb : PW X (.BoolOp .Or (y :: rest) pos) (tT X.K mg call b W)) : PW X (.BoolOp .Or (x :: y :: rest) pos) (tT X.K mg call (.or a b) W) := by
  refine PW.weak (pw_or ha hb) fun σ H Q h => ?_
  obtain ⟨F, A, ρ, w, s, p⟩ := h
  refine ⟨F, A, ρ, w, s, ?_⟩
  simp only [ev] at p
  cases hr : ev call a ρ with
  | bad => rw [hr] at p; exact p
  | err z ρ' => rw [hr] at p; exact p
  | ok d ρ1 =>
    rw [hr] at p
    simp only [R.bind] at p
    cases d <;> try (exact p.elim)
    case bl k =>
      refine ⟨k, rfl, fun F1 H1 A1 e1 s1 => ?_⟩
      cases k with
      | false =>
        rw [if_neg Bool.false_ne_true]
        refine ⟨F1, A1, ρ1, e1.wd, s1, ?_⟩
        simp only at p
        cases hb' : ev call b ρ1 with
        | bad => rw [hb'] at p; exact p
        | err z ρ' => rw [hb'] at p; exact fun cls dx F' H' A' e' s' y => p cls dx F' H' A' (e1.trans w e') s' y
        | ok y ρ2 =>
          rw [hb'] at p
          cases y <;> try (exact p.elim)
          case bl k2 =>
            obtain ⟨k', hk, p⟩ := p
            simp only [truD, Option.some.injEq] at hk
            subst hk
            exact ⟨k2, rfl, fun F2 H2 A2 e2 s2 => p F2 H2 A2 (e1.trans w e2) s2⟩
      | true =>
        rw [if_pos rfl]
        obtain ⟨k', hk, p⟩ := p
        simp only [truD, Option.some.injEq] at hk
        subst hk
        exact p F1 H1 A1 e1 s1
theorem PostE.pre {F H F1 H1 : Hp} {A A1 : AS} {σ : SG} {q q' al al' : Bool} {ρ ρ1 : Env'} {r : R D} {Q : VK} {K : PySem.W.Frag} (w : Wd F H A) (e1 : Ext F H A F1 H1 A1) (q1 : q = true → q' = true ∧ (ρ1 = ρ ∧ Same H H1 ∧ A1 = A))
    (hal : al = al') (p : PostE K mg W F H A σ q al ρ r Q) : PostE K mg W F1 H1 A1 σ q' al' ρ1 r Q := by
  subst hal
  cases r with
  | bad => exact p
  | err x ρ' => exact PX.trans w e1 p
  | ok d ρ' =>
    intro v F2 H2 A2 B2 e2 s2 o2 a2 d2 q2
    exact p v F2 H2 A2 B2 (e1.trans w e2) s2 o2 a2 d2 fun hq => quiets (q1 hq).2 (q2 (q1 hq).1)
theorem pe_ifxE {c a b : E} {xc xa xb : Expr} {pos : Pos} (hc : PT X xc (tT X.K mg call c W)) (ha : PE X xa (tE X.K mg call a W)) (hb : PE X xb (tE X.K mg call b W)) : PE X (.IfExp xc xa xb pos) (tE X.K mg call (.ifx c a b) W) := by
  refine PE.weak (pe_ifExp hc ha hb) fun σ H Q h => ?_
  obtain ⟨F, A, ρ, w, s, p⟩ := h
  refine ⟨F, A, ρ, w, s, ?_⟩
  have hq : quiet (.ifx c a b) = false := by simp only [quiet]
  rw [hq] at p
  have hal : shares (.ifx c a b) = false := by simp only [shares]
  rw [hal] at p
  simp only [ev] at p
  cases hr : ev call c ρ with
  | bad => rw [hr] at p; exact p
  | err z ρ' => rw [hr] at p; exact p
  | ok d ρ1 =>
    rw [hr] at p
    simp only [R.bind] at p
    cases hk : truD d with
    | none => rw [hk] at p; exact p.elim
    | some k =>
      rw [hk] at p
      refine ⟨k, hk, fun F1 H1 A1 e1 s1 => ?_⟩
      have go : ∀ e' : E, PostE X.K mg W F H A σ false false ρ ((ev call e' ρ1).bind fun y ρ2 => if (!shares e' || y.pure) = true then R.ok y ρ2 else R.bad) Q → tE X.K mg call e' W σ H1 Q := fun e' p => by
        refine ⟨F1, A1, ρ1, e1.wd, s1, ?_⟩
        cases he : ev call e' ρ1 with
        | bad => rw [he] at p; exact p
        | err z ρ' => rw [he] at p; exact PX.trans w e1 p
        | ok y ρ2 =>
          rw [he] at p
          simp only [R.bind] at p
          by_cases hcd : (!shares e' || y.pure) = true
          · rw [if_pos hcd] at p
            intro v F2 H2 A2 B2 e2 s2 o2 a2 d2 _
            by_cases hae : shares e' = false
            · exact p v F2 H2 A2 B2 (e1.trans w e2) s2 o2 (fun z => by cases z) (fun _ => d2 hae) fun z => by cases z
            · have hp : y.pure = true := by
                cases hh : shares e' with
                | false => exact absurd hh hae
                | true => simpa [hh] using hcd
              exact p v F2 H2 A2 no (by rw [cup_no']; exact e1.trans w (e2.sub Sb.l)) s2 (.fz (o2.fzd hp)) (fun z => by cases z) (fun _ => Dj.no_r) fun z => by cases z
          · rw [if_neg hcd] at p; exact p.elim
      cases k with
      | true => exact iteT (go a p)
      | false => exact iteF (go b p)
theorem pe_tupE {es : List E} {as : List Expr} {kk : Nat} {pos : Pos} (h : PEs X (fun e => tE X.K mg call e W) es as) : PE X (.Tuple as kk pos) (tE X.K mg call (.tup es) W) := by
  refine PE.weak (pe_tup h.paC) fun σ H Q h => ?_
  obtain ⟨F, A, ρ, w, s, p⟩ := h
  refine seqC es w s ?_
  simp only [ev] at p
  cases hr : evC call es ρ with
  | bad => simp only [hr, R.bind, PostE] at p
  | err z ρ' => simp only [hr, R.bind, PostE] at p; exact p
  | ok ds ρ' =>
    simp only [hr, R.bind] at p
    by_cases hc : (pureL ds && decide (ds.length ≤ lim)) = true
    · rw [if_pos hc] at p
      simp only [Bool.and_eq_true, decide_eq_true_eq] at hc
      intro vs F1 H1 A1 B1 e1 s1 o1 d1 q1
      have f1 := o1.fzd hc.1
      refine ⟨by rw [szl, f1.len]; exact hc.2, fun q hq => ?_⟩
      have w1 := e1.wd.sub (Sb.l (A := A1) (B := B1))
      have e2 := Ext.laidF (o := .tup vs) w1 hq
      refine p (.ref q) _ _ A1 no (by rw [cup_no']; exact (e1.sub Sb.l).trans w e2) (Slots.move e2.fsame s1 fun a o _ h => ?_) (.fz (.tup upd_same (FzL.up e2.fsame f1))) (fun z => by simp [shares] at z) (fun _ => Dj.no_r) fun hq' => ?_
      · rw [upd_ne (ne_of_none h hq)]; exact h
      · obtain ⟨t1, t2, t3⟩ := q1 (by simpa [quiet] using hq')
        exact ⟨t1, fun a o h => by rw [upd_ne (ne_of_none (t2 a o h) hq)]; exact t2 a o h, t3⟩
    · rw [if_neg hc] at p; exact p.elim
theorem pe_lstE {es : List E} {as : List Expr} {pos : Pos} (h : PEs X (fun e => tE X.K mg call e W) es as) : PE X (.List as pos) (tE X.K mg call (.lst es) W) := by
  refine PE.weak (pe_lst h.paC) fun σ H Q h => ?_
  obtain ⟨F, A, ρ, w, s, p⟩ := h
  refine seqC es w s ?_
  simp only [ev] at p
  cases hr : evC call es ρ with
  | bad => simp only [hr, R.bind, PostE] at p
  | err z ρ' => simp only [hr, R.bind, PostE] at p; exact p
  | ok ds ρ' =>
    simp only [hr, R.bind] at p
    by_cases hc : ds.length ≤ lim
    · rw [if_pos hc] at p
      intro vs F1 H1 A1 B1 e1 s1 o1 d1 q1
      refine ⟨by rw [szl, o1.len]; exact hc, fun q hq => ?_⟩
      have e2 := Ext.laid (o := .lst vs) e1.wd hq
      have keep : ∀ a o, H1 a = some o → upd H1 q (.lst vs) a = some o := fun a o h => by rw [upd_ne (ne_of_none h hq)]; exact h
      have nq : ∀ a, A1 a ∨ B1 a → a ≠ q := fun a h => e1.wd.nq h hq
      have eq : cup (fun a => a = q) (cup A1 B1) = cup A1 (cup (fun a => a = q) B1) := funext fun a => propext ⟨fun h => h.elim (fun h => .inr (.inl h)) fun h => h.elim .inl fun h => .inr (.inr h), fun h => h.elim (fun h => .inr (.inl h)) fun h => h.elim .inl fun h => .inr (.inr h)⟩
      rw [eq] at e2
      refine p (.ref q) _ _ A1 (cup (fun a => a = q) B1) (e1.trans w e2) (Slots.move e2.fsame s1 fun a o _ h => keep a o h) (.lst upd_same (.inl rfl) (fun z => nq q (.inr z) rfl) Sb.r (OwnL.move e2.fsame (fun a o _ h => keep a o h) o1)) (fun z => by simp [shares] at z) (fun _ a x y => ?_) fun hq' => ?_
      · rcases y with y | y
        · exact nq a (.inl x) y
        · exact d1 a x y
      · obtain ⟨t1, t2, t3⟩ := q1 (by simpa [quiet] using hq')
        exact ⟨t1, fun a o h => keep a o (t2 a o h), t3⟩
    · rw [if_neg hc] at p; exact p.elim

/-! ### calls -/
def PostF (K : PySem.W.Frag) (mg : Str → Option Value) (F H : Hp) (A : AS) (vs : List V) (r : FR) (Q : VK) (E : XK) : Prop := match r with
  | .ok d outs => ∀ v F' H' A' B, Ext F H A F' H' (cup A' B) → Slots K mg F' H' (vs.map some) outs A' → Own K mg F' H' v d B → Dj A' B → Q v H'
  | .err x outs => ∀ cls dx F' H' A', Ext F H A F' H' A' → Slots K mg F' H' (vs.map some) outs A' → XOk K mg F' H' cls dx x → E cls dx H'
  | .bad => False
def spC (K : PySem.W.Frag) (mg : Str → Option Value) (call : CallT) (f : Str) (np : Nat) : Sp := fun vs H Q E => vs.length = np ∧ ∃ F A ds, Wd F H A ∧ OwnL K mg F H vs ds A ∧ PostF K mg F H A vs (call f ds) Q E
inductive ArL (K : PySem.W.Frag) (mg : Str → Option Value) (F H : Hp) (σ : SG) : List V → List Ar → AS → Prop
  | nil {B} : ArL K mg F H σ [] [] B
  | val {v d vs as B1 B2 B} : Own K mg F H v d B1 → ArL K mg F H σ vs as B2 → Dj B1 B2 → Sb B1 B → Sb B2 B → ArL K mg F H σ (v :: vs) (.val d :: as) B
  | lnt {i v vs as B} : σ[i]? = some (some v) → ArL K mg F H σ vs as B → ArL K mg F H σ (v :: vs) (.lnt i :: as) B
theorem ArL.move {K : PySem.W.Frag} {F H F' H' : Hp} {σ : SG} {vs : List V} {as : List Ar} {B : AS} (sf : Same F F') (h : ArL K mg F H σ vs as B) : (∀ a o, B a → H a = some o → H' a = some o) → ArL K mg F' H' σ vs as B := by
  induction h with
  | nil => intro _; exact .nil
  | val o _ d s1 s2 ih => intro k; exact .val (Own.move sf (fun a u b => k a u (s1 a b)) o) (ih fun a u b => k a u (s2 a b)) d s1 s2
  | lnt h _ ih => intro k; exact .lnt h (ih k)
def tAs (K : PySem.W.Frag) (mg : Str → Option Value) (call : CallT) (W : WX) : List E → TA
  | [] => fun _ H Q => Q [] H
  | e :: es => fun σ H Q => (match lendOf e with | some i => tVar i | none => tE K mg call e W) σ H fun x H1 => tAs K mg call W es σ H1 fun xs H2 => Q (x :: xs) H2
def PostA (K : PySem.W.Frag) (mg : Str → Option Value) (W : WX) (F H : Hp) (A : AS) (σ : SG) (r : R (List Ar)) (G : List V → Hp → Prop) : Prop := match r with
  | .ok ars ρ' => ∀ vs F' H' A' B, Ext F H A F' H' (cup A' B) → Slots K mg F' H' σ ρ' A' → ArL K mg F' H' σ vs ars B → Dj A' B → G vs H'
  | .err x ρ' => PX K mg W F H A σ x ρ'
  | .bad => False
theorem seqA : ∀ (es : List E) {σ : SG} {H F : Hp} {A : AS} {ρ : Env'} {G : List V → Hp → Prop}, Wd F H A → Slots X.K mg F H σ ρ A → PostA X.K mg W F H A σ (evA call es ρ) G → tAs X.K mg call W es σ H G
  | [], σ, H, F, A, ρ, G, w, s, p => by
    simp only [evA] at p
    exact p [] F H A no (by rw [cup_no']; exact Ext.refl w) s .nil Dj.no_r
  | e :: es, σ, H, F, A, ρ, G, w, s, p => by
    simp only [evA] at p
    cases hv : lendOf e with
    | some i =>
      simp only [hv] at p
      cases hr0 : ρ[i]? with
      | none => rw [hr0] at p; exact p.elim
      | some o0 =>
      cases o0 with
      | none => rw [hr0] at p; exact p.elim
      | some d0 =>
      rw [hr0] at p
      simp only at p
      obtain ⟨v, A1, A2, h1, h2, _, _, h5, _⟩ := s.get hr0
      show (match lendOf e with | some i => tVar i | none => tE X.K mg call e W) σ H fun x H1 => tAs X.K mg call W es σ H1 fun xs H2 => G (x :: xs) H2
      rw [hv]
      refine ⟨v, h1, ?_⟩
      refine seqA es w s ?_
      cases hr : evA call es ρ with
      | bad => rw [hr] at p; exact p
      | err x ρ' => rw [hr] at p; exact p
      | ok ars ρ2 =>
        rw [hr] at p
        intro vs F' H' A' B ex s' al dj
        exact p (v :: vs) F' H' A' B ex s' (.lnt h1 al) dj
    | none =>
      simp only [hv] at p
      show (match lendOf e with | some i => tVar i | none => tE X.K mg call e W) σ H fun x H1 => tAs X.K mg call W es σ H1 fun xs H2 => G (x :: xs) H2
      rw [hv]
      refine ⟨F, A, ρ, w, s, ?_⟩
      cases h1 : ev call e ρ with
      | bad => rw [h1] at p; exact p
      | err x ρ' => rw [h1] at p; exact p
      | ok d ρ1 =>
        rw [h1] at p
        simp only [R.bind] at p
        intro v F1 H1 A1 B e1 s1 o1 al1 dj1 q1
        refine seqA es (e1.wd.sub Sb.l) s1 ?_
        cases h2 : evA call es ρ1 with
        | bad => rw [h2] at p; exact p
        | err x ρ' => rw [h2] at p; exact fun cls dx F' H' A' e' s' y => p cls dx F' H' A' (e1.trans w (e'.more Sb.l)) s' y
        | ok ars ρ2 =>
          rw [h2] at p
          simp only at p
          by_cases hc : (!shares e || d.pure) = true
          · rw [if_pos hc] at p
            intro vs F2 H2 A2 B2 e2 s2 ol dj2
            by_cases ha : shares e = false
            · have dj := dj1 ha
              obtain ⟨f1, f2⟩ := Ext.frame e1.wd dj e2
              have f3 : Ext F H A F2 H2 (cup (cup A2 B2) B) := e1.trans w f1
              have eqs : cup (cup A2 B2) B = cup A2 (cup B B2) := funext fun a => propext ⟨fun h => h.elim (fun h => h.elim .inl fun h => .inr (.inr h)) fun h => .inr (.inl h), fun h => h.elim (fun h => .inl (.inl h)) fun h => h.elim .inr fun h => .inl (.inr h)⟩
              rw [eqs] at f3
              refine p (v :: vs) F2 H2 A2 (cup B B2) f3 s2 (.val (Own.ext e2 dj o1) ol (fun a x y => f2 a (.inr y) x) Sb.l Sb.r) (fun a x y => ?_)
              rcases y with y | y
              · exact f2 a (.inl x) y
              · exact dj2 a x y
            · have hp : d.pure = true := by
                cases hal : shares e with
                | false => exact absurd hal ha
                | true => simpa [hal] using hc
              have fz := Fz.up e2.fsame (o1.fzd hp)
              exact p (v :: vs) F2 H2 A2 B2 (e1.trans w (e2.more Sb.l)) s2 (.val (B1 := no) (B2 := B2) (.fz fz) ol Dj.no_l Sb.no_l Sb.rfl') dj2
          · rw [if_neg hc] at p; exact p.elim
theorem fetch_ok {K : PySem.W.Frag} {F H : Hp} {σ : SG} : ∀ {ars : List Ar} {vs : List V} {B A : AS} {ρ ρ2 : Env'} {ds : List D}, Slots K mg F H σ ρ A → ArL K mg F H σ vs ars B → Dj A B → fetch ars ρ = some (ds, ρ2) →
    ∃ A1 A2, OwnL K mg F H vs ds (cup A1 B) ∧ Slots K mg F H σ ρ2 A2 ∧ Dj A1 A2 ∧ Sb A1 A ∧ Sb A2 A
  | [], _, B, A, ρ, ρ2, ds, s, .nil, dj, h => by
    simp only [fetch, Option.some.injEq, Prod.mk.injEq] at h
    obtain ⟨rfl, rfl⟩ := h
    exact ⟨no, A, .nil, s, Dj.no_l, Sb.no_l, Sb.rfl'⟩
  | .val d :: r, _, B, A, ρ, ρ2, ds, s, .val (B1 := B1) (B2 := B2) o al d12 s1 s2, dj, h => by
    simp only [fetch, Option.map_eq_some_iff] at h
    obtain ⟨⟨ds', ρ'⟩, h1, h2⟩ := h
    cases h2
    obtain ⟨A1, A2, ol, sl, d2, e1, e2⟩ := fetch_ok s al (dj.sub Sb.rfl' s2) h1
    refine ⟨A1, A2, .cons o ol (fun a x y => ?_) (fun a x => .inr (s1 a x)) (fun a x => x.elim .inl fun x => .inr (s2 a x)), sl, d2, e1, e2⟩
    rcases y with y | y
    · exact dj a (e1 a y) (s1 a x)
    · exact d12 a x y
  | .lnt i :: r, _, B, A, ρ, ρ2, ds, s, .lnt (v := v) hv al, dj, h => by
    simp only [fetch] at h
    cases hi : ρ[i]? with
    | none => rw [hi] at h; cases h
    | some o =>
    cases o with
    | none => rw [hi] at h; cases h
    | some d =>
      rw [hi] at h
      simp only [Option.map_eq_some_iff] at h
      obtain ⟨⟨ds', ρ'⟩, h1, h2⟩ := h
      cases h2
      obtain ⟨v', C1, C2, g1, g2, g3, g4, g5, g6⟩ := s.get hi
      rw [hv] at g1
      cases g1
      obtain ⟨A1, A2, ol, sl, d2, e1, e2⟩ := fetch_ok g3 al (dj.sub g6 Sb.rfl') h1
      refine ⟨cup C1 A1, A2, .cons g2 ol (fun a x y => ?_) (fun a x => .inl (.inl x)) (fun a x => x.elim (fun x => .inl (.inr x)) .inr), sl, fun a x y => ?_, fun a x => x.elim (g5 a) fun x => g6 a (e1 a x), fun a x => g6 a (e2 a x)⟩
      · rcases y with y | y
        · exact g4 a x (e1 a y)
        · exact dj a (g5 a x) y
      · rcases x with x | x
        · exact g4 a x (e2 a y)
        · exact d2 a x y
theorem back_ok {K : PySem.W.Frag} {F H : Hp} {σ : SG} : ∀ {ars : List Ar} {vs : List V} {outs : List (Option D)} {ρ : Env'} {A B : AS}, (∀ (k : Nat) (i : Nat), ars[k]? = some (.lnt i) → ∃ v, vs[k]? = some v ∧ σ[i]? = some (some v)) →
    Slots K mg F H σ ρ A → Slots K mg F H (vs.map some) outs B → Dj A B → ∃ C, Slots K mg F H σ (back ars outs ρ) C ∧ Sb C (cup A B)
  | [], vs, outs, ρ, A, B, _, s, t, dj => ⟨A, by simpa [back] using s, Sb.l⟩
  | .val d :: r, vs, [], ρ, A, B, _, s, t, dj => ⟨A, by simpa [back] using s, Sb.l⟩
  | .lnt i :: r, vs, [], ρ, A, B, _, s, t, dj => ⟨A, by simpa [back] using s, Sb.l⟩
  | .val d :: r, [], o :: os, ρ, A, B, _, s, t, dj => by cases t
  | .lnt i :: r, [], o :: os, ρ, A, B, _, s, t, dj => by cases t
  | .val d :: r, v :: vs, o :: os, ρ, A, B, h, s, t, dj => by
    simp only [back]
    have h' : ∀ (k : Nat) (i : Nat), r[k]? = some (.lnt i) → ∃ v, vs[k]? = some v ∧ σ[i]? = some (some v) := fun k i e => by simpa using h (k + 1) i (by simpa using e)
    cases t with
    | skip t => exact back_ok h' s t dj
    | cons _ t _ _ c =>
      obtain ⟨C, h1, h2⟩ := back_ok h' s t (dj.sub Sb.rfl' c)
      exact ⟨C, h1, fun a x => (h2 a x).imp id (c a)⟩
  | .lnt i :: r, v :: vs, o :: os, ρ, A, B, h, s, t, dj => by
    simp only [back]
    have h' : ∀ (k : Nat) (i : Nat), r[k]? = some (.lnt i) → ∃ v, vs[k]? = some v ∧ σ[i]? = some (some v) := fun k i e => by simpa using h (k + 1) i (by simpa using e)
    obtain ⟨v', e1, hv⟩ := h 0 i rfl
    cases e1
    cases t with
    | skip t => exact back_ok h' (s.gone i) t dj
    | @cons _ d _ _ B1 B2 _ x t a b c =>
      have s2 := put_back hv x s fun z p q => dj z q (b z p)
      obtain ⟨C, h1, h2⟩ := back_ok h' s2 t fun z p q => by
        rcases p with p | p
        · exact a z p q
        · exact dj z p (c z q)
      exact ⟨C, h1, fun z p => (h2 z p).elim (fun q => q.elim (fun q => .inr (b z q)) .inl) fun q => .inr (c z q)⟩
theorem ArL.lnts {K : PySem.W.Frag} {F H : Hp} {σ : SG} {vs : List V} {ars : List Ar} {B : AS} (h : ArL K mg F H σ vs ars B) : ∀ (k : Nat) (i : Nat), ars[k]? = some (.lnt i) → ∃ v, vs[k]? = some v ∧ σ[i]? = some (some v) := by
  induction h with
  | nil => intro k i e; simp at e
  | val _ _ _ _ _ ih =>
    intro k i e
    cases k with
    | zero => simp at e
    | succ k => simpa using ih k i (by simpa using e)
  | lnt hv _ ih =>
    intro k i e
    cases k with
    | zero => simp at e; subst e; exact ⟨_, rfl, hv⟩
    | succ k => simpa using ih k i (by simpa using e)
theorem ArL.len {K : PySem.W.Frag} {F H : Hp} {σ : SG} {vs : List V} {ars : List Ar} {B : AS} (h : ArL K mg F H σ vs ars B) : vs.length = ars.length := by
  induction h with
  | nil => rfl
  | val _ _ _ _ _ ih => simp [ih]
  | lnt _ _ ih => simp [ih]
theorem evA_len : ∀ {es : List E} {ρ ρ' : Env'} {ars : List Ar}, evA call es ρ = .ok ars ρ' → ars.length = es.length
  | [], ρ, ρ', ars, h => by simp only [evA, R.ok.injEq] at h; rw [← h.1]; rfl
  | e :: es, ρ, ρ', ars, h => by
    simp only [evA] at h
    cases hv : lendOf e with
    | some i =>
      simp only [hv] at h
      split at h
      · cases h2 : evA call es ρ with
        | bad => rw [h2] at h; cases h
        | err x ρ' => rw [h2] at h; cases h
        | ok as ρ2 =>
          rw [h2] at h
          simp only [R.bind, R.ok.injEq] at h
          rw [← h.1, List.length_cons, evA_len h2, List.length_cons]
      · cases h
    | none =>
      simp only [hv] at h
      cases h1 : ev call e ρ with
      | bad => rw [h1] at h; cases h
      | err x ρ' => rw [h1] at h; cases h
      | ok d ρ1 =>
        rw [h1] at h
        simp only [R.bind] at h
        cases h2 : evA call es ρ1 with
        | bad => rw [h2] at h; cases h
        | err x ρ' => rw [h2] at h; cases h
        | ok as ρ2 =>
          rw [h2] at h
          simp only at h
          split at h
          · simp only [R.ok.injEq] at h
            rw [← h.1, List.length_cons, evA_len h2, List.length_cons]
          · cases h
theorem pe_callE {n : Nat} {f : Str} {np : Nat} {es : List E} {a : Expr} {as : List Expr} {p pos : Pos} {fa : Addr} {fd : FuncData} {ps : List Str} (hF : FnOk X.prog X.w X.K X.mg X.base (L2.CX X.prog X.w) n fa fd ps (spC X.K mg call f np)) (hr : Room n X.A) (hg : Gl X f) (hm : X.mg f = some (.ref fa))
    (hk : PySem.W.keepIn X.K (.ref fa) = true) (hb : Binds X.K fd ps []) (tk : Takes X W) (hd : (f == ("__debug__" : Str)) = false) (hn : es.length = np) (hs : (a :: as).all noStar = true) (ha : PA X (a :: as) (tAs X.K mg call W es)) :
    PE X (.Call (.Name f p) (a :: as) [] pos) (tE X.K mg call (.call f es) W) := by
  simp only [List.all_cons, Bool.and_eq_true] at hs
  refine PE.weak (pe_callSD (E := fun σ cls d H => W cls d σ H) hF hr hg hm hk hb .nil (fun σ => passAt tk σ) ha hd (starEach_cons hs.1 as X.env) (back_none hs.2)) fun σ H Q h => ?_
  obtain ⟨F, A, ρ, w, s, p⟩ := h
  refine seqA es w s ?_
  simp only [ev] at p
  cases hA : evA call es ρ with
  | bad => simp only [hA, R.bind, PostE] at p
  | err x ρ' => simp only [hA, R.bind, PostE] at p; exact p
  | ok ars ρ1 =>
    simp only [hA, R.bind] at p
    intro vs F1 H1 A1 B e1 s1 al dj
    cases hf : fetch ars ρ1 with
    | none => simp only [hf, PostE] at p
    | some q =>
      obtain ⟨ds, ρ2⟩ := q
      simp only [hf] at p
      obtain ⟨C1, C2, ol, s2, d2, i1, i2⟩ := fetch_ok s1 al dj hf
      rw [List.append_nil]
      refine ⟨?_, F1, cup C1 B, ds, e1.wd.sub (fun z x => x.elim (fun x => .inl (i1 z x)) .inr), ol, ?_⟩
      · rw [al.len, ← hn]
        exact evA_len hA
      have dC : Dj (cup C1 B) C2 := fun z x y => x.elim (fun x => d2 z x y) fun x => dj z (i2 z y) x
      have wC : Wd F1 H1 (cup (cup C1 B) C2) := e1.wd.sub fun z x => x.elim (fun x => x.elim (fun x => .inl (i1 z x)) .inr) fun x => .inl (i2 z x)
      have eC : Ext F H A F1 H1 (cup (cup C1 B) C2) := e1.sub fun z x => x.elim (fun x => x.elim (fun x => .inl (i1 z x)) .inr) fun x => .inl (i2 z x)
      cases hc : call f ds with
      | bad => simp only [hc, PostE] at p
      | err x outs =>
        simp only [hc, PostE] at p
        intro cls dx F' H' A' e' so y
        obtain ⟨g1, g2⟩ := Ext.frame wC dC e'
        have s3 := Slots.ext e' dC s2
        obtain ⟨G, h1, h2⟩ := back_ok (ars := ars) al.lnts s3 so g2.symm
        exact p cls dx F' H' G ((eC.trans w g1).sub fun z x => (h2 z x).symm) h1 y
      | ok d outs =>
        simp only [hc, PostE] at p
        intro v F' H' A' B' e' so o db
        obtain ⟨g1, g2⟩ := Ext.frame wC dC e'
        have s3 := Slots.ext e' dC s2
        obtain ⟨G, h1, h2⟩ := back_ok (ars := ars) al.lnts s3 so (fun z x y => g2 z (.inl y) x)
        refine p v F' H' G B' ((eC.trans w g1).sub fun z x => ?_) h1 o (fun z => by simp [shares] at z) (fun _ z x y => ?_) fun z => by simp [quiet] at z
        · rcases x with x | x
          · exact (h2 z x).elim .inr fun y => .inl (.inl y)
          · exact .inl (.inr x)
        · rcases h2 z x with x | x
          · exact g2 z (.inr y) x
          · exact db z x y
end
end VI

namespace PySem
open Sem (wp)
open AutoSeq1 (wpAny_loadPart')
set_option maxHeartbeats 1000000 in
theorem VI_enum_new {v : Value} {o : Obj} {H : Heap → Prop} (B : Begins v o H) :
    Meets (Builtin.«enumerate.__new__» ⟨[.type "enumerate", v], []⟩) (fun _ R s => H s.heap ∧
      R (.ok (.ret (.ref (s.heap.push o).objs.size))) { s with heap := (s.heap.push o).push { cls := .type "enumerate", data := .fields #[.none, .bool false, .ref s.heap.objs.size, rawInt 0, .none, .none] } }) :=
  .of_wp fun prog w A R s h => by
    obtain ⟨hp, g, d, tk, os⟩ := s; obtain ⟨h1, h⟩ := h
    have hsub := sub_enumerate
    have q1 : ∀ {A' : Around} {E : Value → Shared → Prop} {Q : Value → Shared → Prop}, Q (.ref hp.objs.size) ⟨hp.push o, g, d, tk, os⟩ → wpAny (model prog w) A' (pyIter v) Q E ⟨hp, g, d, tk, os⟩ :=
      fun q => B.iter prog w _ _ ⟨hp, g, d, tk, os⟩ _ h1 q
    wp_walk using q1
    refine wpAny_stack_any fun st => wpAny_pure ?_
    split
    · rename_i c _ _ _ _ _
      cases (c == Value.type "enumerate")
      · wp_walk using q1
        exact ⟨_, rfl, h⟩
      · wp_walk using q1
        exact ⟨_, rfl, h⟩
    · wp_walk using q1
      exact ⟨_, rfl, h⟩
theorem VI_enum_call {prog : Program} {w : World} {A : Around} {E : Value → Shared → Prop} {s : Shared} {v : Value} {o : Obj} {H : Heap → Prop} {Q : Value → Shared → Prop} (B : Begins v o H) (h1 : H s.heap)
    (h : ∀ h', IsEnum h' (s.heap.objs.size + 1) s.heap.objs.size 0 .none → h'.get? s.heap.objs.size = some o → h'.objs.size = s.heap.objs.size + 2 →
      (∀ b o, s.heap.get? b = some o → h'.get? b = some o) → Q (.ref (s.heap.objs.size + 1)) { s with heap := h' }) :
    wpAny (model prog w) A (call (.type "enumerate") [v]) Q E s := by
  refine callType_new F.called_enumerate (by decide) (F.typeCall_enumerate_1 _) (F.newCall_enumerate_1 _) (fun obj => F.args_object_init_2 obj _) F.entry_enumerate_new
    (VI_enum_new B) ⟨h1, ?_⟩
  have hz : (s.heap.push o).objs.size = s.heap.objs.size + 1 := Heap.size_push ..
  show _ ∧ _
  rw [hz]
  have he : IsEnum ((s.heap.push o).push { cls := .type "enumerate", data := .fields #[.none, .bool false, .ref s.heap.objs.size, rawInt 0, .none, .none] }) (s.heap.objs.size + 1) s.heap.objs.size 0 .none := by
    have := Heap.get?_push_size (s.heap.push o) (o := { cls := .type "enumerate", data := .fields #[.none, .bool false, .ref s.heap.objs.size, rawInt 0, .none, .none] }) rfl
    rw [hz] at this; exact this
  exact ⟨⟨_, he, rfl⟩, h _ he (Heap.get?_push_of_some _ (Heap.get?_push_size _ B.free)) (by rw [Heap.size_push, hz]) fun b o x => Heap.get?_push_of_some _ (Heap.get?_push_of_some _ x)⟩
end PySem
namespace VI
variable [Tn]
open PySem PySem.Spec PyProof.Rows L2
def IteT (K : PySem.W.Frag) (a : Addr) : It :=
  ⟨fun i H => ∃ (xs : List V) (x : V), SqT K H a xs ∧ xs[i]? = some x, fun i H v H' => ∃ T x, v = .ref T ∧ H T = none ∧ H' = upd H T (.tup [.int (i : Nat), x]) ∧ ∀ xs, SqT K H a xs → xs[i]? = some x, fun i H => ∃ xs : List V, SqT K H a xs ∧ xs.length ≤ i⟩
def IteS (z : Str) : It :=
  ⟨fun i _ => i < z.cps.size, fun i H v H' => ∃ T c, v = .ref T ∧ H T = none ∧ H' = upd H T (.tup [.int (i : Nat), .str ⟨#[c]⟩]) ∧ z.cps[i]? = some c, fun i _ => z.cps.size ≤ i⟩
theorem in1_hd {A : Around} (h : A.handled = none) : A.in1.handled = none := h
theorem turn_enumT {P : Program} {w : World} {K : PySem.W.Frag} {elts : List Expr} {kk : Nat} {tpos : Pos} (a e it : Addr) :
    Turn P w K (.Tuple elts kk tpos) (IteT K a) [e, it] e (fun i h => (∃ old, IsEnum h e it ((i : Nat) : Int) old) ∧ h.IsTupleIter it a i ∧ e ≠ it) where
  mem := by simp
  obj := fun i h st b hb => by
    obtain ⟨⟨old, he⟩, ⟨o, ho, hc, hd⟩, _⟩ := st
    have e' : b = e ∨ b = it := by simpa using hb
    rcases e' with z | z
    · rw [z]; exact ⟨_, he, fun v q => nomatch q⟩
    · rw [z]; exact ⟨o, ho, fun v q => by rw [hd] at q; cases q⟩
  keep := fun i h h' st k => let ⟨⟨old, he⟩, hi, hne⟩ := st; ⟨⟨old, k e (by simp) _ he⟩, hi.at fun o q => k it (by simp) o q, hne⟩
  item := by
    intro X hP hw hK hc i pins s σ H E I hf st hg
    subst hP hw hK
    obtain ⟨⟨old, he⟩, hit, hne⟩ := st
    obtain ⟨xs, x, hq, hx⟩ := hg
    obtain ⟨its, rv, p, hz⟩ := I.tuple hq
    obtain ⟨u, hu, ru⟩ := rv.get hx
    have hel : e < s.heap.objs.size := Heap.lt_size he
    have hil : it < s.heap.objs.size := by obtain ⟨_, q, _⟩ := hit; exact Heap.lt_size q
    have ait : a ≠ it := by
      intro z
      subst z
      obtain ⟨o1, g1, c1, _⟩ := p
      obtain ⟨o2, g2, c2, _⟩ := hit
      rw [g1] at g2; cases g2; rw [c1] at c2; exact absurd c2 (by decide)
    have ae : e ≠ a := by
      intro z
      subst z
      obtain ⟨o1, g1, c1, _⟩ := p
      rw [he] at g1; cases g1; exact absurd (show Value.type "enumerate" = Value.type "tuple" from c1) (by decide)
    have hlt : i < its.toArray.size := by
      have := List.getElem?_eq_some_iff.mp hu
      simpa using this.1
    refine wpAny_pyNext_enum_itemD (Draws.tuple (in1_hd (I.ok.hd hc)) it a ait its.toArray) he ⟨hit, p⟩ hlt hne (by simp [hne, ae]) fun y h' tk hy ho hit' hT hsz hk => ?_
    have ey : y = u := by
      rw [show its.toArray[i]? = some u by simpa using hu] at hy
      exact (Option.some.inj hy).symm
    subst ey
    refine ⟨_, rfl, wpAny_letOwnedTupleGo_enum (s := { s with heap := h', toks := tk + 1 }) ho fun h'' he' sb => ?_⟩
    have hT2 : h''.get? s.heap.objs.size = some { cls := .type "tuple", data := .seq #[.int i tk, y] } := (sb.2 _ (Nat.ne_of_gt hel)).trans hT
    have new : ObjOk X.prog X.w (upd H s.heap.objs.size (.tup [.int (i : Nat), x])) h'' s.heap.objs.size (.tup [.int (i : Nat), x]) :=
      ⟨by show 2 ≤ sizeLine; decide, [.int i tk, y], .cons ⟨_, rfl⟩ (.cons ru .nil), ⟨_, hT2, rfl, _, rfl⟩⟩
    have I1 : L2.Inv X pins σ (upd H s.heap.objs.size (.tup [.int (i : Nat), x])) { s with heap := h'', toks := tk + 1 } :=
      I.turnedNew (ch := [e, it]) (fun b ob hb q => (sb.2 b (fun z => hb (by simp [z]))).trans (hk b ob (fun z => hb (by simp [z])) (fun z => hb (by simp [z])) q)) hf (Nat.le_refl _) new
    refine ⟨.ref s.heap.objs.size, _, I1, rfl, ⟨_, x, rfl, I.hok.fresh (Nat.le_refl _), rfl, fun ys hy => by rw [I.tuple_inj hy hq]; exact hx⟩, ⟨⟨y, ?_⟩, hit'.1.at fun o q => (sb.2 it (Ne.symm hne)).trans q, hne⟩, fun b hb => ?_⟩
    · have e1 : ((i + 1 : Nat) : Int) = (i : Int) + 1 := by omega
      rw [e1]; exact he'
    · have hb' : b < s.heap.objs.size := by
        have e' : b = e ∨ b = it := by simpa using hb
        rcases e' with z | z
        · rw [z]; exact hel
        · rw [z]; exact hil
      rw [upd_ne (Nat.ne_of_lt hb')]
      exact (hf b hb).1
  done := by
    intro X hP hw hK hc i pins s σ H E I hf st hg
    subst hP hw hK
    obtain ⟨⟨old, he⟩, hit, hne⟩ := st
    obtain ⟨xs, hq, hx⟩ := hg
    obtain ⟨its, rv, p, hz⟩ := I.tuple hq
    obtain ⟨f0, f1, f2, f3, f4, f5⟩ := hf it (by simp)
    have hl := rv.length
    have hT : s.TypeIs (.ref e) "enumerate" := ⟨_, he, rfl⟩
    have hend : its.toArray[i]? = none := by simp; omega
    unfold pyNext
    refine wpAny_bind (wpAny_attempt (wpAny_callSpecial?_slot (name := Str.ofString "__next__") hT F.slot_enumerate_next
      (wpAny_call_entry F.slot_enumerate_next hT F.entry_enumerate_next ?_ (F.args_enumerate_next_1 _))))
    show wpAny _ _ (field (.ref e) 2 >>= _) _ _ _
    refine wpAny_bind (wpAny_field he rfl (x := .ref it) rfl ?_)
    refine wpAny_bind (wpAny_nextOf_tuple_end (in1_hd (I.ok.hd hc)) hit p hend fun h' x he' hx' => ?_)
    obtain ⟨o, ho, hc'⟩ := hx'
    refine wpAny_bind (wpAny_isInstance (T := "StopIteration") (b := true) ⟨o, ho, hc'⟩ isSubtype_stop ?_)
    exact wpAny_pure ⟨rfl, I.turned (t' := s.toks) (fun b o hb q => he' b o hb q) f0 f1 f3 f4 f5⟩
  self := fun A i s Q E st h => let ⟨⟨_, he⟩, _⟩ := st; wpAny_pyIter_enum he h
theorem turn_enumS {P : Program} {w : World} {K : PySem.W.Frag} {elts : List Expr} {kk : Nat} {tpos : Pos} (z : Str) (t : Tok) (e it : Addr) :
    Turn P w K (.Tuple elts kk tpos) (IteS z) [e, it] e (fun i h => (∃ old, IsEnum h e it ((i : Nat) : Int) old) ∧ h.IsStrIter it (strIterType z) z t i ∧ e ≠ it) where
  mem := by simp
  obj := fun i h st b hb => by
    obtain ⟨⟨old, he⟩, ⟨o, ho, hc, hd⟩, _⟩ := st
    have e' : b = e ∨ b = it := by simpa using hb
    rcases e' with z | z
    · rw [z]; exact ⟨_, he, fun v q => nomatch q⟩
    · rw [z]; exact ⟨o, ho, fun v q => by rw [hd] at q; cases q⟩
  keep := fun i h h' st k => let ⟨⟨old, he⟩, hi, hne⟩ := st; ⟨⟨old, k e (by simp) _ he⟩, (let ⟨o, ho, r⟩ := hi; ⟨o, k it (by simp) o ho, r⟩), hne⟩
  item := by
    intro X hP hw hK hc i pins s σ H E I hf st hg
    subst hP hw hK
    obtain ⟨⟨old, he⟩, hit, hne⟩ := st
    have hel : e < s.heap.objs.size := Heap.lt_size he
    have hil : it < s.heap.objs.size := by obtain ⟨_, q, _⟩ := hit; exact Heap.lt_size q
    refine wpAny_pyNext_enum_itemD (Draws.text (in1_hd (I.ok.hd hc)) it z t) he hit hg hne (by simp [hne]) fun y h' tk hy ho hit' hT hsz hk => ?_
    obtain ⟨c, u, hcx, ey⟩ := hy
    subst ey
    refine ⟨_, rfl, wpAny_letOwnedTupleGo_enum (s := { s with heap := h', toks := tk + 1 }) ho fun h'' he' sb => ?_⟩
    have hT2 : h''.get? s.heap.objs.size = some { cls := .type "tuple", data := .seq #[.int i tk, .str ⟨#[c]⟩ u] } := (sb.2 _ (Nat.ne_of_gt hel)).trans hT
    have new : ObjOk X.prog X.w (upd H s.heap.objs.size (.tup [.int (i : Nat), .str ⟨#[c]⟩])) h'' s.heap.objs.size (.tup [.int (i : Nat), .str ⟨#[c]⟩]) :=
      ⟨by show 2 ≤ sizeLine; decide, [.int i tk, .str ⟨#[c]⟩ u], .cons ⟨_, rfl⟩ (.cons ⟨_, rfl⟩ .nil), ⟨_, hT2, rfl, _, rfl⟩⟩
    have I1 : L2.Inv X pins σ (upd H s.heap.objs.size (.tup [.int (i : Nat), .str ⟨#[c]⟩])) { s with heap := h'', toks := tk + 1 } :=
      I.turnedNew (ch := [e, it]) (fun b ob hb q => (sb.2 b (fun z => hb (by simp [z]))).trans (hk b ob (fun z => hb (by simp [z])) (fun z => hb (by simp [z])) q)) hf (Nat.le_refl _) new
    refine ⟨.ref s.heap.objs.size, _, I1, rfl, ⟨_, c, rfl, I.hok.fresh (Nat.le_refl _), rfl, hcx⟩, ⟨⟨.str ⟨#[c]⟩ u, ?_⟩, (let ⟨o, ho', r⟩ := hit'; ⟨o, (sb.2 it (Ne.symm hne)).trans ho', r⟩), hne⟩, fun b hb => ?_⟩
    · have e1 : ((i + 1 : Nat) : Int) = (i : Int) + 1 := by omega
      rw [e1]; exact he'
    · have hb' : b < s.heap.objs.size := by
        have e' : b = e ∨ b = it := by simpa using hb
        rcases e' with z | z
        · rw [z]; exact hel
        · rw [z]; exact hil
      rw [upd_ne (Nat.ne_of_lt hb')]
      exact (hf b hb).1
  done := by
    intro X hP hw hK hc i pins s σ H E I hf st hg
    subst hP hw hK
    obtain ⟨⟨old, he⟩, hit, hne⟩ := st
    obtain ⟨f0, f1, f2, f3, f4, f5⟩ := hf it (by simp)
    have hT : s.TypeIs (.ref e) "enumerate" := ⟨_, he, rfl⟩
    have hend : z.cps[i]? = none := Array.getElem?_eq_none hg
    unfold pyNext
    refine wpAny_bind (wpAny_attempt (wpAny_callSpecial?_slot (name := Str.ofString "__next__") hT F.slot_enumerate_next
      (wpAny_call_entry F.slot_enumerate_next hT F.entry_enumerate_next ?_ (F.args_enumerate_next_1 _))))
    show wpAny _ _ (field (.ref e) 2 >>= _) _ _ _
    refine wpAny_bind (wpAny_field he rfl (x := .ref it) rfl ?_)
    have go : ∀ {Q : Value → Shared → Prop} {E' : Value → Shared → Prop}, (∀ h' x, Heap.ExtBut it s.heap h' → (∃ o, h'.get? x = some o ∧ o.cls = .type "StopIteration") → E' (.ref x) { s with heap := h' }) → wpAny (model X.prog X.w) X.A.in1 (Builtin.SmallTypes.nextOf (.ref it)) Q E' s := fun {Q E'} hE => by
      unfold strIterType at hit
      split at hit
      · exact wpAny_nextOf_ascii_end (in1_hd (I.ok.hd hc)) hit hend hE
      · exact wpAny_nextOf_wide_end (in1_hd (I.ok.hd hc)) hit hend hE
    refine wpAny_bind (go fun h' x he' hx' => ?_)
    obtain ⟨o, ho, hc'⟩ := hx'
    refine wpAny_bind (wpAny_isInstance (T := "StopIteration") (b := true) ⟨o, ho, hc'⟩ isSubtype_stop ?_)
    exact wpAny_pure ⟨rfl, I.turned (t' := s.toks) (fun b o hb q => he' b o hb q) f0 f1 f3 f4 f5⟩
  self := fun A i s Q E st h => let ⟨⟨_, he⟩, _⟩ := st; wpAny_pyIter_enum he h
end VI

namespace VI
variable [Tn]
open PySem PySem.Spec PyProof.Rows L2
section
variable {K : PySem.W.Frag} {mg : Str → Option Value} {call : CallT} {W : WX}
structure IW (K : PySem.W.Frag) (F : Hp) (J : It) (xs : List D) : Prop where
  goes : ∀ i H, i < xs.length → Same F H → J.go i H
  stops : ∀ H, Same F H → J.stop xs.length H
  yields : ∀ i H x H', i < xs.length → Same F H → J.yld i H x H' → ∃ d, xs[i]? = some d ∧ ((H' = H ∧ Fz K F x d) ∨ (∃ T vs ds, x = .ref T ∧ H T = none ∧ H' = upd H T (.tup vs) ∧ d = .tup ds ∧ FzL K F vs ds) ∨ ∃ T vs ds, x = .ref T ∧ H' = H ∧ H T = some (.tup vs) ∧ d = .tup ds ∧ FzL K F vs ds)
theorem Same.trans {F G H : Hp} (a : Same F G) (b : Same G H) : Same F H := fun x o e => b x o (a x o e)
theorem IW.up {F F' : Hp} {J : It} {xs : List D} (s : Same F F') (w : IW K F J xs) : IW K F' J xs where
  goes := fun i H a b => w.goes i H a (s.trans b)
  stops := fun H b => w.stops H (s.trans b)
  yields := fun i H x H' a b y => by
    obtain ⟨d, h1, h2⟩ := w.yields i H x H' a (s.trans b) y
    refine ⟨d, h1, ?_⟩
    rcases h2 with ⟨h3, h4⟩ | ⟨T, vs, ds, h3, h4, h5, h6, h7⟩ | ⟨T, vs, ds, h3, h4, h5, h6, h7⟩
    · exact .inl ⟨h3, Fz.up s h4⟩
    · exact .inr (.inl ⟨T, vs, ds, h3, h4, h5, h6, FzL.up s h7⟩)
    · exact .inr (.inr ⟨T, vs, ds, h3, h4, h5, h6, FzL.up s h7⟩)
theorem IW.item {F H H' : Hp} {A : AS} {J : It} {xs : List D} {i : Nat} {x : V} (w : IW K F J xs) (wd : Wd F H A) (hi : i < xs.length) (y : J.yld i H x H') : ∃ d F', xs[i]? = some d ∧ Ext F H A F' H' A ∧ Fz K F' x d ∧ Same H H' := by
  obtain ⟨d, h1, h2⟩ := w.yields i H x H' hi wd.same y
  rcases h2 with ⟨rfl, h4⟩ | ⟨T, vs, ds, rfl, h4, rfl, rfl, h7⟩ | ⟨T, vs, ds, rfl, rfl, h5, rfl, h7⟩
  · exact ⟨d, F, h1, Ext.refl wd, h4, fun _ _ e => e⟩
  · have e := Ext.laidF (o := .tup vs) wd h4
    exact ⟨_, _, h1, e, .tup upd_same (FzL.up e.fsame h7), fun a u q => by rw [upd_ne (ne_of_none q h4)]; exact q⟩
  · by_cases hF : F T = none
    · have sf : Same F (upd F T (.tup vs)) := fun a o e => by rw [upd_ne (ne_of_none e hF)]; exact e
      refine ⟨_, upd F T (.tup vs), h1, ⟨sf, ⟨fun a o e => ?_, fun a x => ?_, wd.tab, fun a ps e => by
        by_cases z : a = T
        · subst z; rw [upd_same] at e; cases e
        · rw [upd_ne z] at e; exact wd.nof a ps e⟩, fun _ _ e _ _ => e, fun _ ps e => ⟨ps, e⟩, fun a x => ?_, fun a x => .inl x, Fk.refl⟩, .tup upd_same (FzL.up sf h7), fun _ _ e => e⟩
      · by_cases z : a = T
        · subst z; rw [upd_same] at e; cases e; exact h5
        · rw [upd_ne z] at e; exact wd.same _ _ e
      · have z : a ≠ T := fun z => by
          obtain ⟨_, u, q, mu⟩ := wd.own a x
          rw [z, h5] at q; cases q; exact mu
        rw [upd_ne z]; exact wd.own a x
      · by_cases z : a = T
        · subst z; exact .inr (.inr (.inr ⟨_, h5⟩))
        · rw [upd_ne z] at x; exact .inl x
    · have e : F T = some (.tup vs) := by
        cases q : F T with
        | none => exact absurd q hF
        | some u => have := wd.same _ _ q; rw [h5] at this; cases this; rfl
      exact ⟨_, F, h1, Ext.refl wd, .tup e h7, fun _ _ e => e⟩
theorem FzK.at : ∀ {vs : List (Key × V)} {ds : List (Key × D)} {i : Nat} {F : Hp} {p : Key × V}, FzK K F vs ds → vs[i]? = some p → ∃ d, ds[i]? = some (p.1, d) ∧ okK p.1 = true
  | _, _, _, _, _, .nil, h => by simp at h
  | _, _, 0, _, _, .cons o _ _, h => by simp at h; subst h; exact ⟨_, rfl, o⟩
  | _, _, i + 1, _, _, .cons _ _ r, h => by
    obtain ⟨d, h1, h2⟩ := FzK.at (i := i) r (by simpa using h)
    exact ⟨d, by simpa using h1, h2⟩
theorem FzT.at : ∀ {vs : List (List Key × V)} {ds : List (List Key × D)} {i : Nat} {F : Hp} {p : List Key × V}, FzT K F vs ds → vs[i]? = some p → ∃ d, ds[i]? = some (p.1, d) ∧ okKs p.1 = true
  | _, _, _, _, _, .nil, h => by simp at h
  | _, _, 0, _, _, .cons o _ _, h => by simp at h; subst h; exact ⟨_, rfl, o⟩
  | _, _, i + 1, _, _, .cons _ _ r, h => by
    obtain ⟨d, h1, h2⟩ := FzT.at (i := i) r (by simpa using h)
    exact ⟨d, by simpa using h1, h2⟩
theorem iw_keys {F : Hp} {a : Addr} {o : Obj} {vs : List (Key × V)} {ds : List (Key × D)} (h : F a = some (.frz o (.dK vs))) (z : FzK K F vs ds) : IW K F (Itk a o vs) (ds.map fun kv => dKey kv.1) where
  goes := fun i H hi s => ⟨s _ _ h, by rw [List.length_map, ← z.len] at hi; exact hi⟩
  stops := fun H s => ⟨s _ _ h, by rw [List.length_map, z.len]; exact Nat.le_refl _⟩
  yields := fun i H x H' hi s y => by
    obtain ⟨e, k, v, e1, rfl⟩ := y
    obtain ⟨d, e2, e3⟩ := z.at e1
    exact ⟨dKey k, by rw [List.getElem?_map, e2]; rfl, .inl ⟨e, dKey_fz e3⟩⟩
theorem iw_keysT {F : Hp} {a : Addr} {o : Obj} {vs : List (List Key × V)} {ds : List (List Key × D)} (h : F a = some (.frz o (.dT vs))) (z : FzT K F vs ds) : IW K F (Itkt a o vs) (ds.map fun kv => .tup (kv.1.map dKey)) where
  goes := fun i H hi s => ⟨s _ _ h, by rw [List.length_map, ← z.len] at hi; exact hi⟩
  stops := fun H s => ⟨s _ _ h, by rw [List.length_map, z.len]; exact Nat.le_refl _⟩
  yields := fun i H x H' hi s y => by
    obtain ⟨e, k, v, q, e1, rfl, e4⟩ := y
    obtain ⟨d, e2, e3⟩ := z.at e1
    exact ⟨.tup (k.map dKey), by rw [List.getElem?_map, e2]; rfl, .inr (.inr ⟨q, _, _, rfl, e, e4, rfl, dKeys_fz e3⟩)⟩
theorem iw_list {F : Hp} {a : Addr} {vs : List V} {ds : List D} (h : SqL K F a vs) (z : FzL K F vs ds) : IW K F (Itl K a) ds where
  goes := fun i H hi s => by
    obtain ⟨v, h1, _⟩ := z.at (List.getElem?_eq_getElem hi)
    exact ⟨vs, v, SqL.up s h, h1⟩
  stops := fun H s => ⟨vs, SqL.up s h, by rw [z.len]; exact Nat.le_refl _⟩
  yields := fun i H x H' hi s y => by
    obtain ⟨v, h1, h2⟩ := z.at (List.getElem?_eq_getElem hi)
    obtain ⟨e, y⟩ := y
    have := y vs (SqL.up s h)
    rw [h1] at this; cases this
    exact ⟨_, List.getElem?_eq_getElem hi, .inl ⟨e, h2⟩⟩
theorem iw_tup {F : Hp} {a : Addr} {vs : List V} {ds : List D} (h : SqT K F a vs) (z : FzL K F vs ds) : IW K F (Itt K a) ds where
  goes := fun i H hi s => by
    obtain ⟨v, h1, _⟩ := z.at (List.getElem?_eq_getElem hi)
    exact ⟨vs, v, SqT.up s h, h1⟩
  stops := fun H s => ⟨vs, SqT.up s h, by rw [z.len]; exact Nat.le_refl _⟩
  yields := fun i H x H' hi s y => by
    obtain ⟨v, h1, h2⟩ := z.at (List.getElem?_eq_getElem hi)
    obtain ⟨e, y⟩ := y
    have := y vs (SqT.up s h)
    rw [h1] at this; cases this
    exact ⟨_, List.getElem?_eq_getElem hi, .inl ⟨e, h2⟩⟩
theorem enumD_at : ∀ (n : Nat) (xs : List D) (i : Nat) (x : D), xs[i]? = some x → (enumD n xs)[i]? = some (.tup [.int ((n + i : Nat) : Int), x])
  | _, [], _, _, h => by simp at h
  | n, y :: xs, 0, x, h => by simp at h; subst h; simp [enumD]
  | n, y :: xs, i + 1, x, h => by
    simp at h
    simp only [enumD, List.getElem?_cons_succ]
    rw [enumD_at (n + 1) xs i x h]
    have : n + 1 + i = n + (i + 1) := by omega
    rw [this]
theorem enumD_len : ∀ (n : Nat) (xs : List D), (enumD n xs).length = xs.length
  | _, [] => rfl
  | n, y :: xs => by simp [enumD, enumD_len (n + 1) xs]
theorem zipD_at : ∀ (xs ys : List D) (i : Nat) (x y : D), xs[i]? = some x → ys[i]? = some y → (zipD xs ys)[i]? = some (.tup [x, y])
  | [], _, _, _, _, h, _ => by simp at h
  | _ :: _, [], _, _, _, _, h => by simp at h
  | a :: xs, b :: ys, 0, x, y, h, h' => by simp at h h'; subst h h'; simp [zipD]
  | a :: xs, b :: ys, i + 1, x, y, h, h' => by
    simp at h h'
    simp only [zipD, List.getElem?_cons_succ]
    exact zipD_at xs ys i x y h h'
theorem zipD_len : ∀ (xs ys : List D), (zipD xs ys).length = min xs.length ys.length
  | [], _ => by simp [zipD]
  | _ :: _, [] => by simp [zipD]
  | a :: xs, b :: ys => by simp only [zipD, List.length_cons, zipD_len xs ys]; omega
theorem iw_enum {F : Hp} {a : Addr} {vs : List V} {ds : List D} (h : SqL K F a vs) (z : FzL K F vs ds) : IW K F (Ite K a) (enumD 0 ds) where
  goes := fun i H hi s => by
    rw [enumD_len] at hi
    obtain ⟨v, h1, _⟩ := z.at (List.getElem?_eq_getElem hi)
    exact ⟨vs, v, SqL.up s h, h1⟩
  stops := fun H s => ⟨vs, SqL.up s h, by rw [enumD_len, z.len]; exact Nat.le_refl _⟩
  yields := fun i H x H' hi s y => by
    rw [enumD_len] at hi
    obtain ⟨v, h1, h2⟩ := z.at (List.getElem?_eq_getElem hi)
    obtain ⟨T, u, h3, h4, h5, y⟩ := y
    have := y vs (SqL.up s h)
    rw [h1] at this; cases this
    refine ⟨_, enumD_at 0 ds i _ (List.getElem?_eq_getElem hi), .inr (.inl ⟨T, _, _, h3, h4, h5, rfl, .cons ?_ (.cons h2 .nil)⟩)⟩
    simpa using Fz.int (K := K) (F := F) (i : Int)
theorem iw_enumT {F : Hp} {a : Addr} {vs : List V} {ds : List D} (h : SqT K F a vs) (z : FzL K F vs ds) : IW K F (IteT K a) (enumD 0 ds) where
  goes := fun i H hi s => by
    rw [enumD_len] at hi
    obtain ⟨v, h1, _⟩ := z.at (List.getElem?_eq_getElem hi)
    exact ⟨vs, v, SqT.up s h, h1⟩
  stops := fun H s => ⟨vs, SqT.up s h, by rw [enumD_len, z.len]; exact Nat.le_refl _⟩
  yields := fun i H x H' hi s y => by
    rw [enumD_len] at hi
    obtain ⟨v, h1, h2⟩ := z.at (List.getElem?_eq_getElem hi)
    obtain ⟨T, u, h3, h4, h5, y⟩ := y
    have := y vs (SqT.up s h)
    rw [h1] at this; cases this
    refine ⟨_, enumD_at 0 ds i _ (List.getElem?_eq_getElem hi), .inr (.inl ⟨T, _, _, h3, h4, h5, rfl, .cons ?_ (.cons h2 .nil)⟩)⟩
    simpa using Fz.int (K := K) (F := F) (i : Int)
theorem okCs_at {l : List Nat} {c i : Nat} (h : okCs l = true) (e : l[i]? = some c) : okCs [c] = true :=
  okCs_sub h fun x hx => by simp at hx; rw [hx]; exact List.mem_of_getElem? e
theorem iw_str {F : Hp} {l : List Nat} (h : okCs l = true) : IW K F (Its ⟨l.toArray⟩) (l.map fun c => .str [c]) where
  goes := fun i H hi s => by show i < l.toArray.size; simpa using hi
  stops := fun H s => by show l.toArray.size ≤ _; simp
  yields := fun i H x H' hi s y => by
    obtain ⟨e, c, h1, h2⟩ := y
    have h1 : l[i]? = some c := by simpa using h1
    exact ⟨.str [c], by simp [h1], .inl ⟨e, h2 ▸ Fz.str [c] (okCs_at h h1)⟩⟩
theorem iw_enumS {F : Hp} {l : List Nat} (h : okCs l = true) : IW K F (IteS ⟨l.toArray⟩) (enumD 0 (l.map fun c => .str [c])) where
  goes := fun i H hi s => by rw [enumD_len] at hi; show i < l.toArray.size; simpa using hi
  stops := fun H s => by rw [enumD_len]; show l.toArray.size ≤ _; simp
  yields := fun i H x H' hi s y => by
    obtain ⟨T, c, h3, h4, h5, h1⟩ := y
    have h1 : l[i]? = some c := by simpa using h1
    refine ⟨_, enumD_at 0 _ i (.str [c]) (by simp [h1]), .inr (.inl ⟨T, _, _, h3, h4, h5, rfl, .cons ?_ (.cons (Fz.str [c] (okCs_at h h1)) .nil)⟩)⟩
    simpa using Fz.int (K := K) (F := F) (i : Int)
theorem iw_rng {F : Hp} {lo hi : Int} : IW K F (Itr lo (hi - lo).toNat) (rngO lo hi) where
  goes := fun i H h s => by rw [rngO_len] at h; exact h
  stops := fun H s => by rw [rngO_len]; exact Nat.le_refl _
  yields := fun i H x H' h s y => by
    rw [rngO_len] at h
    obtain ⟨e, y⟩ := y
    refine ⟨.int (lo + (i : Nat)), by unfold rngO; simp [h], .inl ⟨e, y ▸ Fz.int _⟩⟩
theorem iw_rngC {F : Hp} {i0 : Int} {n : Nat} : IW K F (Itc i0 (-1) n) ((List.range n).map fun k => .int (i0 - (k : Nat))) where
  goes := fun i H h s => by show i < n; simpa using h
  stops := fun H s => by show n ≤ _; simp
  yields := fun i H x H' h s y => by
    obtain ⟨e, y⟩ := y
    have h : i < n := by simpa using h
    refine ⟨.int (i0 - (i : Nat)), by simp [h], .inl ⟨e, ?_⟩⟩
    have e1 : i0 + (i : Nat) * (-1) = i0 - (i : Nat) := by omega
    rw [y, e1]; exact Fz.int _
theorem iw_zip {F : Hp} {a b : Addr} {vs ws : List V} {ds es : List D} (h : SqL K F a vs) (z : FzL K F vs ds) (h' : SqL K F b ws) (z' : FzL K F ws es) : IW K F (Itz K a b) (zipD ds es) where
  goes := fun i H hi s => by
    rw [zipD_len] at hi
    obtain ⟨v, h1, _⟩ := z.at (List.getElem?_eq_getElem (show i < ds.length by omega))
    obtain ⟨v', h1', _⟩ := z'.at (List.getElem?_eq_getElem (show i < es.length by omega))
    exact ⟨vs, ws, v, v', SqL.up s h, SqL.up s h', h1, h1'⟩
  stops := fun H s => ⟨vs, ws, SqL.up s h, SqL.up s h', by rw [zipD_len, z.len, z'.len]; omega⟩
  yields := fun i H x H' hi s y => by
    rw [zipD_len] at hi
    obtain ⟨v, h1, h2⟩ := z.at (List.getElem?_eq_getElem (show i < ds.length by omega))
    obtain ⟨v', h1', h2'⟩ := z'.at (List.getElem?_eq_getElem (show i < es.length by omega))
    obtain ⟨T, u, u', h3, h4, h5, y, y'⟩ := y
    have := y vs (SqL.up s h)
    rw [h1] at this; cases this
    have := y' ws (SqL.up s h')
    rw [h1'] at this; cases this
    exact ⟨_, zipD_at ds es i _ _ (List.getElem?_eq_getElem _) (List.getElem?_eq_getElem _), .inr (.inl ⟨T, _, _, h3, h4, h5, rfl, .cons h2 (.cons h2' .nil)⟩)⟩

/-! ### iterables -/
def PostI (K : PySem.W.Frag) (mg : Str → Option Value) (W : WX) (F H : Hp) (A : AS) (σ : SG) (k : ItK) (r : R (List D)) (Rr : It → Hp → Prop) : Prop := match r with
  | .ok ds ρ1 => canL ds = true ∧ ∃ xs, itD k (frzL ds) = some xs ∧ ∀ J F' H' A', Ext F H A F' H' A' → Slots K mg F' H' σ ρ1 A' → IW K F' J xs → Rr J H'
  | .err x ρ' => PX K mg W F H A σ x ρ'
  | .bad => False
def tI (K : PySem.W.Frag) (mg : Str → Option Value) (call : CallT) (W : WX) (k : ItK) (es : List E) : TI := fun σ H Rr => ∃ F A ρ, Wd F H A ∧ Slots K mg F H σ ρ A ∧ PostI K mg W F H A σ k (evC call es ρ) Rr
theorem evC_len : ∀ {es : List E} {ρ ρ' : Env'} {ds : List D}, evC call es ρ = .ok ds ρ' → ds.length = es.length
  | [], ρ, ρ', ds, h => by simp only [evC, R.ok.injEq] at h; rw [← h.1]; rfl
  | e :: es, ρ, ρ', ds, h => by
    simp only [evC] at h
    cases h1 : ev call e ρ with
    | bad => simp [h1, R.bind] at h
    | err x r => simp [h1, R.bind] at h
    | ok d r =>
      simp only [h1, R.bind] at h
      cases h2 : evC call es r with
      | bad => simp [h2] at h
      | err x r' => simp [h2] at h
      | ok ds' r' =>
        simp only [h2] at h
        split at h
        · simp only [R.ok.injEq] at h
          rw [← h.1, List.length_cons, evC_len h2, List.length_cons]
        · cases h
theorem frzL_len : ∀ (ds : List D), (frzL ds).length = ds.length
  | [] => rfl
  | d :: ds => by simp [frzL, frzL_len ds]
theorem pre_it {k : ItK} {es : List E} {σ : SG} {H : Hp} {Rr : It → Hp → Prop} {G : List V → Hp → Prop} (h : tI K mg call W k es σ H Rr)
    (g : ∀ vs F1 H1 ds xs, ds.length = es.length → Same F1 H1 → FzL K F1 vs ds → itD k ds = some xs → (∀ J, IW K F1 J xs → Rr J H1) → G vs H1) : tCs K mg call W es σ H G := by
  obtain ⟨F, A, ρ, w, s, p⟩ := h
  refine seqC es w s ?_
  cases hr : evC call es ρ with
  | bad => rw [hr] at p; exact p
  | err x ρ' => rw [hr] at p; exact p
  | ok ds ρ1 =>
    rw [hr] at p
    obtain ⟨hc, xs, hx, p⟩ := p
    intro vs F' H' A' B ex s' ol dj q
    have w' : Wd F' H' (cup B A') := by rw [cup_comm]; exact ex.wd
    have e2 := froz_ext w' dj.symm
    have fz : FzL K (froz F' H' B) vs (frzL ds) := OwnL.froze (froz_same (w'.sub Sb.l)) (fun a h => froz_in h) hc ol
    refine g vs (froz F' H' B) H' _ xs (by rw [frzL_len]; exact evC_len hr) e2.wd.same fz hx fun J iw => ?_
    refine p J _ H' A' (ex.trans w (by rw [cup_comm]; exact e2)) (Slots.move e2.fsame s' fun a o _ e => e) iw
theorem FzL.one {F : Hp} {v : V} {ds : List D} (h : FzL K F [v] ds) : ∃ d, ds = [d] ∧ Fz K F v d := by
  cases h with
  | cons a b => cases b; exact ⟨_, rfl, a⟩
theorem FzL.intsV {F : Hp} : ∀ (ns : List Int), FzL K F (ns.map V.int) (ns.map .int)
  | [] => .nil
  | n :: r => .cons (.int n) (FzL.intsV r)
theorem PI.weak {X : Cx} {tg e : Expr} {t t' : TI} (h : PI X tg e t) (hw : ∀ σ H Q, t' σ H Q → t σ H Q) : PI X tg e t' := ⟨fun pins s σ H Q I q => h.run pins s σ H Q I (hw σ H Q q)⟩
end
section
variable {X : Cx} {mg : Str → Option Value} {call : CallT} {W : WX} {tg : Expr} {pins : List (Addr × Obj)} {σ : SG} {H : Hp} {s : Shared} {Rr : It → Hp → Prop}
theorem iter_list {a : Addr} {xs : List V} (I : Inv X pins σ H s) (hq : SqL X.K H a xs) (q : Rr (Itl X.K a) H) : wpAny (model X.prog X.w) X.A (pyIter (.ref a)) (PIE X pins σ tg Rr) X.xe s := by
  obtain ⟨its, rv, p, hz⟩ := I.list hq
  exact wpAny_pyIter_list p.isList (pi_one (tk := s.toks) I _ (turn_list a _) ⟨_, Heap.get?_push_size _ rfl, rfl, rfl⟩ q)
theorem iter_tup {a : Addr} {xs : List V} (I : Inv X pins σ H s) (hq : SqT X.K H a xs) (q : Rr (Itt X.K a) H) : wpAny (model X.prog X.w) X.A (pyIter (.ref a)) (PIE X pins σ tg Rr) X.xe s := by
  obtain ⟨its, rv, p, hz⟩ := I.tuple hq
  exact wpAny_pyIter_tuple (show s.heap.IsTuple a its.toArray from p) (pi_one (tk := s.toks) I _ (turn_tuple a _) ⟨_, Heap.get?_push_size _ rfl, rfl, rfl⟩ q)
theorem iter_str {x : Str} {t : Tok} (I : Inv X pins σ H s) (q : Rr (Its x) H) : wpAny (model X.prog X.w) X.A (pyIter (.str x t)) (PIE X pins σ tg Rr) X.xe s := by
  cases ha : x.cps.all (· < 128)
  · exact wpAny_pyIter_wide ha (pi_one (tk := s.toks) I _ (turn_str _ x t "str_iterator" (.inr rfl)) ⟨_, Heap.get?_push_size _ rfl, rfl, rfl⟩ q)
  · exact wpAny_pyIter_ascii ha (pi_one (tk := s.toks) I _ (turn_str _ x t "str_ascii_iterator" (.inl rfl)) ⟨_, Heap.get?_push_size _ rfl, rfl, rfl⟩ q)
theorem pi_seqE {e : E} {a : Expr} (he : PE X a (tE X.K mg call e W)) : PI X tg a (tI X.K mg call W .seq [e]) := by
  refine ⟨fun pins s σ H Rr I h => ?_⟩
  have h1 := pre_it (es := [e]) (G := fun vs H1 => ∃ x, vs = [x] ∧ ∃ F1 d xs, Same F1 H1 ∧ Fz X.K F1 x d ∧ walkD d = some xs ∧ ∀ J, IW X.K F1 J xs → Rr J H1) h fun vs F1 H1 ds xs _ sm fz hx q => by
    unfold itD at hx
    split at hx <;> first | contradiction | skip
    cases fz with
    | cons a b => cases b; exact ⟨_, rfl, F1, _, xs, sm, a, hx, q⟩
  refine thn (he.run pins s σ H _ I h1) fun v s1 ⟨x, H1, I1, r1, x', ex, F1, d, xs, sm, fz, hx, q⟩ => ?_
  cases ex
  cases fz with
  | str l ok =>
    obtain ⟨t, rfl⟩ := r1
    simp only [walkD, Option.some.injEq] at hx
    subst hx
    exact iter_str I1 (q _ (iw_str ok))
  | tup h r =>
    cases r1
    simp only [walkD, Option.some.injEq] at hx
    subst hx
    exact iter_tup I1 (SqT.of (sm _ _ h)) (q _ (iw_tup (SqT.of h) r))
  | lst h r =>
    cases r1
    simp only [walkD, Option.some.injEq] at hx
    subst hx
    exact iter_list I1 (SqL.up sm (SqL.of h)) (q _ (iw_list (SqL.of h) r))
  | scr h =>
    cases r1
    simp only [walkD, Option.some.injEq] at hx
    subst hx
    refine iter_list I1 (SqL.up sm h) (q _ (iw_list h ?_))
    exact FzL.intsV _
  | _ => simp [walkD] at hx
theorem pi_dkE {e : E} {a : Expr} (he : PE X a (tE X.K mg call e W)) : PI X tg a (tI X.K mg call W .dk [e]) := by
  refine ⟨fun pins s σ H Rr I h => ?_⟩
  have h1 := pre_it (es := [e]) (G := fun vs H1 => ∃ x, vs = [x] ∧ ∃ F1 d xs, Same F1 H1 ∧ Fz X.K F1 x d ∧ walkK d = some xs ∧ ∀ J, IW X.K F1 J xs → Rr J H1) h fun vs F1 H1 ds xs _ sm fz hx q => by
    unfold itD at hx
    split at hx <;> first | contradiction | skip
    cases fz with
    | cons a b => cases b; exact ⟨_, rfl, F1, _, xs, sm, a, hx, q⟩
  refine thn (he.run pins s σ H _ I h1) fun v s1 ⟨x, H1, I1, r1, x', ex, F1, d, xs, sm, fz, hx, q⟩ => ?_
  cases ex
  cases fz with
  | dic h r =>
    cases r1
    simp only [walkK, Option.some.injEq] at hx
    subst hx
    obtain ⟨hs, hgd, hx, es, ep, vs, hdt, hsz, kv, hm⟩ := I1.frzK (sm _ _ h)
    refine iter_keys hs hgd hx hdt (pi_one (tk := s1.toks) I1 _ (turn_keys _ hdt) ⟨_, Heap.get?_push_size _ rfl, rfl, ?_⟩ (q _ (iw_keys h r)))
    rw [hsz] <;> rfl
  | dit h r =>
    cases r1
    simp only [walkK, Option.some.injEq] at hx
    subst hx
    obtain ⟨hs, hgd, hx, es, ep, hdt, hsz, ent⟩ := I1.frzT (sm _ _ h)
    refine iter_keys hs hgd hx hdt (pi_one (tk := s1.toks) I1 _ (turn_keysT _ hdt) ⟨_, Heap.get?_push_size _ rfl, rfl, ?_⟩ (q _ (iw_keysT h r)))
    rw [hsz] <;> rfl
  | _ => simp [walkK] at hx
theorem pi_rng1E {e : E} {p pos : Pos} {a : Expr} (hg : Gl X "range") (hm : X.mg "range" = none) (h : PEs X (fun e => tE X.K mg call e W) [e] [a]) :
    PI X tg (.Call (.Name "range" p) [a] [] pos) (tI X.K mg call W .rng [e]) := by
  refine PI.weak (pi_range1 hg hm h.paC (starEach_cons h.1 [] X.env)) fun σ H Rr h' => ?_
  refine pre_it h' fun vs F1 H1 ds xs hl sm fz hx q => ?_
  match ds, hl, fz with
  | [d], _, .cons f .nil =>
    cases d with
    | int j =>
      simp only [itD, rngs] at hx
      split at hx
      · rename_i h1
        obtain ⟨h1, h2⟩ := in62_of h1
        cases hx
        cases f
        refine ⟨j, rfl, h1, h2, ?_⟩
        have := q (Itr 0 (j - 0).toNat) iw_rng
        simpa using this
      · cases hx
    | _ => simp [itD, rngs] at hx
theorem pi_rng2E {e f : E} {p pos : Pos} {a b : Expr} (hg : Gl X "range") (hm : X.mg "range" = none) (h : PEs X (fun e => tE X.K mg call e W) [e, f] [a, b]) :
    PI X tg (.Call (.Name "range" p) [a, b] [] pos) (tI X.K mg call W .rng [e, f]) := by
  refine PI.weak (pi_range2 hg hm h.paC (by rw [starEach_cons h.1, starEach_cons h.2.2.1]; rfl) (starEach_cons h.2.2.1 [] X.env)) fun σ H Rr h' => ?_
  refine pre_it h' fun vs F1 H1 ds xs hl sm fz hx q => ?_
  match ds, hl, fz with
  | [d, d'], _, .cons f (.cons f' .nil) =>
    cases d with
    | int i =>
      cases d' with
      | int j =>
        simp only [itD, rngs] at hx
        split at hx
        · rename_i h1
          simp only [Bool.and_eq_true] at h1
          obtain ⟨h1, h2⟩ := h1
          obtain ⟨h1, h1'⟩ := in62_of h1
          obtain ⟨h2, h2'⟩ := in62_of h2
          cases hx
          cases f
          cases f'
          exact ⟨i, j, rfl, ⟨h1, h1', h2, h2'⟩, q _ iw_rng⟩
        · cases hx
      | _ => simp [itD, rngs] at hx
    | _ => simp [itD, rngs] at hx
theorem pi_rng3E {e f g : E} {p pos : Pos} {a b c : Expr} (hg : Gl X "range") (hm : X.mg "range" = none) (h : PEs X (fun e => tE X.K mg call e W) [e, f, g] [a, b, c]) :
    PI X tg (.Call (.Name "range" p) [a, b, c] [] pos) (tI X.K mg call W .rng [e, f, g]) := by
  have hb : ([b, c].all noStar) = true := by simp [h.2.2.1, h.2.2.2.2.1]
  refine PI.weak (pi_range3 hg hm h.paC (starEach_cons h.1 [b, c] X.env) (back_none hb)) fun σ H Rr h' => ?_
  refine pre_it h' fun vs F1 H1 ds xs hl sm fz hx q => ?_
  match ds, hl, fz with
  | [d, d', d''], _, .cons f (.cons f' (.cons f'' .nil)) =>
    simp only [itD] at hx
    unfold rngs at hx
    split at hx
    · rename_i h; cases h
    · rename_i h; cases h
    · rename_i i j h
      cases h
      split at hx
      · rename_i h1
        simp only [Bool.and_eq_true] at h1
        obtain ⟨h1, h2⟩ := h1
        obtain ⟨h1, h1'⟩ := in62_of h1
        obtain ⟨h2, h2'⟩ := in62_of h2
        cases hx
        cases f
        cases f'
        cases f''
        exact ⟨i, j, -1, _, rfl, RgC.neg h1 h1' h2 h2', q _ iw_rngC⟩
      · cases hx
    · cases hx
theorem pi_enumE {e : E} {p pos tpos : Pos} {a : Expr} {elts : List Expr} {kk : Nat} (hg : Gl X "enumerate") (hm : X.mg "enumerate" = none) (h : PEs X (fun e => tE X.K mg call e W) [e] [a]) :
    PI X (.Tuple elts kk tpos) (.Call (.Name "enumerate" p) [a] [] pos) (tI X.K mg call W .enum [e]) := by
  refine ⟨fun pins s σ H Rr I h' => ?_⟩
  have h1 := pre_it (es := [e]) (G := fun vs H1 => ∃ x, vs = [x] ∧ ∃ F1 d xs, Same F1 H1 ∧ Fz X.K F1 x d ∧ itD .enum [d] = some xs ∧ ∀ J, IW X.K F1 J xs → Rr J H1) h' fun vs F1 H1 ds xs hl sm fz hx q => by
    match ds, hl, fz with
    | [d], _, .cons f .nil => exact ⟨_, rfl, F1, _, xs, sm, f, hx, q⟩
  refine Call_ (ld_blt I hg hm boot_enumerate (PyProof.Rows.callWith_type1 (thn (h.paC.run pos pins s σ H _ I h1) fun us s1 ⟨vs, H1, I1, r1, x, ex, F1, d, xs, sm, fz, hx, q⟩ => ?_) (starEach_cons h.1 [] X.env) rfl))
  subst ex
  have done : ∀ {J : It} {h' : Heap} {tn : Nat → Heap → Prop}, IsEnum h' (s1.heap.objs.size + 1) s1.heap.objs.size 0 .none → (∀ b o, s1.heap.get? b = some o → h'.get? b = some o) → Turn X.prog X.w X.K (.Tuple elts kk tpos) J [s1.heap.objs.size + 1, s1.heap.objs.size] (s1.heap.objs.size + 1) tn → tn 0 h' → Rr J H1 →
      wpAny (model X.prog X.w) X.A (pyIter (.ref (s1.heap.objs.size + 1))) (PIE X pins σ (.Tuple elts kk tpos) Rr) X.xe { s1 with heap := h' } := fun {J h' tn} he hk T st q => by
    refine wpAny_pyIter_enum he ?_
    have I2 : Inv X pins σ H1 { s1 with heap := h' } := I1.kept (t' := s1.toks) hk
    refine ⟨s1.heap.objs.size + 1, [s1.heap.objs.size + 1, s1.heap.objs.size], tn, J, H1, rfl, I2, T, st, fun b hb => ?_, q⟩
    have e' : b = s1.heap.objs.size + 1 ∨ b = s1.heap.objs.size := by simpa using hb
    have hle : s1.heap.objs.size ≤ b := by
      rcases e' with z | z
      · rw [z]; exact Nat.le_add_right _ _
      · rw [z]; exact Nat.le_refl _
    exact I1.fpOk hle (I1.hok.fresh hle)
  simp only [itD, Option.map_eq_some_iff] at hx
  obtain ⟨ys, hy, rfl⟩ := hx
  have onL : ∀ {a : Addr} {vs : List V}, SqL X.K F1 a vs → FzL X.K F1 vs ys → Rr (Ite X.K a) H1 → wpAny (model X.prog X.w) X.A (PySem.call (Value.type "enumerate") [Value.ref a]) (fun v s2 => wpAny (model X.prog X.w) X.A (pyIter v) (PIE X pins σ (.Tuple elts kk tpos) Rr) X.xe s2) X.xe s1 := fun {a vs} hq z q => by
    obtain ⟨its, rv, p', hz⟩ := I1.list (SqL.up sm hq)
    exact call_enumerate_list p'.isList fun h' he hit hsz hk => done he hk (turn_enum a _ _) ⟨⟨.none, he⟩, hit, Nat.succ_ne_self _⟩ q
  cases r1 with
  | cons r rr =>
    cases rr
    cases fz with
    | lst h r' =>
      cases r
      simp only [walkD, Option.some.injEq] at hy
      subst hy
      exact onL (SqL.of h) r' (q _ (iw_enum (SqL.of h) r'))
    | scr h =>
      cases r
      simp only [walkD, Option.some.injEq] at hy
      subst hy
      exact onL h (FzL.intsV _) (q _ (iw_enum h (FzL.intsV _)))
    | tup h r' =>
      cases r
      simp only [walkD, Option.some.injEq] at hy
      subst hy
      obtain ⟨its, rv, p', hz⟩ := I1.tuple (SqT.of (sm _ _ h))
      exact VI_enum_call (begins_tuple _ its.toArray) p' fun h' he ho hsz hk => done he hk (turn_enumT _ _ _) ⟨⟨.none, he⟩, ⟨_, ho, rfl, rfl⟩, Nat.succ_ne_self _⟩ (q _ (iw_enumT (SqT.of h) r'))
    | str l ok =>
      obtain ⟨t, rfl⟩ := r
      simp only [walkD, Option.some.injEq] at hy
      subst hy
      exact VI_enum_call (begins_text _ t) trivial fun h' he ho hsz hk => done he hk (turn_enumS _ _ _ _) ⟨⟨.none, he⟩, ⟨_, ho, rfl, rfl⟩, Nat.succ_ne_self _⟩ (q _ (iw_enumS ok))
    | _ => simp [walkD] at hy
theorem pi_zipE {e f : E} {p pos tpos : Pos} {a b : Expr} {elts : List Expr} {kk : Nat} (hg : Gl X "zip") (hm : X.mg "zip" = none) (h : PEs X (fun e => tE X.K mg call e W) [e, f] [a, b]) :
    PI X (.Tuple elts kk tpos) (.Call (.Name "zip" p) [a, b] [] pos) (tI X.K mg call W .zip [e, f]) := by
  have hb : ([b].all noStar) = true := by simp [h.2.2.1]
  refine PI.weak (pi_zip hg hm h.paC (starEach_cons h.1 [b] X.env) (back_none hb)) fun σ H Rr h' => ?_
  refine pre_it h' fun vs F1 H1 ds xs hl sm fz hx q => ?_
  match ds, hl, fz with
  | [d, d'], _, .cons f (.cons f' .nil) =>
    unfold itD at hx
    split at hx <;> first | contradiction | skip
    rename_i heq
    cases heq
    cases hx
    cases f with
    | lst h r =>
      cases f' with
      | lst h' r' =>
        exact ⟨_, _, _, _, rfl, SqL.up sm (SqL.of h), SqL.up sm (SqL.of h'), q _ (iw_zip (SqL.of h) r (SqL.of h') r')⟩
end
end VI

namespace VI
variable [Tn]
open PySem PySem.Spec PyProof.Rows L2
def SK (pr : Nat → Bool) (σ σ' : SG) : Prop := ∀ i, pr i = true → σ'[i]? = σ[i]?
theorem SK.refl {pr : Nat → Bool} {σ : SG} : SK pr σ σ := fun _ _ => rfl
theorem SK.trans {pr : Nat → Bool} {σ σ1 σ2 : SG} (a : SK pr σ σ1) (b : SK pr σ1 σ2) : SK pr σ σ2 := fun i h => (b i h).trans (a i h)
theorem SK.set {pr : Nat → Bool} {σ : SG} {i : Nat} {u : Option V} (h : pr i = false) : SK pr σ (σ.set i u) := fun j hj => by
  have : i ≠ j := fun e => by rw [e, hj] at h; cases h
  exact List.getElem?_set_ne this
def gT (K : PySem.W.Frag) (mg : Str → Option Value) (pr : Nat → Bool) (t : T) : TG := fun v σ H Q => ∃ F A B ρ d ρ', Wd F H (cup A B) ∧ Slots K mg F H σ ρ A ∧ Own K mg F H v d B ∧ Dj A B ∧ t.put d ρ = some ρ' ∧
  ∀ σ' A', Sb A' (cup A B) → Slots K mg F H σ' ρ' A' → SK pr σ σ' → Q σ' H
def gTs (K : PySem.W.Frag) (mg : Str → Option Value) (pr : Nat → Bool) (ts : List T) : TGs := fun vs σ H Q => ∃ F A B ρ ds ρ', Wd F H (cup A B) ∧ Slots K mg F H σ ρ A ∧ OwnL K mg F H vs ds B ∧ Dj A B ∧ putL ts ds ρ = some ρ' ∧
  ∀ σ' A', Sb A' (cup A B) → Slots K mg F H σ' ρ' A' → SK pr σ σ' → Q σ' H
section
variable {X : Cx} {mg : Str → Option Value} {call : CallT} {W : WX} {pr : Nat → Bool}
theorem PG.weak {e : Expr} {t t' : TG} (h : PG X e t) (hw : ∀ v σ H Q, t' v σ H Q → t v σ H Q) : PG X e t' := ⟨fun pins s σ H v u Q I r q => h.run pins s σ H v u Q I r (hw v σ H Q q)⟩
theorem PGs.weak {e : List Expr} {t t' : TGs} (h : PGs X e t) (hw : ∀ v σ H Q, t' v σ H Q → t v σ H Q) : PGs X e t' := ⟨fun pins s σ H v u Q I r q => h.run pins s σ H v u Q I r (hw v σ H Q q)⟩
theorem PG.or {e : Expr} {t t' : TG} (h : PG X e t) (h' : PG X e t') : PG X e (fun v σ H Q => t v σ H Q ∨ t' v σ H Q) :=
  ⟨fun pins s σ H v u Q I r q => q.elim (h.run pins s σ H v u Q I r) (h'.run pins s σ H v u Q I r)⟩
theorem pgT_slot {i : Nat} {e : Expr} (hp : pr i = false) (h : PG X e (gName i)) : PG X e (gT X.K mg pr (.slot i)) := by
  refine PG.weak h fun v σ H Q h => ?_
  obtain ⟨F, A, B, ρ, d, ρ', w, s, o, dj, hput, q⟩ := h
  simp only [T.put] at hput
  split at hput
  · rename_i hi
    cases hput
    refine q _ (cup B A) (by rw [cup_comm]; exact Sb.rfl') (Slots.put o s dj.symm ?_) (SK.set hp)
    rw [List.getElem?_eq_getElem (by rw [s.length]; exact hi)]; rfl
  · cases hput
theorem pgT_tup {ts : List T} {es : List Expr} {k : Nat} {pos : Pos} (hc : X.calm = true) (h : PGs X es (gTs X.K mg pr ts)) (hn : (assignEach es X.env).length = ts.length) (hst : (assignEach es X.env).findIdx? (·.1) = none) :
    PG X (.Tuple es k pos) (gT X.K mg pr (.tup ts)) := by
  refine PG.weak (PG.or (pg_tup hc h hn hst) (pg_lst hc h hn hst)) fun v σ H Q h => ?_
  obtain ⟨F, A, B, ρ, d, ρ', w, s, o, dj, hput, q⟩ := h
  have len : ∀ {ts : List T} {xs : List D} {ρ ρ' : Env'}, putL ts xs ρ = some ρ' → xs.length = ts.length := by
    intro ts
    induction ts with
    | nil => intro xs ρ ρ' h; cases xs with | nil => rfl | cons _ _ => simp [putL] at h
    | cons t ts ih =>
      intro xs ρ ρ' h
      cases xs with
      | nil => simp [putL] at h
      | cons x xs =>
        simp only [putL, Option.bind_eq_some_iff] at h
        obtain ⟨ρ1, _, h⟩ := h
        rw [List.length_cons, List.length_cons, ih h]
  cases d with
  | tup xs =>
    simp only [T.put] at hput
    obtain ⟨a, vs, rfl, hq, _, fz⟩ := o.tupv (w.sub Sb.l).same
    refine .inl ⟨a, vs, rfl, hq, by rw [fz.len, len hput], F, A, no, ρ, xs, ρ', w.sub (fun z x => x.elim .inl fun y => y.elim), s, fz.own, Dj.no_r, hput, fun σ' A' sb s' sk => q σ' A' (fun z x => (sb z x).elim .inl fun y => y.elim) s' sk⟩
  | lst m xs =>
    simp only [T.put] at hput
    obtain ⟨a, vs, rfl, hq, ol⟩ := o.lstv (w.sub Sb.l).same
    exact .inr ⟨a, vs, rfl, SqL.of hq, by rw [ol.len, len hput], F, A, B, ρ, xs, ρ', w, s, ol, dj, hput, q⟩
  | _ => simp [T.put] at hput
theorem pgTs_nil : PGs X [] (gTs X.K mg pr []) := by
  refine PGs.weak pgs_nil fun vs σ H Q h => ?_
  obtain ⟨F, A, B, ρ, ds, ρ', w, s, o, dj, hput, q⟩ := h
  cases ds with
  | nil =>
    simp only [putL, Option.some.injEq] at hput
    subst hput
    cases o
    exact ⟨rfl, q σ A Sb.l s SK.refl⟩
  | cons _ _ => simp [putL] at hput
theorem pgTs_cons {t : T} {ts : List T} {e : Expr} {es : List Expr} (h1 : PG X e (gT X.K mg pr t)) (h2 : PGs X es (gTs X.K mg pr ts)) (hs : (assignEach (e :: es) X.env).map (·.2) = assign e X.env :: (assignEach es X.env).map (·.2)) :
    PGs X (e :: es) (gTs X.K mg pr (t :: ts)) := by
  refine PGs.weak (pgs_cons h1 h2 hs) fun vs σ H Q h => ?_
  obtain ⟨F, A, B, ρ, ds, ρ', w, s, o, dj, hput, q⟩ := h
  cases o with
  | nil => simp [putL] at hput
  | cons o1 o2 d12 s1 s2 =>
    rename_i v d vs ds A1 A2
    simp only [putL, Option.bind_eq_some_iff] at hput
    obtain ⟨ρ1, p1, p2⟩ := hput
    refine ⟨v, vs, rfl, F, A, A1, ρ, d, ρ1, w.sub (fun z x => x.imp id (s1 z)), s, o1, fun z x y => dj z x (s1 z y), p1, fun σ1 C sb1 sl1 sk1 => ?_⟩
    refine ⟨F, C, A2, ρ1, ds, ρ', w.sub (fun z x => x.elim (fun x => (sb1 z x).imp id (s1 z)) fun y => .inr (s2 z y)), sl1, o2, fun z x y => (sb1 z x).elim (fun x => dj z x (s2 z y)) fun x => d12 z x y, p2, fun σ2 C2 sb2 sl2 sk2 => ?_⟩
    exact q σ2 C2 (fun z x => (sb2 z x).elim (fun x => (sb1 z x).imp id (s1 z)) fun y => .inr (s2 z y)) sl2 (sk1.trans sk2)

/-! ### statements -/
def PostS (K : PySem.W.Frag) (mg : Str → Option Value) (W : WX) (pr : Nat → Bool) (F H : Hp) (A : AS) (σ : SG) (r : SR) (D : Ends) : Prop := match r with
  | .nx ρ' => ∀ σ' F' H' A', Ext F H A F' H' A' → Slots K mg F' H' σ' ρ' A' → SK pr σ σ' → D.nx σ' H'
  | .brk ρ' => ∀ σ' F' H' A', Ext F H A F' H' A' → Slots K mg F' H' σ' ρ' A' → SK pr σ σ' → D.bk σ' H'
  | .cont ρ' => ∀ σ' F' H' A', Ext F H A F' H' A' → Slots K mg F' H' σ' ρ' A' → SK pr σ σ' → D.ct σ' H'
  | .ret d ρ' => ∀ v σ' F' H' A' B, Ext F H A F' H' (cup A' B) → Slots K mg F' H' σ' ρ' A' → SK pr σ σ' → Own K mg F' H' v d B → Dj A' B → D.rt v H'
  | .err x ρ' => ∀ σ', SK pr σ σ' → PX K mg W F H A σ' x ρ'
  | .bad => False
def tS (K : PySem.W.Frag) (mg : Str → Option Value) (W : WX) (pr : Nat → Bool) (run : Env' → SR) : TS := fun D σ H => ∃ F A ρ, Wd F H A ∧ Slots K mg F H σ ρ A ∧ PostS K mg W pr F H A σ (run ρ) D
theorem PostS.pre {K : PySem.W.Frag} {F H F1 H1 : Hp} {A A1 : AS} {σ σ1 : SG} {r : SR} {D : Ends} (w : Wd F H A) (e : Ext F H A F1 H1 A1) (k : SK pr σ σ1) (p : PostS K mg W pr F H A σ r D) : PostS K mg W pr F1 H1 A1 σ1 r D := by
  cases r with
  | nx ρ' => exact fun σ' F' H' A' x s y => p σ' F' H' A' (e.trans w x) s (k.trans y)
  | brk ρ' => exact fun σ' F' H' A' x s y => p σ' F' H' A' (e.trans w x) s (k.trans y)
  | cont ρ' => exact fun σ' F' H' A' x s y => p σ' F' H' A' (e.trans w x) s (k.trans y)
  | ret d ρ' => exact fun v σ' F' H' A' B x s y => p v σ' F' H' A' B (e.trans w x) s (k.trans y)
  | err z ρ' => exact fun σ' y => (p σ' (k.trans y)).trans w e
  | bad => exact p
theorem PS.weak {e : Stmt} {t t' : TS} (h : PS X e t) (hw : ∀ D σ H, t' D σ H → t D σ H) : PS X e t' := ⟨fun pins s σ H D I q => h.run pins s σ H D I (hw D σ H q)⟩
theorem PSs.weak {e : List Stmt} {t t' : TS} (h : PSs X e t) (hw : ∀ D σ H, t' D σ H → t D σ H) : PSs X e t' := ⟨fun pins s σ H D I q => h.run pins s σ H D I (hw D σ H q)⟩
theorem preE {K : PySem.W.Frag} {e : E} {g : D → Env' → SR} {Dn : Ends} {σ : SG} {H : Hp} {Q : VK} (h : tS K mg W pr (fun ρ => (ev call e ρ).sbind g) Dn σ H)
    (hq : ∀ F A ρ d ρ1 v F' H' A' B, Wd F H A → ev call e ρ = .ok d ρ1 → Ext F H A F' H' (cup A' B) → Slots K mg F' H' σ ρ1 A' → Own K mg F' H' v d B → (shares e = true → Sb B A') → (shares e = false → Dj A' B) → PostS K mg W pr F H A σ (g d ρ1) Dn → Q v H') : tE K mg call e W σ H Q := by
  obtain ⟨F, A, ρ, w, s, p⟩ := h
  refine ⟨F, A, ρ, w, s, ?_⟩
  cases hr : ev call e ρ with
  | bad => simp only [hr, R.sbind] at p; exact p
  | err x ρ' => simp only [hr, R.sbind] at p; exact p σ SK.refl
  | ok d ρ1 =>
    simp only [hr, R.sbind] at p
    exact fun v F' H' A' B ex s' o al dj _ => hq F A ρ d ρ1 v F' H' A' B w hr ex s' o al dj p
theorem taken {K : PySem.W.Frag} {e : E} {F H : Hp} {A B : AS} {v : V} {d : D} (hc : (!shares e || d.pure) = true) (w : Wd F H (cup A B)) (o : Own K mg F H v d B) (dj : shares e = false → Dj A B) : ∃ B', Own K mg F H v d B' ∧ Dj A B' ∧ Sb B' B := by
  cases ha : shares e with
  | false => exact ⟨B, o, dj ha, Sb.rfl'⟩
  | true =>
    simp only [ha, Bool.not_true, Bool.false_or] at hc
    exact ⟨no, .fz (o.fzd hc), Dj.no_r, Sb.no_l⟩
theorem cupSb {A B B' : AS} (h : Sb B' B) : Sb (cup A B') (cup A B) := fun z x => x.imp id (h z)
theorem psE_asg {e : E} {t : T} {st : Stmt} (h : PS X st (tAsg (tE X.K mg call e W) (gT X.K mg pr t))) : PS X st (tS X.K mg W pr (ex call (.asg t e))) := by
  refine PS.weak h fun D σ H h => ?_
  simp only [tS, ex] at h
  refine preE h fun F A ρ d ρ1 v F' H' A' B w hr ex s' o al dj p => ?_
  split at p
  · rename_i hc
    obtain ⟨B', o', dj', sb⟩ := taken hc ex.wd o dj
    split at p
    · rename_i ρ2 hput
      refine ⟨F', A', B', ρ1, d, ρ2, ex.wd.sub (cupSb sb), s', o', dj', hput, fun σ' C sc sl sk => ?_⟩
      exact p σ' F' H' C (ex.sub (fun z x => cupSb sb z (sc z x))) sl sk
    · exact p.elim
  · exact p.elim
theorem psE_expr {e : E} {a : Expr} {pos : Pos} (hs : swapsWith a none pos.line X.env = pure false) (h : PE X a (tE X.K mg call e W)) : PS X (.Expr a pos) (tS X.K mg W pr (ex call (.expr e))) := by
  refine PS.weak (ps_expr h hs) fun D σ H h => ?_
  simp only [tS, ex] at h
  exact preE h fun F A ρ d ρ1 v F' H' A' B w hr ex s' o al dj p => p σ F' H' A' (ex.sub Sb.l) s' SK.refl
theorem psE_ret {e : E} {a : Expr} {pos : Pos} (h : PE X a (tE X.K mg call e W)) : PS X (.Return (some a) pos) (tS X.K mg W pr (ex call (.ret e))) := by
  refine PS.weak (ps_ret h) fun D σ H h => ?_
  simp only [tS, ex] at h
  refine preE h fun F A ρ d ρ1 v F' H' A' B w hr ex s' o al dj p => ?_
  split at p
  · rename_i hc
    obtain ⟨B', o', dj', sb⟩ := taken hc ex.wd o dj
    exact p v σ F' H' A' B' (ex.sub (cupSb sb)) s' SK.refl o' dj'
  · exact p.elim
theorem psE_retN {pos : Pos} : PS X (.Return none pos) (tS X.K mg W pr (ex call .retN)) := by
  refine PS.weak ps_retN fun D σ H h => ?_
  obtain ⟨F, A, ρ, w, s, p⟩ := h
  exact p .non σ F H A no (by rw [cup_no']; exact Ext.refl w) s SK.refl (.fz .non) Dj.no_r
theorem psE_pass {pos : Pos} : PS X (.Pass pos) (tS X.K mg W pr (ex call .pass)) := by
  refine PS.weak ps_pass fun D σ H h => ?_
  obtain ⟨F, A, ρ, w, s, p⟩ := h
  exact p σ F H A (Ext.refl w) s SK.refl
theorem psE_bad {st : Stmt} : PS X st (tS X.K mg W pr (ex call .bad)) := by
  refine PS.weak ps_never fun D σ H h => ?_
  obtain ⟨F, A, ρ, w, s, p⟩ := h
  exact p
theorem pssE_nil : PSs X [] (tS X.K mg W pr (exs call [])) := by
  refine PSs.weak pss_nil fun D σ H h => ?_
  obtain ⟨F, A, ρ, w, s, p⟩ := h
  exact p σ F H A (Ext.refl w) s SK.refl
theorem pssE_cons {st : S} {r : List S} {a : Stmt} {as : List Stmt} (h1 : PS X a (tS X.K mg W pr (ex call st))) (h2 : PSs X as (tS X.K mg W pr (exs call r))) : PSs X (a :: as) (tS X.K mg W pr (exs call (st :: r))) := by
  refine PSs.weak (pss_cons h1 h2) fun D σ H h => ?_
  obtain ⟨F, A, ρ, w, s, p⟩ := h
  refine ⟨F, A, ρ, w, s, ?_⟩
  simp only [exs] at p
  cases hr : ex call st ρ with
  | nx ρ1 =>
    simp only [hr] at p
    exact fun σ' F' H' A' x sl sk => ⟨F', A', ρ1, x.wd, sl, p.pre w x sk⟩
  | brk ρ1 => simp only [hr] at p; exact p
  | cont ρ1 => simp only [hr] at p; exact p
  | ret d ρ1 => simp only [hr] at p; exact p
  | err x ρ1 => simp only [hr] at p; exact p
  | bad => simp only [hr] at p; exact p
theorem pssE_frz {i : Nat} {r : List S} {as : List Stmt} (h2 : PSs X as (tS X.K mg W pr (exs call r))) : PSs X as (tS X.K mg W pr (exs call (.frz i :: r))) := by
  refine PSs.weak (PSs.lockd h2) fun D σ H h => ?_
  obtain ⟨F, A, ρ, w, s, p⟩ := h
  simp only [exs, ex] at p
  cases hi : ρ[i]? with
  | none => simp only [hi] at p; exact p.elim
  | some o =>
    cases o with
    | none => simp only [hi] at p; exact p.elim
    | some d =>
      simp only [hi] at p
      by_cases hc : d.cand = true
      · simp only [hc, if_true] at p
        obtain ⟨v, L, hv, hL, go⟩ := slot_frz w s hi hc
        refine ⟨L, hL, fun H2 lk => ?_⟩
        obtain ⟨F', A', e, sl, fz⟩ := go H2 lk
        exact ⟨F', A', _, e.wd, sl, p.pre w e SK.refl⟩
      · simp only [hc] at p; exact p.elim
end
end VI

namespace VI
variable [Tn]
open PySem PySem.Spec PyProof.Rows L2
section
variable {X : Cx} {mg : Str → Option Value} {call : CallT} {W : WX} {pr : Nat → Bool}
theorem psE_ifs {c : E} {a b : List S} {ac : Expr} {as bs : List Stmt} {pos : Pos} (hc : PT X ac (tT X.K mg call c W)) (ha : PSs X as (tS X.K mg W pr (exs call a))) (hb : PSs X bs (tS X.K mg W pr (exs call b))) :
    PS X (.If ac as bs pos) (tS X.K mg W pr (ex call (.ifs c a b))) := by
  refine PS.weak (ps_if hc ha hb) fun D σ H h => ?_
  obtain ⟨F, A, ρ, w, s, p⟩ := h
  refine ⟨F, A, ρ, w, s, ?_⟩
  simp only [ex] at p
  cases hr : ev call c ρ with
  | bad => simp only [hr, R.sbind] at p; exact p
  | err x ρ' => simp only [hr, R.sbind] at p; exact p σ SK.refl
  | ok d ρ1 =>
    simp only [hr, R.sbind] at p
    cases hk : truD d with
    | none => simp only [hk] at p; exact p.elim
    | some k =>
      refine ⟨k, hk, fun F' H' A' e s' => ?_⟩
      cases k with
      | true =>
        simp only [hk] at p
        rw [if_pos rfl]
        exact ⟨F', A', ρ1, e.wd, s', p.pre w e SK.refl⟩
      | false =>
        simp only [hk] at p
        rw [if_neg Bool.false_ne_true]
        exact ⟨F', A', ρ1, e.wd, s', p.pre w e SK.refl⟩
theorem psE_for {t : T} {k : ItK} {es : List E} {b : List S} {st : Stmt} (h : PS X st (tFor (tI X.K mg call W k es) (gT X.K mg pr t) (tS X.K mg W pr (exs call b)))) : PS X st (tS X.K mg W pr (ex call (.fors t k es b))) := by
  refine PS.weak h fun D σ H h => ?_
  obtain ⟨F, A, ρ, w, s, p⟩ := h
  simp only [ex] at p
  refine ⟨F, A, ρ, w, s, ?_⟩
  cases hr : evC call es ρ with
  | bad => simp only [hr, R.sbind] at p; exact p
  | err x ρ' => simp only [hr, R.sbind] at p; exact p σ SK.refl
  | ok ds ρ1 =>
    simp only [hr, R.sbind] at p
    by_cases hc : canL ds = true
    · rw [if_pos hc] at p
      cases hx : itD k (frzL ds) with
      | none => simp only [hx] at p; exact p.elim
      | some xs =>
        simp only [hx] at p
        refine ⟨hc, xs, hx, fun J F1 H1 A1 e1 s1 iw => ?_⟩
        refine ⟨fun i m σ H => i ≤ xs.length ∧ m = xs.length - i ∧ ∃ F A ρ, Same F1 F ∧ Wd F H A ∧ Slots X.K mg F H σ ρ A ∧ PostS X.K mg W pr F H A σ (forLoop (fun x ρ => match t.put x ρ with
          | some ρ' => exs call b ρ'
          | none => .bad) (xs.drop i) ρ) D, ⟨xs.length, Nat.zero_le _, by simp, F1, A1, ρ1, fun _ _ e => e, e1.wd, s1, by rw [List.drop_zero]; exact p.pre w e1 SK.refl⟩, ?_⟩
        rintro i m σ2 H2 ⟨hi, rfl, F2, A2, ρ2, sm, w2, s2, p2⟩
        have iw2 := iw.up sm
        by_cases hlt : i < xs.length
        · refine .inr ⟨iw2.goes i H2 hlt w2.same, _, fun σ' H' h' => ⟨xs.length - (i + 1), by omega, h'⟩, fun x H3 y => ?_⟩
          obtain ⟨d, F3, hd, e3, fz, sm3⟩ := iw2.item w2 hlt y
          have hdr : xs.drop i = d :: xs.drop (i + 1) := by
            rw [List.drop_eq_getElem_cons hlt]
            rw [List.getElem?_eq_getElem hlt] at hd
            cases hd; rfl
          rw [hdr] at p2
          simp only [forLoop] at p2
          cases ht : t.put d ρ2 with
          | none => simp only [ht] at p2; exact p2.elim
          | some ρ3 =>
            simp only [ht] at p2
            refine ⟨F3, A2, no, ρ2, d, ρ3, by rw [cup_no']; exact e3.wd, ?_, .fz fz, Dj.no_r, ht, fun σ4 A4 sb4 sl4 sk4 => ?_⟩
            · exact Slots.move e3.fsame s2 fun a o _ h => sm3 a o h
            · have sb4' : Sb A4 A2 := fun z x => (sb4 z x).elim id fun z => z.elim
              have e4 := e3.sub sb4'
              refine ⟨F3, A4, ρ3, e4.wd, sl4, ?_⟩
              have again : ∀ {ρ5}, PostS X.K mg W pr F2 H2 A2 σ2 (forLoop (fun x ρ => match t.put x ρ with
                  | some ρ' => exs call b ρ'
                  | none => .bad) (xs.drop (i + 1)) ρ5) D → ∀ σ' F' H' A', Ext F3 H3 A4 F' H' A' → Slots X.K mg F' H' σ' ρ5 A' → SK pr σ4 σ' → (i + 1 ≤ xs.length ∧ xs.length - (i + 1) = xs.length - (i + 1) ∧ ∃ F A ρ, Same F1 F ∧ Wd F H' A ∧ Slots X.K mg F H' σ' ρ A ∧ PostS X.K mg W pr F H' A σ' (forLoop (fun x ρ => match t.put x ρ with
                  | some ρ' => exs call b ρ'
                  | none => .bad) (xs.drop (i + 1)) ρ) D) := fun {ρ5} p5 σ' F' H' A' x sl sk =>
                ⟨hlt, rfl, F', A', ρ5, sm.trans (e3.fsame.trans x.fsame), x.wd, sl, p5.pre w2 (e4.trans w2 x) (sk4.trans sk)⟩
              cases hb : exs call b ρ3 with
              | nx ρ5 => simp only [hb] at p2; exact again p2
              | cont ρ5 => simp only [hb] at p2; exact again p2
              | brk ρ5 => simp only [hb] at p2; exact p2.pre w2 e4 sk4
              | ret d ρ5 => simp only [hb] at p2; exact p2.pre w2 e4 sk4
              | err z ρ5 => simp only [hb] at p2; exact p2.pre w2 e4 sk4
              | bad => simp only [hb] at p2; exact p2
        · have e : i = xs.length := by omega
          subst e
          refine .inl ⟨iw2.stops H2 w2.same, ?_⟩
          rw [List.drop_length] at p2
          exact p2 σ2 F2 H2 A2 (Ext.refl w2) s2 SK.refl
    · rw [if_neg hc] at p; exact p.elim
end
end VI

namespace VI
open PySem PySem.Spec PyProof.Rows L2
end VI

namespace VI
variable [Tn]
open PySem PySem.Spec PyProof.Rows L2
section
variable {K : PySem.W.Frag} {mg : Str → Option Value}
theorem OwnL.append {F H : Hp} : ∀ {vs : List V} {ds : List D} {ws : List V} {es : List D} {B B1 : AS}, OwnL K mg F H vs ds B → OwnL K mg F H ws es B1 → Dj B B1 → OwnL K mg F H (vs ++ ws) (ds ++ es) (cup B B1)
  | _, _, _, _, B, B1, .nil, h, _ => h.sub Sb.r
  | _, _, _, _, B, B1, .cons o r d s1 s2, h, dj =>
    .cons o (OwnL.append r h fun a x y => dj a (s2 a x) y) (fun a x y => y.elim (d a x) (dj a (s1 a x))) (s1.trans Sb.l) (cupSb' s2)
where cupSb' {A B C : AS} (h : Sb A B) : Sb (cup A C) (cup B C) := fun z x => x.imp (h z) id
theorem OwnL.focus {F H : Hp} : ∀ {vs : List V} {ds : List D} {B : AS} {j : Nat} {d : D}, OwnL K mg F H vs ds B → ds[j]? = some d →
    ∃ v Bj Br, vs[j]? = some v ∧ Own K mg F H v d Bj ∧ Dj Bj Br ∧ Sb Bj B ∧ Sb Br B ∧ ∀ F' H' v' d' Bj', Same F F' → (∀ a o, Br a → H a = some o → H' a = some o) → Own K mg F' H' v' d' Bj' → Dj Bj' Br → OwnL K mg F' H' (vs.set j v') (ds.set j d') (cup Bj' Br)
  | _, _, _, _, _, .nil, h => by simp at h
  | _, _, B, 0, d, .cons (v := v) o r dj s1 s2, h => by
    simp at h
    subst h
    exact ⟨v, _, _, rfl, o, dj, s1, s2, fun F' H' v' d' Bj' sf k o' dj' => .cons o' (OwnL.move sf k r) dj' Sb.l Sb.r⟩
  | _, _, B, j + 1, d, .cons (v := w) (A1 := A1) o r dj s1 s2, h => by
    simp at h
    obtain ⟨v, Bj, Br, h1, h2, h3, h4, h5, h6⟩ := OwnL.focus r h
    refine ⟨v, Bj, cup A1 Br, by simpa using h1, h2, fun a x y => y.elim (fun y => dj a y (h4 a x)) (h3 a x), h4.trans s2, fun a x => x.elim (s1 a) fun x => s2 a (h5 a x), fun F' H' v' d' Bj' sf k o' dj' => ?_⟩
    have r' := h6 F' H' v' d' Bj' sf (fun a o x => k a o (.inr x)) o' fun a x y => dj' a x (.inr y)
    exact .cons (Own.move sf (fun a u x => k a u (.inl x)) o) r' (fun a x y => y.elim (fun y => dj' a y (.inl x)) fun y => dj a x (h5 a y)) (fun a x => .inr (.inl x)) (fun a x => x.imp id .inr)
end
section
variable {X : Cx} {mg : Str → Option Value} {call : CallT} {W : WX} {pr : Nat → Bool}
/-! ### append, extend -/
def pickM : Mo → Str
  | .append => "append" | .extend => "extend" | .insert => "insert"
def rInsert : V → List V → Hp → VK → Prop := fun x vs H Q => ∃ (l : Addr) (xs : List V) (i : Int) (y : V), x = .ref l ∧ vs = [.int i, y] ∧ H l = some (.lst xs) ∧ xs.length < sizeLine ∧ 0 ≤ i ∧ i < 2 ^ 63 ∧ Q .non (upd H l (.lst (xs.take i.toNat ++ [y] ++ xs.drop i.toNat)))
theorem mt_insertR : MtR X "list.insert" rInsert := mt_insert
def rMo : Mo → V → List V → Hp → VK → Prop
  | .append => rAppend | .extend => rExtend | .insert => rInsert
theorem mo_run {o : Mo} {F H : Hp} {A A1 A2 B : AS} {x : V} {vs : List V} {d d' r : D} {ds : List D} {Q : VK} (w : Wd F H (cup (cup A1 A2) B)) (ox : Own X.K mg F H x d A1) (d1 : Dj A1 A2) (d2 : Dj (cup A1 A2) B) (ol : OwnL X.K mg F H vs ds B) (hm : moD o d ds = some (d', r))
    (q : ∀ H' A1', Ext F H (cup (cup A1 A2) B) F H' (cup A1' A2) → Own X.K mg F H' x d' A1' → Dj A1' A2 → (∀ a u, A2 a → H a = some u → H' a = some u) → r = .non → Q .non H') : rMo o x vs H Q := by
  have main : ∀ {a : Addr} {ws : List V} {es ds1 : List D} {zs : List V} {C : AS}, x = .ref a → d = .lst true es → H a = some (.lst ws) → A1 a → ¬ C a → Sb C A1 → OwnL X.K mg F H ws es C → OwnL X.K mg F H zs ds1 B → d' = .lst true (es ++ ds1) → r = .non → Q .non (upd H a (.lst (ws ++ zs))) := by
    intro a ws es ds1 zs C ex ed ha h1 h2 h3 h4 h5 e1 e2
    subst ex ed e1 e2
    have wa : Wd F H (cup (cup A1 A2) B) := w
    have e := Ext.put (o := .lst (ws ++ zs)) w (p := a) (.inl (.inl h1)) (FkO.of ha)
    have nB : ∀ c, B c → c ≠ a := fun c hc z => d2 a (.inl h1) (z ▸ hc)
    have keep : ∀ c u, c ≠ a → H c = some u → upd H a (.lst (ws ++ zs)) c = some u := fun c u hc hu => by rw [upd_ne hc]; exact hu
    refine q _ (cup A1 B) (e.sub fun c hc => ?_) (.lst (B := cup C B) upd_same (.inl h1) (fun z => z.elim h2 fun z => nB a z rfl) (fun c hc => hc.imp (h3 c) id) ?_) (fun c hc => hc.elim (d1 c) fun hb hc => d2 c (.inr hc) hb) (fun c u hc hu => keep c u (fun z => d1 a h1 (z ▸ hc)) hu) rfl
    · rcases hc with (hc | hc) | hc
      · exact .inl (.inl hc)
      · exact .inr hc
      · exact .inl (.inr hc)
    · exact OwnL.append (OwnL.move (fun _ _ e => e) (fun c u hc hu => keep c u (fun z => h2 (z ▸ hc)) hu) h4) (OwnL.move (fun _ _ e => e) (fun c u hc hu => keep c u (nB c hc) hu) h5) fun c x y => d2 c (.inl (h3 c x)) y
  cases o with
  | append =>
    unfold moD at hm
    split at hm <;> first | contradiction | skip
    · split at hm
      · rename_i _ _ _ es dd heq hl
        cases hm
        cases ox with
        | fz z => exact absurd z.pure (by simp [D.pure])
        | lst ha h1 h2 h3 h4 =>
          cases ol with
          | cons oy r dj s1 s2 =>
            cases r
            refine ⟨_, _, _, rfl, rfl, ha, by rw [szl, h4.len]; exact hl, ?_⟩
            exact main rfl rfl ha h1 h2 h3 h4 (.cons oy .nil dj s1 s2) rfl rfl
      · cases hm
  | extend =>
    unfold moD at hm
    split at hm <;> first | contradiction | skip
    · split at hm
      · rename_i _ _ _ es m ys heq hl
        cases hm
        simp only [Bool.and_eq_true, decide_eq_true_eq] at hl
        cases ox with
        | fz z => exact absurd z.pure (by simp [D.pure])
        | lst ha h1 h2 h3 h4 =>
          cases ol with
          | cons oy r dj s1 s2 =>
            cases r
            obtain ⟨b, zs, rfl, hb, oz⟩ := oy.lstv w.same
            have fz := oz.fzd hl.1
            refine ⟨_, _, _, _, rfl, rfl, ha, hb, by rw [szl, h4.len, fz.len]; exact hl.2, ?_⟩
            exact main rfl rfl ha h1 h2 h3 h4 (OwnL.sub Sb.no_l fz.own) rfl rfl
      · cases hm
  | insert =>
    unfold moD at hm
    split at hm <;> first | contradiction | skip
    · split at hm
      · rename_i _ _ es i dd heq hl
        cases hm
        obtain ⟨hl, h0, h63, p1, p2⟩ := hl
        cases ox with
        | fz z => exact absurd z.pure (by simp [D.pure])
        | lst ha h1 h2 h3 h4 =>
          rename_i a ws C
          have f1 := h4.fzd p1
          cases ol with
          | cons oi r dj s1 s2 =>
            cases r with
            | @cons y _ _ _ _ _ _ oy r dj2 s3 s4 =>
              cases r
              have f2 := oy.fzd p2
              refine ⟨a, ws, i, _, rfl, by rw [oi.int], ha, by rw [szl, h4.len]; exact hl, h0, h63, ?_⟩
              have f3 := ((f1.take i.toNat).append (.cons f2 .nil)).append (f1.drop i.toNat)
              have e := Ext.put (o := .lst (ws.take i.toNat ++ [y] ++ ws.drop i.toNat)) w (p := a) (.inl (.inl h1)) (FkO.of ha)
              refine q _ A1 (e.sub fun c hc => ?_) (.lst (B := no) upd_same h1 (fun z => z) Sb.no_l f3.own) d1 (fun c u hc hu => ?_) rfl
              rotate_left
              · have nc : c ≠ a := fun z => d1 a h1 (z ▸ hc)
                rw [upd_ne nc]; exact hu
              rcases hc with hc | hc
              · exact .inl (.inl hc)
              · exact .inl (.inr hc)
      · cases hm
theorem pe_mutE {o : Mo} {i : Nat} {as : List E} {ast : Expr} (h : PE X ast (tBM X.K "list" (rMo o) (tVar i) (tCs X.K mg call W as))) : PE X ast (tE X.K mg call (.mut o i [] as) W) := by
  refine PE.weak h fun σ H Q h => ?_
  obtain ⟨F, A, ρ, w, s, p⟩ := h
  simp only [ev, evR, R.bind, intsO] at p
  cases h0 : ρ[i]? with
  | none => simp only [h0] at p; exact p.elim
  | some o0 =>
  cases o0 with
  | none => simp only [h0] at p; exact p.elim
  | some d0 =>
  simp only [h0] at p
  obtain ⟨v, A1, A2, hv, ox, _, _, _, _⟩ := s.get h0
  split at p
  · rename_i hc
    simp only [Bool.and_eq_true] at hc
    refine ⟨v, hv, ?_, ?_⟩
    · have := hc.1
      unfold isPath at this
      split at this <;> first | contradiction | skip
      · obtain ⟨a, ws, rfl, ha, _⟩ := ox.lstv w.same
        exact .inl ⟨rfl, ws, SqL.of ha⟩
    · refine seqC as w s ?_
      cases hr : evC call as ρ with
      | bad => simp only [hr] at p; exact p
      | err z ρ' => simp only [hr] at p; exact p
      | ok ds ρ2 =>
        simp only [hr] at p
        intro vs F1 H1 A1 B1 e1 s1 ol dj _
        cases h1 : ρ2[i]? with
        | none => simp only [h1] at p; exact p.elim
        | some o1 =>
        cases o1 with
        | none => simp only [h1] at p; exact p.elim
        | some d1 =>
        simp only [h1, atPath] at p
        cases h2 : moD o d1 ds with
        | none => simp only [h2] at p; exact p.elim
        | some pr =>
          obtain ⟨d', r⟩ := pr
          simp only [h2] at p
          obtain ⟨v2, C1, C2, g1, g2, g3, g4, g5, g6⟩ := s1.get h1
          rw [hv] at g1
          cases g1
          have sub : Sb (cup (cup C1 C2) B1) (cup A1 B1) := fun z x => x.imp (fun x => x.elim (g5 z) (g6 z)) id
          refine mo_run (A := no) (e1.wd.sub sub) g2 g4 (fun z x => x.elim (fun x => dj z (g5 z x)) fun x => dj z (g6 z x)) ol h2 fun H' C1' e2 o2 d2 kk er => ?_
          subst er
          have s3 := Slots.move e2.fsame g3 fun a u h h' => kk a u h h'
          have s4 := put_back hv o2 s3 d2
          have : (ρ2.set i none).set i (some d') = ρ2.set i (some d') := by rw [List.set_set]
          rw [this] at s4
          refine p .non F1 H' _ no ?_ s4 (.fz .non) (fun z => by simp [shares] at z) (fun _ => Dj.no_r) fun z => by simp [quiet] at z
          rw [cup_no']
          exact (e1.sub sub).trans w e2
  · exact p.elim
/-! ### stores -/
theorem ixN_lt {n j : Nat} {k : Int} (h : ixN n k = some j) : j < n := by
  unfold ixN at h
  split at h <;> first | (cases h; omega) | skip
  all_goals (split at h <;> first | (cases h; omega) | cases h)
theorem set_in {F H : Hp} {A1 B : AS} {v u : V} {ys : List D} {d : D} {k : Int} {j : Nat} (o : Own X.K mg F H v (.lst true ys) A1) (hk : ixN ys.length k = some j) (od : Own X.K mg F H u d B) (dj : Dj A1 B) :
    ∃ a ws, v = .ref a ∧ H a = some (.lst ws) ∧ ixN ws.length k = some j ∧ A1 a ∧ Own X.K mg F (upd H a (.lst (ws.set j u))) v (.lst true (ys.set j d)) (cup A1 B) := by
  cases o with
  | fz z => exact absurd z.pure (by simp [D.pure])
  | lst ha h1 h2 h3 h4 =>
    rename_i a ws C
    obtain ⟨w, Bj, Br, e1, _, e3, e4, e5, e6⟩ := h4.focus (List.getElem?_eq_getElem (ixN_lt hk))
    have nB : ∀ c, B c → c ≠ a := fun c hc z => dj a h1 (z ▸ hc)
    have hl : ∀ c x, c ≠ a → H c = some x → upd H a (.lst (ws.set j u)) c = some x := fun c x hc hx => by rw [upd_ne hc]; exact hx
    refine ⟨a, ws, rfl, ha, by rw [h4.len]; exact hk, h1, .lst (B := cup B Br) upd_same (.inl h1) (fun z => z.elim (fun z => nB a z rfl) fun z => h2 (e5 a z)) (fun c hc => hc.elim .inr fun z => .inl (h3 c (e5 c z))) ?_⟩
    exact e6 F _ u d B (fun _ _ e => e) (fun c x hc hx => hl c x (fun z => h2 (z ▸ e5 c hc)) hx) (Own.move (fun _ _ e => e) (fun c x hc hx => hl c x (nB c hc) hx) od) fun c hc hr => dj c (h3 c (e5 c hr)) hc
theorem setO_some {k : Int} {d x y r : D} (h : setO k d x = some (y, r)) : ∃ ys j, x = .lst true ys ∧ ixN ys.length k = some j ∧ y = .lst true (ys.set j d) := by
  unfold setO at h
  split at h
  · simp only [setAt, Option.map_eq_some_iff] at h
    obtain ⟨zs, ⟨j, h1, rfl⟩, h2⟩ := h
    cases h2
    exact ⟨_, j, rfl, h1, rfl⟩
  · cases h
theorem store_end {F H F' H' : Hp} {A A' A1 A2 B : AS} {σ : SG} {ρ : Env'} {i : Nat} {a : Addr} {o : HO} {v : V} {x' : D} {W : WX} {Dn : Ends} (w : Wd F H A) (e : Ext F H A F' H' (cup A' B)) (hv : σ[i]? = some (some v)) (hs : Slots X.K mg F' H' σ (ρ.set i none) A2) (s1 : Sb A1 A') (s2 : Sb A2 A') (dj : Dj A1 A2) (djB : Dj A' B) (ha : A1 a) (fo : FkO (H' a) o)
    (ho : Own X.K mg F' (upd H' a o) v x' (cup A1 B)) (p : PostS X.K mg W pr F H A σ (.nx (ρ.set i (some x'))) Dn) (mu : Mtb o := by exact True.intro) : Dn.nx σ (upd H' a o) := by
  have e2 := Ext.put (o := o) e.wd (p := a) (.inl (s1 a ha)) fo mu
  have hs2 : Slots X.K mg F' (upd H' a o) σ (ρ.set i none) A2 := Slots.move (fun _ _ e => e) hs fun c x hc hx => by
    rw [upd_ne (fun z => dj a ha (by rw [← z]; exact hc))]; exact hx
  have s4 := put_back hv ho hs2 fun c hc h2 => hc.elim (fun hc => dj c hc h2) fun hb => djB c (s2 c h2) hb
  have : (ρ.set i none).set i (some x') = ρ.set i (some x') := by rw [List.set_set]
  rw [this] at s4
  refine p σ F' _ (cup (cup A1 B) A2) ((e.trans w e2).sub fun c hc => ?_) s4 SK.refl
  rcases hc with (hc | hc) | hc
  · exact .inl (s1 c hc)
  · exact .inr hc
  · exact .inl (s2 c hc)
theorem psE_store0 {i : Nat} {ix e : E} {st : Stmt} (h : PS X st (tAsg (tE X.K mg call e W) (gSub (tVar i) (tE X.K mg call ix W) rSetL))) : PS X st (tS X.K mg W pr (ex call (.store i [] ix e))) := by
  refine PS.weak h fun D σ H h => ?_
  simp only [tS, ex] at h
  refine preE h fun F A ρ d ρ1 v F1 H1 A1 B w hr e1 s1 o1 al dj p => ?_
  cases h0 : ρ1[i]? with
  | none => simp only [h0] at p; exact p.elim
  | some o0 =>
  cases o0 with
  | none => simp only [h0] at p; exact p.elim
  | some x =>
  simp only [h0] at p
  by_cases hc : (!shares e || d.pure) && quietL [] && quiet ix
  · rw [if_pos hc] at p
    simp only [Bool.and_eq_true] at hc
    obtain ⟨⟨hc, _⟩, hq⟩ := hc
    simp only [evR, R.sbind, intsO] at p
    by_cases hp : isPath [] x = true
    · rw [if_pos hp] at p
      obtain ⟨u, C1, C2, g1, g2, g3, g4, g5, g6⟩ := s1.get h0
      obtain ⟨B', o', dj', sb⟩ := taken hc e1.wd o1 dj
      refine ⟨u, g1, F1, A1, ρ1, e1.wd.sub Sb.l, s1, ?_⟩
      cases hk : ev call ix ρ1 with
      | bad => simp only [hk] at p; exact p
      | err z ρ' => simp only [hk] at p; exact (p σ SK.refl).trans w (e1.sub Sb.l)
      | ok k ρ3 =>
        simp only [hk] at p
        intro kv F2 H2 A2 B2 e2 s2 o2 _ _ q
        obtain ⟨q1, q2, q3⟩ := q hq
        subst q1 q3
        cases k <;> simp only at p <;> try exact p.elim
        rename_i k
        cases hset : atPath (setO k d) [] x with
        | none => simp only [hset] at p; exact p.elim
        | some xr =>
          obtain ⟨x', r⟩ := xr
          simp only [hset] at p
          simp only [atPath] at hset
          obtain ⟨ys, j, rfl, hj, rfl⟩ := setO_some hset
          have eB := Ext.frame (e1.wd.sub (cupSb sb)) dj' (e2.sub Sb.l)
          have g2' : Own X.K mg F2 H2 u (.lst true ys) C1 := Own.move e2.fsame (fun a o _ h => q2 a o h) g2
          have o'' : Own X.K mg F2 H2 v d B' := Own.move e2.fsame (fun a o _ h => q2 a o h) o'
          obtain ⟨a, ws, rfl, ha, hw, hA, ho⟩ := set_in g2' hj o'' fun c x y => dj' c (g5 c x) y
          refine ⟨a, ws, k, j, rfl, o2.int, ha, hw, ?_⟩
          exact store_end w ((e1.sub (cupSb sb)).trans w eB.1) g1 (Slots.move e2.fsame g3 fun a o _ h => q2 a o h) g5 g6 g4 dj' hA (FkO.of ha) ho p
    · rw [if_neg hp] at p; exact p.elim
  · rw [if_neg hc] at p; exact p.elim
theorem tR_mono {e : E} {σ : SG} {H : Hp} {Q Q' : VK} (h : ∀ v H, Q v H → Q' v H) (t : tR X.K mg call W e σ H Q) : tR X.K mg call W e σ H Q' := by
  unfold tR at t ⊢
  cases hv : varOf e with
  | some i => rw [hv] at t; obtain ⟨v, hv, q⟩ := t; exact ⟨v, hv, h _ _ q⟩
  | none => rw [hv] at t; obtain ⟨F, A, ρ, w, s, p⟩ := t; exact ⟨F, A, ρ, w, s, p.imp h⟩
theorem atI_some {α : Type} {xs : List α} {k : Int} {x : α} (h : atI xs k = some x) : ∃ j, ixN xs.length k = some j ∧ xs[j]? = some x := by
  unfold atI at h
  cases q : ixN xs.length k with
  | none => rw [q] at h; cases h
  | some j => rw [q] at h; exact ⟨j, rfl, h⟩
theorem atI_of {α : Type} {xs : List α} {k : Int} {x : α} {j : Nat} (h : ixN xs.length k = some j) (h' : xs[j]? = some x) : atI xs k = some x := by
  unfold atI; rw [h]; exact h'
theorem isPath1 {j : Int} {x : VI.D} (h : isPath [j] x = true) : ∃ xs y, x = .lst true xs ∧ atD xs j = some y := by
  cases x with
  | lst m xs =>
    cases m with
    | true =>
      simp only [isPath] at h
      cases hy : atD xs j with
      | none => rw [hy] at h; cases h
      | some y => exact ⟨xs, y, rfl, hy⟩
    | false => simp [isPath] at h
  | _ => simp [isPath] at h
theorem psE_store1 {i : Nat} {p1 ix e : E} {st : Stmt} (h : PS X st (tAsg (tE X.K mg call e W) (gSub (tOp (rIxL X.K) (tVar i) (tR X.K mg call W p1)) (tE X.K mg call ix W) rSetL))) : PS X st (tS X.K mg W pr (ex call (.store i [p1] ix e))) := by
  refine PS.weak h fun D σ H h => ?_
  simp only [tS, ex] at h
  refine preE h fun F A ρ d ρ1 v F1 H1 A1 B w hr e1 s1 o1 al dj p => ?_
  cases h0 : ρ1[i]? with
  | none => simp only [h0] at p; exact p.elim
  | some o0 =>
  cases o0 with
  | none => simp only [h0] at p; exact p.elim
  | some x =>
  simp only [h0] at p
  by_cases hc : (!shares e || d.pure) && quietL [p1] && quiet ix
  · rw [if_pos hc] at p
    simp only [Bool.and_eq_true] at hc
    obtain ⟨⟨hc, hqp⟩, hq⟩ := hc
    obtain ⟨u, C1, C2, g1, g2, g3, g4, g5, g6⟩ := s1.get h0
    obtain ⟨B', o', dj', sb⟩ := taken hc e1.wd o1 dj
    refine ⟨u, g1, ?_⟩
    have hR : tRs X.K mg call W [p1] σ H1 fun ks H3 => ∃ k, ks = [k] ∧ rIxL X.K u k H3 fun o H2 => tE X.K mg call ix W σ H2 fun k H3 => rSetL o k v H3 fun H4 => D.nx σ H4 := by
      refine seqR [p1] (e1.wd.sub Sb.l) s1 ?_
      cases hi : evR call [p1] ρ1 with
      | bad => simp only [hi, R.sbind] at p; exact p
      | err z ρ' => simp only [hi, R.sbind] at p; exact (p σ SK.refl).trans w (e1.sub Sb.l)
      | ok is ρ2 =>
        simp only [hi, R.sbind] at p
        intro ks F2 H2 A2 e2 s2 rl q
        obtain ⟨q1, q2, q3⟩ := q hqp
        subst q1 q3
        cases hj : intsO is with
        | none => simp only [hj] at p; exact p.elim
        | some js =>
        simp only [hj] at p
        by_cases hp : isPath js x = true
        · rw [if_pos hp] at p
          have hll := rl.lens
          rw [intsO_some hj] at rl hll
          match js, hll with
          | [j0], _ =>
          obtain ⟨kv, Bk, rfl, ok⟩ := rl.d1
          obtain ⟨xs, y, rfl, hat⟩ := isPath1 hp
          obtain ⟨jj, hjj, hy⟩ := atI_some hat
          have mv : ∀ {A : AS} a o, A a → H1 a = some o → H2 a = some o := fun a o _ h => q2 a o h
          have g2' : Own X.K mg F2 H2 u (.lst true xs) C1 := Own.move e2.fsame mv g2
          cases g2' with
          | fz z => exact absurd z.pure (by simp [VI.D.pure])
          | lst ha h1 h2 h3 h4 =>
          rename_i a ws C
          obtain ⟨w1, Bj, Br, f1, f2, f3, f4, f5, f6⟩ := h4.focus hy
          refine ⟨kv, rfl, a, ws, j0, w1, rfl, ok.int, SqL.of ha, atI_of (by rw [h4.len]; exact hjj) f1, ?_⟩
          refine ⟨F2, A2, ρ2, e2.wd, s2, ?_⟩
          cases hk : ev call ix ρ2 with
          | bad => simp only [hk] at p; exact p
          | err z ρ' => simp only [hk] at p; exact (p σ SK.refl).trans w ((e1.sub Sb.l).trans w e2)
          | ok k ρ3 =>
            simp only [hk] at p
            intro kv2 F3 H3 A3 B3 e3 s3 o3 _ _ q'
            obtain ⟨t1, t2, t3⟩ := q' hq
            subst t1 t3
            cases k <;> simp only at p <;> try exact p.elim
            rename_i k
            cases hset : atPath (setO k d) [j0] (.lst true xs) with
            | none => simp only [hset] at p; exact p.elim
            | some xr =>
              obtain ⟨x', r⟩ := xr
              simp only [hset] at p
              simp only [atPath, hat, Option.bind_some, Option.bind_eq_some_iff, Option.map_eq_some_iff, setAt] at hset
              obtain ⟨⟨y', r'⟩, hset, zs, ⟨j2, hj2, rfl⟩, hx⟩ := hset
              cases hx
              rw [hjj] at hj2
              cases hj2
              obtain ⟨ys, j, rfl, hj', rfl⟩ := setO_some hset
              have mv2 : ∀ {A : AS} a o, A a → H2 a = some o → H3 a = some o := fun a o _ h => t2 a o h
              have eB := Ext.frame (e1.wd.sub (cupSb sb)) dj' (e2.trans (e1.wd.sub Sb.l) (e3.sub Sb.l))
              have f2' : Own X.K mg F3 H3 w1 (.lst true ys) Bj := Own.move e3.fsame mv2 f2
              have o'' : Own X.K mg F3 H3 v d B' := Own.move (e2.fsame.trans e3.fsame) (fun a o h h' => mv2 a o h (mv a o h h')) o'
              obtain ⟨a2, ws2, rfl, ha2, hw2, hA2, ho2⟩ := set_in f2' hj' o'' fun c x y => dj' c (g5 c (h3 c (f4 c x))) y
              refine ⟨a2, ws2, k, j, rfl, o3.int, ha2, hw2, ?_⟩
              have na : a2 ≠ a := fun z => h2 (z ▸ f4 a2 hA2)
              have whole : Own X.K mg F3 (upd H3 a2 (.lst (ws2.set j v))) (.ref a) (.lst true (xs.set jj (.lst true (ys.set j d)))) (cup C1 B') := by
                refine .lst (vs := ws) (B := cup (cup Bj B') Br) (by rw [upd_ne (Ne.symm na)]; exact mv2 (A := C1) a _ h1 ha) (.inl h1) (fun z => ?_) (fun c hc => ?_) ?_
                · rcases z with (z | z) | z
                  · exact h2 (f4 a z)
                  · exact dj' a (g5 a h1) z
                  · exact h2 (f5 a z)
                · rcases hc with (hc | hc) | hc
                  · exact .inl (h3 c (f4 c hc))
                  · exact .inr hc
                  · exact .inl (h3 c (f5 c hc))
                · have := f6 F3 (upd H3 a2 (.lst (ws2.set j v))) _ (.lst true (ys.set j d)) (cup Bj B') e3.fsame (fun c x hc hx => by rw [upd_ne (fun z => f3 a2 hA2 (by rw [← z]; exact hc))]; exact mv2 (A := Br) c x hc hx) ho2 (fun c hc hr => hc.elim (fun hc => f3 c hc hr) fun hb => dj' c (g5 c (h3 c (f5 c hr))) hb)
                  rw [set_same _ _ _ f1] at this
                  exact this
              exact store_end w ((e1.sub (cupSb sb)).trans w eB.1) g1 (Slots.move (e2.fsame.trans e3.fsame) g3 fun a o h h1 => t2 a o (q2 a o h1)) g5 g6 g4 dj' (h3 a2 (f4 a2 hA2)) (FkO.of ha2) whole p
        · rw [if_neg hp] at p; exact p.elim
    refine tR_mono (fun k H3 h => ?_) hR
    obtain ⟨k', e, h⟩ := h
    cases e
    exact h
  · rw [if_neg hc] at p; exact p.elim
end
end VI

namespace VI
variable [Tn]
open PySem PySem.Spec PyProof.Rows L2
section
variable {K : PySem.W.Frag} {mg : Str → Option Value}
theorem Slots.wipe {F H : Hp} {σ : SG} {ρ : Env'} {A : AS} (s : Slots K mg F H σ ρ A) : ∀ own : List Nat, Slots K mg F H (L2.wipe σ own) (wipeD ρ own) A
  | [] => s
  | v :: vs => (Slots.wipe s vs).free v none
theorem Slots.rest {F H : Hp} {σ : SG} {ρ : Env'} {A : AS} (s : Slots K mg F H σ ρ A) : ∀ {σ2 : SG}, σ2.length = σ.length → (∀ (i : Nat) v, σ[i]? = some (some v) → σ2[i]? = some (some v)) → Slots K mg F H σ2 ρ A := by
  induction s with
  | nil => intro σ2 hl _; cases σ2 with | nil => exact .nil | cons _ _ => simp at hl
  | skip s ih =>
    intro σ2 hl h
    cases σ2 with
    | nil => simp at hl
    | cons u σ2 => exact .skip (ih (by simpa using hl) fun i v hv => by simpa using h (i + 1) v (by simpa using hv))
  | cons o s d s1 s2 ih =>
    intro σ2 hl h
    cases σ2 with
    | nil => simp at hl
    | cons u σ2 =>
      have h0 := h 0 _ rfl
      simp at h0
      subst h0
      exact .cons o (ih (by simpa using hl) fun i v hv => by simpa using h (i + 1) v (by simpa using hv)) d s1 s2
theorem wipe_get : ∀ (vs : List Nat) (σ : SG) (i : Nat), i ∈ vs → i < σ.length → (L2.wipe σ vs)[i]? = some none
  | [], _, _, h, _ => by simp at h
  | v :: vs, σ, i, h, hl => by
    unfold L2.wipe
    by_cases e : v = i
    · subst e
      rw [List.getElem?_set_self (by rw [wipe_length]; exact hl)]
    · rw [List.getElem?_set_ne e]
      exact wipe_get vs σ i (by simpa [Ne.symm e] using h) hl
theorem wipe_eq {vs : List Nat} {σ σ2 : SG} (hl : σ2.length = σ.length) (h : ∀ i, i ∉ vs → σ2[i]? = (L2.wipe σ vs)[i]?) : L2.wipe σ2 vs = L2.wipe σ vs := by
  refine List.ext_getElem? fun i => ?_
  by_cases hi : i ∈ vs
  · by_cases hlt : i < σ.length
    · rw [wipe_get vs σ i hi hlt, wipe_get vs σ2 i hi (by rw [hl]; exact hlt)]
    · rw [List.getElem?_eq_none (by rw [wipe_length, hl]; omega), List.getElem?_eq_none (by rw [wipe_length]; omega)]
  · rw [wipe_out hi, h i hi]
end
section
variable {X : Cx} {mg : Str → Option Value} {call : CallT} {W : WX} {pr : Nat → Bool}
abbrev W0 : WX := fun _ _ _ _ => False
def tTs (K : PySem.W.Frag) (mg : Str → Option Value) (call : CallT) : List E → TT
  | [] => tYes
  | [c] => tT K mg call c W0
  | _ => fun _ _ _ => False
def PostTs (K : PySem.W.Frag) (mg : Str → Option Value) (F H : Hp) (A : AS) (σ : SG) (r : R Bool) (Q : Bool → Hp → Prop) : Prop := match r with
  | .ok k ρ' => ∀ F' H' A', Ext F H A F' H' A' → Slots K mg F' H' σ ρ' A' → Q k H'
  | _ => False
theorem preTs {K : PySem.W.Frag} {cs : List E} {F H : Hp} {A : AS} {σ : SG} {ρ : Env'} {Q : Bool → Hp → Prop} (w : Wd F H A) (s : Slots K mg F H σ ρ A) (p : PostTs K mg F H A σ (lcTests call cs ρ) Q) : tTs K mg call cs σ H Q := by
  match cs with
  | [] => simp only [lcTests, PostTs] at p; exact p F H A (Ext.refl w) s
  | [c] =>
    simp only [lcTests] at p
    refine ⟨F, A, ρ, w, s, ?_⟩
    cases hr : ev call c ρ with
    | bad => simp only [hr, R.bind, PostTs] at p
    | err x ρ' => simp only [hr, R.bind, PostTs] at p
    | ok d ρ1 =>
      simp only [hr, R.bind] at p
      cases hk : truD d with
      | none => simp only [hk, R.of, PostTs] at p
      | some k => simp only [hk, R.of, PostTs] at p; exact ⟨k, hk, p⟩
  | _ :: _ :: _ => simp only [lcTests, PostTs] at p
def PostL (K : PySem.W.Frag) (mg : Str → Option Value) (F H : Hp) (A : AS) (σ : SG) (r : R (List D)) (Q : VK) : Prop := match r with
  | .ok acc ρ' => ∀ v F' H' A' B, Ext F H A F' H' (cup A' B) → Slots K mg F' H' σ ρ' A' → Own K mg F' H' v (.lst true acc) B → Dj A' B → Q v H'
  | _ => False
theorem PostL.pre {K : PySem.W.Frag} {F H F1 H1 : Hp} {A A1 : AS} {σ : SG} {r : R (List D)} {Q : VK} (w : Wd F H A) (e : Ext F H A F1 H1 A1) (p : PostL K mg F H A σ r Q) : PostL K mg F1 H1 A1 σ r Q := by
  cases r with
  | ok acc ρ' => exact fun v F' H' A' B x => p v F' H' A' B (e.trans w x)
  | err z ρ' => exact p
  | bad => exact p
def lcF (call : CallT) (el : E) (t : T) (cs : List E) : D → Env' → R (Option D) := fun x ρ => match t.put x ρ with
  | none => .bad
  | some ρ1 => (lcTests call cs ρ1).bind fun k ρ2 => if k then (ev call el ρ2).bind fun d ρ3 => if !shares el || d.pure then .ok (some d) ρ3 else .bad else .ok none ρ2
abbrev one (D : Addr) : AS := fun a => a = D
mutual
theorem T.put_len : ∀ (t : T) {d : VI.D} {ρ ρ' : Env'}, t.put d ρ = some ρ' → ρ'.length = ρ.length
  | .slot i, d, ρ, ρ', h => by
    simp only [T.put] at h
    split at h
    · cases h; simp
    · cases h
  | .tup ts, d, ρ, ρ', h => by
    cases d <;> simp only [T.put] at h <;> first | exact putL_len ts h | cases h
theorem putL_len : ∀ (ts : List T) {ds : List VI.D} {ρ ρ' : Env'}, putL ts ds ρ = some ρ' → ρ'.length = ρ.length
  | [], ds, ρ, ρ', h => by cases ds <;> simp [putL] at h; rw [h]
  | t :: ts, ds, ρ, ρ', h => by
    cases ds with
    | nil => simp [putL] at h
    | cons d ds =>
      simp only [putL, Option.bind_eq_some_iff] at h
      obtain ⟨ρ1, h1, h2⟩ := h
      rw [putL_len ts h2, T.put_len t h1]
end
theorem lc_pre {k : ItK} {el : E} {t : T} {es cs : List E} {own : List Nat} {σ : SG} {H : Hp} {Q : VK}
    (h : tE X.K mg call (.lc el t k es cs own) W σ H Q) : tLc (tI X.K mg call W k es) (gT X.K mg (fun i => !own.contains i) t) (tTs X.K mg call cs) (tE X.K mg call el W0) own σ H Q := by
  obtain ⟨F, A, ρ, w, s, p⟩ := h
  simp only [ev] at p
  refine ⟨F, A, ρ, w, s, ?_⟩
  cases hr : evC call es ρ with
  | bad => simp only [hr, R.bind] at p; exact p
  | err x ρ' => simp only [hr, R.bind] at p; exact p
  | ok ds ρ1 =>
  simp only [hr, R.bind] at p
  by_cases hc : canL ds = true
  · rw [if_pos hc] at p
    cases hx : itD k (frzL ds) with
    | none => simp only [hx] at p; exact p.elim
    | some xs =>
    simp only [hx] at p
    refine ⟨hc, xs, hx, fun J F1 H1 A1 e1 s1 iw D hD => ?_⟩
    have p1 : PostL X.K mg F1 H1 A1 σ (lcLoop (lcF call el t cs) own xs [] (wipeD ρ1 own)) Q := by
      change PostE X.K mg W F H A σ _ _ ρ ((lcLoop (lcF call el t cs) own xs [] (wipeD ρ1 own)).bind fun acc ρ2 => .ok (.lst true acc) ρ2) Q at p
      have noerr : ∀ {xs acc ρ x ρ'}, lcLoop (lcF call el t cs) own xs acc ρ ≠ .err x ρ' := by
        intro xs
        induction xs with
        | nil => intro acc ρ x ρ' h; simp [lcLoop] at h
        | cons y ys ih =>
          intro acc ρ x ρ' h
          unfold lcLoop at h
          split at h
          · split at h
            · exact ih h
            · cases h
          · exact ih h
          · cases h
      cases hl : lcLoop (lcF call el t cs) own xs [] (wipeD ρ1 own) with
      | bad => rw [hl] at p; exact p
      | err x ρ' => exact absurd hl noerr
      | ok acc ρ2 =>
        rw [hl] at p
        exact fun v F' H' A' B x sl o dj => p v F' H' A' B (e1.trans w x) sl o (fun z => by simp [shares] at z) (fun _ => dj) fun z => by simp [quiet] at z
    have nA : ∀ a, A1 a → a ≠ D := fun a ha => e1.wd.nq ha hD
    have e2 := Ext.laid (o := .lst []) e1.wd hD
    have lay : ∀ a o, H1 a = some o → upd H1 D (.lst []) a = some o := fun a o h => by rw [upd_ne (ne_of_none h hD)]; exact h
    refine ⟨fun i m H => i ≤ xs.length ∧ m = xs.length - i ∧ ∃ F A B vs acc ρ, Same F1 F ∧ Wd F H (cup A (cup (one D) B)) ∧ Dj A (cup (one D) B) ∧ ¬ B D ∧ H D = some (.lst vs) ∧ OwnL X.K mg F H vs acc B ∧ Slots X.K mg F H (L2.wipe σ own) ρ A ∧
      PostL X.K mg F H (cup A (cup (one D) B)) σ (lcLoop (lcF call el t cs) own (xs.drop i) acc ρ) Q, ⟨xs.length, Nat.zero_le _, by simp, F1, A1, no, [], [], wipeD ρ1 own, fun _ _ e => e, ?_, ?_, fun z => z, upd_same, .nil, ?_, ?_⟩, ?_⟩
    · exact e2.wd.sub fun a h => h.elim .inr fun h => h.elim .inl fun h => h.elim
    · exact fun a h h' => h'.elim (nA a h) fun h => h
    · exact Slots.move (fun _ _ e => e) (s1.wipe own) fun a o _ h => lay a o h
    · rw [List.drop_zero]
      exact p1.pre e1.wd (e2.sub fun a h => h.elim .inr fun h => h.elim .inl fun h => h.elim)
    rintro i m H2 ⟨hi, rfl, F2, A2, B2, vs, acc, ρ2, sm, w2, dj2, nB, hD2, ol, s2, p2⟩
    have iw2 := iw.up sm
    by_cases hlt : i < xs.length
    · refine .inr ⟨iw2.goes i H2 hlt w2.same, _, fun H' h' => ⟨xs.length - (i + 1), by omega, h'⟩, fun x H3 y => ?_⟩
      obtain ⟨d, F3, hd, e3, fz, sm3⟩ := iw2.item w2 hlt y
      have hdr : xs.drop i = d :: xs.drop (i + 1) := by
        rw [List.drop_eq_getElem_cons hlt]
        rw [List.getElem?_eq_getElem hlt] at hd
        cases hd; rfl
      rw [hdr] at p2
      simp only [lcLoop, lcF] at p2
      cases ht : t.put d ρ2 with
      | none => simp only [ht] at p2; exact p2.elim
      | some ρ3 =>
      simp only [ht] at p2
      refine ⟨F3, A2, no, ρ2, d, ρ3, by rw [cup_no']; exact e3.wd.sub Sb.l, Slots.move e3.fsame s2 fun a o _ h => sm3 a o h, .fz fz, Dj.no_r, ht, fun σ4 A4 sb4 sl4 sk4 => ?_⟩
      have sb4' : Sb A4 A2 := fun z x => (sb4 z x).elim id fun z => z.elim
      have hw4 : L2.wipe σ4 own = L2.wipe σ own := by
        refine wipe_eq ?_ fun j hj => sk4 j (by simpa using hj)
        have := sl4.length
        have h2 := s2.length
        have h3 : ∀ {t : T} {d ρ ρ'}, t.put d ρ = some ρ' → ρ'.length = ρ.length := fun {t} => T.put_len t
        rw [this, h3 ht, ← h2, wipe_length]
      refine ⟨hw4, ?_⟩
      -- the next turn
      have next : ∀ {F5 H5 : Hp} {A5 : AS} {ρ5 : Env'}, Ext F3 H3 A4 F5 H5 A5 → Slots X.K mg F5 H5 σ4 ρ5 A5 → PostL X.K mg F2 H2 (cup A2 (cup (one D) B2)) σ (lcLoop (lcF call el t cs) own (xs.drop (i + 1)) acc (wipeD ρ5 own)) Q →
          (i + 1 ≤ xs.length ∧ xs.length - (i + 1) = xs.length - (i + 1) ∧ ∃ F A B vs acc ρ, Same F1 F ∧ Wd F H5 (cup A (cup (one D) B)) ∧ Dj A (cup (one D) B) ∧ ¬ B D ∧ H5 D = some (.lst vs) ∧ OwnL X.K mg F H5 vs acc B ∧ Slots X.K mg F H5 (L2.wipe σ own) ρ A ∧
            PostL X.K mg F H5 (cup A (cup (one D) B)) σ (lcLoop (lcF call el t cs) own (xs.drop (i + 1)) acc ρ) Q) := fun {F5 H5 A5 ρ5} e5 s5 p5 => by
        obtain ⟨g1, g2⟩ := Ext.frame e3.wd dj2 (e5.more sb4')
        refine ⟨hlt, rfl, F5, A5, B2, vs, acc, wipeD ρ5 own, sm.trans (e3.fsame.trans e5.fsame), g1.wd, g2, nB, e5.keep D _ (sm3 D _ hD2) (fun z => dj2 D (sb4' D z) (.inl rfl)) (fun _ z => nomatch z), ?_, by rw [← hw4]; exact s5.wipe own, p5.pre w2 (e3.trans w2 g1)⟩
        exact (OwnL.move e3.fsame (fun a o _ h => sm3 a o h) ol).ext e5 fun a x y => dj2 a (sb4' a x) (.inr y)
      refine preTs (e3.wd.sub fun a h => .inl (sb4' a h)) sl4 ?_
      cases hT : lcTests call cs ρ3 with
      | bad => simp only [hT, R.bind] at p2; exact p2
      | err z ρ' => simp only [hT, R.bind] at p2; exact p2
      | ok k ρ4 =>
      simp only [hT, R.bind] at p2
      intro F5 H5 A5 e5 s5
      cases k with
      | false =>
        rw [if_neg Bool.false_ne_true]
        simp only [Bool.false_eq_true, if_false] at p2
        exact next e5 s5 p2
      | true =>
        rw [if_pos rfl]
        simp only [if_true] at p2
        refine ⟨F5, A5, ρ4, e5.wd, s5, ?_⟩
        cases hE : ev call el ρ4 with
        | bad => simp only [hE] at p2; exact p2
        | err z ρ' => simp only [hE] at p2; exact p2.elim
        | ok dy ρ5 =>
        simp only [hE] at p2
        intro u F6 H6 A6 B6 e6 s6 o6 al6 dj6 _
        by_cases hcc : (!shares el || dy.pure) = true
        · simp only [hcc, if_true] at p2
          by_cases hlen : acc.length < lim
          · rw [if_pos hlen] at p2
            obtain ⟨B6', o6', dj6', sb6⟩ := taken hcc e6.wd o6 dj6
            have e36 : Ext F3 H3 A4 F6 H6 (cup A6 B6') := (e5.trans (e3.wd.sub fun a h => .inl (sb4' a h)) e6).sub (cupSb sb6)
            obtain ⟨g1, g2⟩ := Ext.frame e3.wd dj2 (e36.more sb4')
            have hD6 : H6 D = some (.lst vs) := e36.keep D _ (sm3 D _ hD2) (fun z => dj2 D (sb4' D z) (.inl rfl)) (fun _ z => nomatch z)
            have ol6 : OwnL X.K mg F6 H6 vs acc B2 := (OwnL.move e3.fsame (fun a o _ h => sm3 a o h) ol).ext e36 fun a x y => dj2 a (sb4' a x) (.inr y)
            refine ⟨vs, hD6, by rw [szl, ol6.len]; exact hlen, ?_⟩
            have eP := Ext.put (o := .lst (vs ++ [u])) g1.wd (p := D) (.inr (.inl rfl)) (FkO.of hD6)
            have keep : ∀ {C : AS} a o, ¬ C D → C a → H6 a = some o → upd H6 D (.lst (vs ++ [u])) a = some o := fun a o nC hC h => by rw [upd_ne (fun z => nC (by rw [← z]; exact hC))]; exact h
            have nD : ¬ (cup A6 B6') D := fun z => g2 D z (.inl rfl)
            have re : ∀ a, (cup A6 (cup (one D) (cup B2 B6'))) a → (cup (cup A6 B6') (cup (one D) B2)) a := fun a h => by
              rcases h with h | h | h | h
              · exact .inl (.inl h)
              · exact .inr (.inl h)
              · exact .inr (.inr h)
              · exact .inl (.inr h)
            refine ⟨hlt, rfl, F6, A6, cup B2 B6', vs ++ [u], acc ++ [dy], wipeD ρ5 own, sm.trans (e3.fsame.trans e36.fsame), eP.wd.sub re, fun a x y => ?_, fun z => z.elim nB fun z => nD (.inr z), upd_same, ?_, ?_, p2.pre w2 ((e3.trans w2 (g1.trans e3.wd eP)).sub re)⟩
            · rcases y with y | y | y
              · exact g2 a (.inl x) (.inl y)
              · exact g2 a (.inl x) (.inr y)
              · exact dj6' a x y
            · refine OwnL.append (OwnL.move (fun _ _ e => e) (fun a o hC h => keep (C := B2) a o nB hC h) ol6) (OwnL.move (fun _ _ e => e) (fun a o hC h => keep (C := B6') a o (fun z => nD (.inr z)) hC h) (.cons o6' .nil Dj.no_r Sb.rfl' Sb.no_l)) fun a x y => g2 a (.inr y) (.inr x)
            · rw [← hw4]
              exact Slots.move (fun _ _ e => e) (s6.wipe own) fun a o hC h => keep (C := A6) a o (fun z => nD (.inl z)) hC h
          · rw [if_neg hlen] at p2; exact p2.elim
        · simp only [hcc] at p2; exact p2.elim
    · have e : i = xs.length := by omega
      subst e
      refine .inl ⟨iw2.stops H2 w2.same, ?_⟩
      rw [List.drop_length] at p2
      simp only [lcLoop] at p2
      exact p2 (.ref D) F2 H2 A2 (cup (one D) B2) (Ext.refl w2) (s2.rest (by rw [wipe_length]) fun i v h => (wipe_some h).1) (.lst hD2 (.inl rfl) nB Sb.r ol) dj2
  · rw [if_neg hc] at p; exact p.elim
theorem pe_lcE {k : ItK} {el : E} {t : T} {es cs : List E} {own : List (Str × Nat)} {ow : List Nat} (how : ow = own.map (·.2)) {elt tg iter : Expr} {ifs : List Expr} {scope : Scope} {pos : Pos} (hc : X.calm = true) (hN : X.N.Nodup) (ok : BlkOk X.N X.env.scope scope own)
    (hi : PI X tg iter (tI X.K mg call W k es))
    (hg : ∀ (s : Shared) (H : Hp) (C : Addr) (cl : List (Str × Addr)) (fp : List Addr), PG (X.blk s H scope (compEnvC scope cl C X.env) fp) tg (gT X.K mg (fun i => !ow.contains i) t))
    (ht : ∀ (s : Shared) (H : Hp) (C : Addr) (cl : List (Str × Addr)) (fp : List Addr), PTs (X.blk s H scope (compEnvC scope cl C X.env) fp) ifs (tTs X.K mg call cs))
    (he : ∀ (s : Shared) (H : Hp) (C : Addr) (cl : List (Str × Addr)) (fp : List Addr), PE (X.blk s H scope (compEnvC scope cl C X.env) fp) elt (tE X.K mg call el W0)) (hs : ∀ x, foldedSetIterable iter X.env x = pure x) :
    PE X (.ListComp elt [⟨tg, iter, ifs, 0⟩] scope pos) (tE X.K mg call (.lc el t k es cs ow) W) := by
  subst how
  exact PE.weak (pe_lc hc hN hi ok hg ht he hs) fun σ H Q h => lc_pre h
theorem psE_setLc {i : Nat} {k : ItK} {el : E} {t : T} {es cs : List E} {own : List (Str × Nat)} {ow : List Nat} (how : ow = own.map (·.2)) {elt tg iter : Expr} {ifs : List Expr} {scope : Scope} {pos spos py : Pos} {y : Str} (hp : pr i = false) (hc : X.calm = true) (hN : X.N.Nodup) (ok : BlkOk X.N X.env.scope scope own)
    (hy : X.N[i]? = some y) (hyl : X.env.scope.names.lookup y = some .local) (hsw : swapsWith (.ListComp elt [⟨tg, iter, ifs, 0⟩] scope pos) (some (.Name y py)) spos.line X.env = pure true)
    (hi : PI X tg iter (tI X.K mg call W k es))
    (hg : ∀ (s : Shared) (H : Hp) (C : Addr) (cl : List (Str × Addr)) (fp : List Addr), PG (X.blk s H scope (compEnvC scope cl C X.env) fp) tg (gT X.K mg (fun i => !ow.contains i) t))
    (ht : ∀ (s : Shared) (H : Hp) (C : Addr) (cl : List (Str × Addr)) (fp : List Addr), PTs (X.blk s H scope (compEnvC scope cl C X.env) fp) ifs (tTs X.K mg call cs))
    (he : ∀ (s : Shared) (H : Hp) (C : Addr) (cl : List (Str × Addr)) (fp : List Addr), PE (X.blk s H scope (compEnvC scope cl C X.env) fp) elt (tE X.K mg call el W0)) (hs : ∀ x, foldedSetIterable iter X.env x = pure x) :
    PS X (.Assign [.Name y py] (.ListComp elt [⟨tg, iter, ifs, 0⟩] scope pos) spos) (tS X.K mg W pr (ex call (.asg (.slot i) (.lc el t k es cs ow)))) := by
  subst how
  have h0 := ps_setLc (spos := spos) hc hN hy hyl hsw hi ok hg ht he hs
  refine PS.weak h0 fun D σ H h => ?_
  simp only [tS, ex] at h
  refine lc_pre (Q := fun x H1 => gName i x σ H1 D.nx) (preE h fun F A ρ d ρ1 v F' H' A' B w hr ex s' o al dj p => ?_)
  split at p
  · rename_i hc
    obtain ⟨B', o', dj', sb⟩ := taken hc ex.wd o dj
    split at p
    · rename_i ρ2 hput
      simp only [T.put] at hput
      split at hput
      · rename_i hi
        cases hput
        refine p _ F' H' (cup B' A') (ex.sub ?_) (Slots.put o' s' dj'.symm ?_) (SK.set hp)
        · rw [cup_comm]; exact cupSb sb
        · rw [List.getElem?_eq_getElem (by rw [s'.length]; exact hi)]; rfl
      · cases hput
    · exact p.elim
  · exact p.elim
/-! ### two, three at once -/
theorem psE_multi {is : List Nat} {es : List E} {st : Stmt} (hp : ∀ i ∈ is, pr i = false) (h : PS X st (fun D σ H => tCs X.K mg call W es σ H fun vs H1 => vs.length = is.length ∧ D.nx ((is.zip vs).foldl (fun σ p => σ.set p.1 (some p.2)) σ) H1)) : PS X st (tS X.K mg W pr (ex call (.multi is es))) := by
  refine PS.weak h fun D σ H h => ?_
  obtain ⟨F, A, ρ, w, s, p⟩ := h
  simp only [ex] at p
  refine seqC es w s ?_
  cases hr : evC call es ρ with
  | bad => simp only [hr, R.sbind] at p; exact p
  | err x ρ' => simp only [hr, R.sbind] at p; exact p σ SK.refl
  | ok ds ρ1 =>
    simp only [hr, R.sbind] at p
    intro vs F1 H1 A1 B e1 s1 ol dj _
    have go : ∀ {is : List Nat} {vs : List V} {ds : List VI.D} {σ : SG} {ρ ρ2 : Env'} {A B : AS}, (∀ i ∈ is, pr i = false) → putAll is ds ρ = some ρ2 → OwnL X.K mg F1 H1 vs ds B → Slots X.K mg F1 H1 σ ρ A → Dj A B →
        vs.length = is.length ∧ ∃ C, Sb C (cup A B) ∧ Slots X.K mg F1 H1 ((is.zip vs).foldl (fun σ p => σ.set p.1 (some p.2)) σ) ρ2 C ∧ SK pr σ ((is.zip vs).foldl (fun σ p => σ.set p.1 (some p.2)) σ) := by
      intro is
      induction is with
      | nil =>
        intro vs ds σ ρ ρ2 A B _ h ol s dj
        cases ds with
        | nil => cases ol; simp only [putAll, Option.some.injEq] at h; subst h; exact ⟨rfl, A, Sb.l, s, SK.refl⟩
        | cons _ _ => simp [putAll] at h
      | cons i is ih =>
        intro vs ds σ ρ ρ2 A B hp h ol s dj
        cases ol with
        | nil => simp [putAll] at h
        | cons o1 o2 d12 t1 t2 =>
          rename_i v d vs ds B1 B2
          simp only [putAll] at h
          split at h
          · rename_i hi
            have s2 := Slots.put o1 s (Dj.symm fun a x y => dj a x (t1 a y)) (i := i) (by rw [List.getElem?_eq_getElem (by rw [s.length]; exact hi)]; rfl)
            obtain ⟨hl, C, c1, c2, c3⟩ := ih (fun j hj => hp j (by simp [hj])) h o2 s2 fun a x y => x.elim (fun x => d12 a x y) fun x => dj a x (t2 a y)
            refine ⟨by simp [hl], C, fun a x => ?_, c2, (SK.set (hp i (by simp))).trans c3⟩
            rcases c1 a x with (x | x) | x
            · exact .inr (t1 a x)
            · exact .inl x
            · exact .inr (t2 a x)
          · cases h
    cases hput : putAll is ds ρ1 with
    | none => simp only [hput] at p; exact p.elim
    | some ρ2 =>
      simp only [hput] at p
      obtain ⟨hl, C, c1, c2, c3⟩ := go hp hput ol s1 dj
      exact ⟨hl, p _ F1 H1 C (e1.sub c1) c2 c3⟩
end
end VI

namespace VI
variable [Tn]
open PySem PySem.Spec PyProof.Rows L2
section
variable {X : Cx} {mg : Str → Option Value} {call : CallT} {W : WX} {pr : Nat → Bool}
theorem OwnL.d2 {K : PySem.W.Frag} {F H : Hp} {B : AS} {vs : List V} {d e : D} (h : OwnL K mg F H vs [d, e] B) : ∃ v w B1 B2, vs = [v, w] ∧ Own K mg F H v d B1 ∧ Own K mg F H w e B2 := by
  cases h with | cons o r _ _ _ => cases r with | cons o2 r _ _ _ => cases r; exact ⟨_, _, _, _, rfl, o, o2⟩
end
end VI

namespace VI
variable [Tn]
open PySem PySem.Spec PyProof.Rows L2
section
variable {X : Cx} {mg : Str → Option Value} {call : CallT} {W : WX} {pr : Nat → Bool}
/-! ### displays -/
/-! ### a comprehension over a dict's keys, the dict still one's own -/
section
variable {K : PySem.W.Frag} {F F2 H H2 : Hp} {a : Addr}
end
end
end VI

namespace VI
variable [Tn]
open PySem PySem.Spec PyProof.Rows L2
section
variable {X : Cx} {mg : Str → Option Value} {call : CallT} {W : WX} {pr : Nat → Bool}
theorem OwnL.head {K : PySem.W.Frag} {F H : Hp} {v : V} {vs : List V} {d : D} {ds : List D} {B : AS} (h : OwnL K mg F H (v :: vs) (d :: ds) B) : ∃ B1 B2, Own K mg F H v d B1 ∧ OwnL K mg F H vs ds B2 ∧ Dj B1 B2 ∧ Sb B1 B ∧ Sb B2 B := by
  cases h with
  | cons o r dj s1 s2 => exact ⟨_, _, o, r, dj, s1, s2⟩
theorem PostL.hide {K : PySem.W.Frag} {F H : Hp} {A A2 : AS} {σ : SG} {r : R (List D)} {Q : VK} {a : Addr} {vs : List V} {xs : List D} {i : Nat} {ρ0 : Env'} (hv : σ[i]? = some (some (.ref a))) (w : Wd F H A) (sbA : Sb (cup A2 (one a)) A) (dj : Dj A2 (one a)) (ha : H a = some (.lst vs)) (fz : FzL K F vs xs)
    (p : PostE K mg W F H A σ false false ρ0 (r.bind fun acc ρ2 => .ok (.lst true acc) (ρ2.set i (some (.lst true xs)))) Q) (noerr : ∀ x ρ', r ≠ .err x ρ') : PostL K mg F H A2 σ r Q := by
  cases r with
  | bad => exact p
  | err x ρ' => exact absurd rfl (noerr x ρ')
  | ok acc ρ2 =>
    intro v F' H' A' B e sl o djB
    obtain ⟨g1, g2⟩ := Ext.frame (w.sub sbA) dj e
    have ha' : H' a = some (.lst vs) := e.keep a _ ha (fun z => dj a z rfl) (fun _ z => nomatch z)
    have s4 := put_back hv (Own.lst (mg := mg) (F := F') (K := K) (A := one a) (B := no) (ds := xs) ha' rfl (fun z => z) Sb.no_l (FzL.up e.fsame fz).own) (sl.gone i) fun z y1 y2 => g2 z (.inl y2) y1
    have e2 : (ρ2.set i none).set i (some (VI.D.lst true xs)) = ρ2.set i (some (VI.D.lst true xs)) := by rw [List.set_set]
    rw [e2] at s4
    refine p v F' H' (cup (one a) A') B ((g1.more sbA).sub fun z y => ?_) s4 o (fun z => by cases z) (fun _ z y1 y2 => ?_) fun z => by cases z
    · rcases y with (y | y) | y
      · exact .inr y
      · exact .inl (.inl y)
      · exact .inl (.inr y)
    · rcases y1 with y1 | y1
      · exact g2 z (.inr y2) y1
      · exact djB z y1 y2
end
end VI

namespace VI
variable [Tn]
open PySem PySem.Spec PyProof.Rows L2
section
variable {X : Cx} {mg : Str → Option Value} {call : CallT} {W : WX} {pr : Nat → Bool}
def iOwnE (K : PySem.W.Frag) (i : Nat) : TI := fun σ H Rr => ∃ a vs, σ[i]? = some (some (.ref a)) ∧ H a = some (.lst vs) ∧ Rr (Ite K a) H
theorem pi_ownE {i : Nat} {p pos tpos : Pos} {a : Expr} {elts : List Expr} {kk : Nat} (hg : Gl X "enumerate") (hm : X.mg "enumerate" = none) (he : PE X a (tVar i)) (na : starEach [a] X.env = (false, eval a X.env) :: starEach [] X.env) :
    PI X (.Tuple elts kk tpos) (.Call (.Name "enumerate" p) [a] [] pos) (iOwnE X.K i) := by
  refine ⟨fun pins s σ H Rr I h => ?_⟩
  obtain ⟨p0, vs, h1, h2, h3⟩ := h
  refine Call_ (ld_blt I hg hm boot_enumerate (PyProof.Rows.callWith_type1 (thn ((pa_cons he pa_nil na).run pos pins s σ H (fun ws H1 => ws = [.ref p0] ∧ H1 = H) I ⟨_, h1, rfl, rfl⟩) fun us s1 ⟨ws, H1, I1, r1, ex, eh⟩ => ?_) na rfl))
  subst eh
  subst ex
  obtain ⟨its, rv, p', hz⟩ := I1.list (SqL.of h2)
  cases r1 with
  | cons r rr =>
    cases rr
    cases r
    refine call_enumerate_list p'.isList fun h' he hit hsz hk => ?_
    refine wpAny_pyIter_enum he ?_
    have I2 : Inv X pins σ H1 { s1 with heap := h' } := I1.kept (t' := s1.toks) hk
    refine ⟨s1.heap.objs.size + 1, [s1.heap.objs.size + 1, s1.heap.objs.size], _, _, H1, rfl, I2, turn_enum p0 _ _, ⟨⟨.none, he⟩, hit, Nat.succ_ne_self _⟩, fun b hb => ?_, h3⟩
    have e' : b = s1.heap.objs.size + 1 ∨ b = s1.heap.objs.size := by simpa using hb
    have hle : s1.heap.objs.size ≤ b := by
      rcases e' with z | z
      · rw [z]; exact Nat.le_add_right _ _
      · rw [z]; exact Nat.le_refl _
    exact I1.fpOk hle (I1.hok.fresh hle)
theorem lcE_pre {i0 : Nat} {el : E} {t : T} {cs : List E} {own : List Nat} {σ : SG} {H : Hp} {Q : VK}
    (h : tE X.K mg call (.lcE i0 el t cs own) W σ H Q) : tLc (iOwnE X.K i0) (gT X.K mg (fun i => !own.contains i) t) (tTs X.K mg call cs) (tE X.K mg call el W0) own σ H Q := by
  obtain ⟨F, A, ρ, w, s, p⟩ := h
  simp only [ev] at p
  cases h0 : ρ[i0]? with
  | none => simp only [h0] at p; exact p.elim
  | some o0 =>
  cases o0 with
  | none => simp only [h0] at p; exact p.elim
  | some d0 =>
  simp only [h0] at p
  split at p
  case h_2 => exact p.elim
  rename_i xs heq
  cases heq
  split at p
  case isFalse => exact p.elim
  rename_i hc
  simp only [Bool.and_eq_true] at hc
  have hyl : (enumD 0 xs).length = xs.length := enumD_len 0 xs
  have hya := fun i => enumD_at 0 xs i
  generalize enumD 0 xs = ys at p hyl hya
  obtain ⟨v, A0, A1, hv, ox, s1, dj, b1, b2⟩ := s.get h0
  cases ox with
  | fz z => exact absurd z.pure (by simp [VI.D.pure])
  | lst ha c1 c2 c3 oL =>
  rename_i aL vL C
  have hlen := oL.len
  have fzx : FzL X.K F vL xs := oL.fzd hc.1
  refine ⟨aL, vL, hv, ha, fun D hD => ?_⟩
  have sbA : Sb (cup A1 (one aL)) A := fun z y => y.elim (b2 z) fun y => b1 z (y ▸ c1)
  have dja : Dj A1 (one aL) := fun z y1 y2 => dj aL c1 (y2 ▸ y1)
  have noerr : ∀ {xs acc ρ x ρ'}, lcLoop (lcF call el t cs) own xs acc ρ ≠ .err x ρ' := by
    intro xs
    induction xs with
    | nil => intro acc ρ x ρ' h; simp [lcLoop] at h
    | cons y ys ih =>
      intro acc ρ x ρ' h
      unfold lcLoop at h
      split at h
      · split at h
        · exact ih h
        · cases h
      · exact ih h
      · cases h
  have p1 : PostL X.K mg F H A1 σ (lcLoop (lcF call el t cs) own ys [] (wipeD (ρ.set i0 none) own)) Q := by
    exact PostL.hide (ρ0 := ρ) (mg := mg) (W := W) (i := i0) hv w sbA dja ha fzx p fun x ρ' => noerr
  have w1 : Wd F H A1 := w.sub b2
  have e1 : Ext F H A1 F H A1 := Ext.refl w1
  have naH : ¬ A1 aL := fun z => dja aL z rfl
  generalize hF1 : F = F1 at *
  generalize hH1 : H = H1 at *
  generalize hρ1 : ρ.set i0 none = ρ1 at *
  have nA : ∀ a, A1 a → a ≠ D := fun a ha => e1.wd.nq ha hD
  have e2 := Ext.laid (o := .lst []) e1.wd hD
  have lay : ∀ a o, H1 a = some o → upd H1 D (.lst []) a = some o := fun a o h => by rw [upd_ne (ne_of_none h hD)]; exact h
  refine ⟨fun i m H => i ≤ ys.length ∧ m = ys.length - i ∧ ∃ F A B vs acc ρ, Same F1 F ∧ (H aL = some (.lst vL) ∧ ¬ (cup A (cup (one D) B)) aL) ∧ Wd F H (cup A (cup (one D) B)) ∧ Dj A (cup (one D) B) ∧ ¬ B D ∧ H D = some (.lst vs) ∧ OwnL X.K mg F H vs acc B ∧ Slots X.K mg F H (L2.wipe σ own) ρ A ∧
    PostL X.K mg F H (cup A (cup (one D) B)) σ (lcLoop (lcF call el t cs) own (ys.drop i) acc ρ) Q, ⟨ys.length, Nat.zero_le _, by simp, F1, A1, no, [], [], wipeD ρ1 own, fun _ _ e => e, ⟨lay aL _ ha, fun z => z.elim naH fun z => z.elim (fun z => by have z : aL = D := z; rw [← z] at hD; rw [ha] at hD; cases hD) fun z => z⟩, ?_, ?_, fun z => z, upd_same, .nil, ?_, ?_⟩, ?_⟩
  · exact e2.wd.sub fun a h => h.elim .inr fun h => h.elim .inl fun h => h.elim
  · exact fun a h h' => h'.elim (nA a h) fun h => h
  · exact Slots.move (fun _ _ e => e) (s1.wipe own) fun a o _ h => lay a o h
  · rw [List.drop_zero]
    exact p1.pre e1.wd (e2.sub fun a h => h.elim .inr fun h => h.elim .inl fun h => h.elim)
  rintro i m H2 ⟨hi, rfl, F2, A2, B2, vs, acc, ρ2, sm, ⟨hk1, hk2⟩, w2, dj2, nB, hD2, ol, s2, p2⟩
  by_cases hlt : i < ys.length
  · have hlv : i < vL.length := by omega
    refine .inr ⟨⟨vL, vL[i], SqL.of hk1, List.getElem?_eq_getElem hlv⟩, _, fun H' h' => ⟨ys.length - (i + 1), by omega, h'⟩, fun x H3 y => ?_⟩
    obtain ⟨tA, x0, hxT, hT0, eH, y⟩ := y
    have yv := y vL (SqL.of hk1)
    obtain ⟨d, F3, hd, e3, fz, sm3⟩ : ∃ d F3, ys[i]? = some d ∧ Ext F2 H2 (cup A2 (cup (one D) B2)) F3 H3 (cup A2 (cup (one D) B2)) ∧ Fz X.K F3 x d ∧ Same H2 H3 := by
      have e := Ext.laidF (o := .tup [.int (i : Nat), x0]) w2 hT0
      have hlx : i < xs.length := by omega
      refine ⟨.tup [.int ((0 + i : Nat) : Int), xs[i]], _, hya i _ (List.getElem?_eq_getElem hlx), by rw [eH]; exact e, ?_, by rw [eH]; exact fun _ _ z => (upd_ne (ne_of_none z hT0)).trans z⟩
      rw [hxT, Nat.zero_add]
      refine .tup upd_same (.cons (.int _) (.cons ?_ .nil))
      obtain ⟨v0, q1, q2⟩ := (FzL.up (sm.trans e.fsame) fzx).at (i := i) (List.getElem?_eq_getElem hlx)
      rw [yv] at q1; cases q1
      exact q2
    have hdr : ys.drop i = d :: ys.drop (i + 1) := by
      rw [List.drop_eq_getElem_cons hlt]
      rw [List.getElem?_eq_getElem hlt] at hd
      cases hd; rfl
    rw [hdr] at p2
    simp only [lcLoop, lcF] at p2
    cases ht : t.put d ρ2 with
    | none => simp only [ht] at p2; exact p2.elim
    | some ρ3 =>
    simp only [ht] at p2
    refine ⟨F3, A2, no, ρ2, d, ρ3, by rw [cup_no']; exact e3.wd.sub Sb.l, Slots.move e3.fsame s2 fun a o _ h => sm3 a o h, .fz fz, Dj.no_r, ht, fun σ4 A4 sb4 sl4 sk4 => ?_⟩
    have sb4' : Sb A4 A2 := fun z x => (sb4 z x).elim id fun z => z.elim
    have hw4 : L2.wipe σ4 own = L2.wipe σ own := by
      refine wipe_eq ?_ fun j hj => sk4 j (by simpa using hj)
      have := sl4.length
      have h2 := s2.length
      have h3 : ∀ {t : T} {d ρ ρ'}, t.put d ρ = some ρ' → ρ'.length = ρ.length := fun {t} => T.put_len t
      rw [this, h3 ht, ← h2, wipe_length]
    refine ⟨hw4, ?_⟩
    -- the next turn
    have next : ∀ {F5 H5 : Hp} {A5 : AS} {ρ5 : Env'}, Ext F3 H3 A4 F5 H5 A5 → Slots X.K mg F5 H5 σ4 ρ5 A5 → PostL X.K mg F2 H2 (cup A2 (cup (one D) B2)) σ (lcLoop (lcF call el t cs) own (ys.drop (i + 1)) acc (wipeD ρ5 own)) Q →
        (i + 1 ≤ ys.length ∧ ys.length - (i + 1) = ys.length - (i + 1) ∧ ∃ F A B vs acc ρ, Same F1 F ∧ (H5 aL = some (.lst vL) ∧ ¬ (cup A (cup (one D) B)) aL) ∧ Wd F H5 (cup A (cup (one D) B)) ∧ Dj A (cup (one D) B) ∧ ¬ B D ∧ H5 D = some (.lst vs) ∧ OwnL X.K mg F H5 vs acc B ∧ Slots X.K mg F H5 (L2.wipe σ own) ρ A ∧
          PostL X.K mg F H5 (cup A (cup (one D) B)) σ (lcLoop (lcF call el t cs) own (ys.drop (i + 1)) acc ρ) Q) := fun {F5 H5 A5 ρ5} e5 s5 p5 => by
      obtain ⟨g1, g2⟩ := Ext.frame e3.wd dj2 (e5.more sb4')
      refine ⟨hlt, rfl, F5, A5, B2, vs, acc, wipeD ρ5 own, sm.trans (e3.fsame.trans e5.fsame), ⟨e5.keep aL _ (sm3 aL _ hk1) (fun z => hk2 (.inl (sb4' aL z))) (fun _ z => nomatch z), fun z => z.elim (fun z => (e5.anew aL z).elim (fun z => hk2 (.inl (sb4' aL z))) fun z => by rw [sm3 aL _ hk1] at z; cases z) fun z => hk2 (.inr z)⟩, g1.wd, g2, nB, e5.keep D _ (sm3 D _ hD2) (fun z => dj2 D (sb4' D z) (.inl rfl)) (fun _ z => nomatch z), ?_, by rw [← hw4]; exact s5.wipe own, p5.pre w2 (e3.trans w2 g1)⟩
      exact (OwnL.move e3.fsame (fun a o _ h => sm3 a o h) ol).ext e5 fun a x y => dj2 a (sb4' a x) (.inr y)
    refine preTs (e3.wd.sub fun a h => .inl (sb4' a h)) sl4 ?_
    cases hT : lcTests call cs ρ3 with
    | bad => simp only [hT, R.bind] at p2; exact p2
    | err z ρ' => simp only [hT, R.bind] at p2; exact p2
    | ok k ρ4 =>
    simp only [hT, R.bind] at p2
    intro F5 H5 A5 e5 s5
    cases k with
    | false =>
      rw [if_neg Bool.false_ne_true]
      simp only [Bool.false_eq_true, if_false] at p2
      exact next e5 s5 p2
    | true =>
      rw [if_pos rfl]
      simp only [if_true] at p2
      refine ⟨F5, A5, ρ4, e5.wd, s5, ?_⟩
      cases hE : ev call el ρ4 with
      | bad => simp only [hE] at p2; exact p2
      | err z ρ' => simp only [hE] at p2; exact p2.elim
      | ok dy ρ5 =>
      simp only [hE] at p2
      intro u F6 H6 A6 B6 e6 s6 o6 al6 dj6 _
      by_cases hcc : (!shares el || dy.pure) = true
      · simp only [hcc, if_true] at p2
        by_cases hlen : acc.length < lim
        · rw [if_pos hlen] at p2
          obtain ⟨B6', o6', dj6', sb6⟩ := taken hcc e6.wd o6 dj6
          have e36 : Ext F3 H3 A4 F6 H6 (cup A6 B6') := (e5.trans (e3.wd.sub fun a h => .inl (sb4' a h)) e6).sub (cupSb sb6)
          obtain ⟨g1, g2⟩ := Ext.frame e3.wd dj2 (e36.more sb4')
          have hD6 : H6 D = some (.lst vs) := e36.keep D _ (sm3 D _ hD2) (fun z => dj2 D (sb4' D z) (.inl rfl)) (fun _ z => nomatch z)
          have ol6 : OwnL X.K mg F6 H6 vs acc B2 := (OwnL.move e3.fsame (fun a o _ h => sm3 a o h) ol).ext e36 fun a x y => dj2 a (sb4' a x) (.inr y)
          refine ⟨vs, hD6, by rw [szl, ol6.len]; exact hlen, ?_⟩
          have eP := Ext.put (o := .lst (vs ++ [u])) g1.wd (p := D) (.inr (.inl rfl)) (FkO.of hD6)
          have keep : ∀ {C : AS} a o, ¬ C D → C a → H6 a = some o → upd H6 D (.lst (vs ++ [u])) a = some o := fun a o nC hC h => by rw [upd_ne (fun z => nC (by rw [← z]; exact hC))]; exact h
          have nD : ¬ (cup A6 B6') D := fun z => g2 D z (.inl rfl)
          have re : ∀ a, (cup A6 (cup (one D) (cup B2 B6'))) a → (cup (cup A6 B6') (cup (one D) B2)) a := fun a h => by
            rcases h with h | h | h | h
            · exact .inl (.inl h)
            · exact .inr (.inl h)
            · exact .inr (.inr h)
            · exact .inl (.inr h)
          refine ⟨hlt, rfl, F6, A6, cup B2 B6', vs ++ [u], acc ++ [dy], wipeD ρ5 own, sm.trans (e3.fsame.trans e36.fsame), ⟨?_, ?_⟩, eP.wd.sub re, fun a x y => ?_, fun z => z.elim nB fun z => nD (.inr z), upd_same, ?_, ?_, p2.pre w2 ((e3.trans w2 (g1.trans e3.wd eP)).sub re)⟩
          · have hne : aL ≠ D := fun z => hk2 (.inr (.inl z))
            rw [upd_ne hne]
            exact e36.keep aL _ (sm3 aL _ hk1) (fun z => hk2 (.inl (sb4' aL z))) (fun _ z => nomatch z)
          · have out : ¬ (cup A6 B6') aL := fun z => (e36.anew aL z).elim (fun z => hk2 (.inl (sb4' aL z))) fun z => by rw [sm3 aL _ hk1] at z; cases z
            intro z
            rcases z with z | z | z | z
            · exact out (.inl z)
            · exact hk2 (.inr (.inl z))
            · exact hk2 (.inr (.inr z))
            · exact out (.inr z)
          · rcases y with y | y | y
            · exact g2 a (.inl x) (.inl y)
            · exact g2 a (.inl x) (.inr y)
            · exact dj6' a x y
          · refine OwnL.append (OwnL.move (fun _ _ e => e) (fun a o hC h => keep (C := B2) a o nB hC h) ol6) (OwnL.move (fun _ _ e => e) (fun a o hC h => keep (C := B6') a o (fun z => nD (.inr z)) hC h) (.cons o6' .nil Dj.no_r Sb.rfl' Sb.no_l)) fun a x y => g2 a (.inr y) (.inr x)
          · rw [← hw4]
            exact Slots.move (fun _ _ e => e) (s6.wipe own) fun a o hC h => keep (C := A6) a o (fun z => nD (.inl z)) hC h
        · rw [if_neg hlen] at p2; exact p2.elim
      · simp only [hcc] at p2; exact p2.elim
  · have e : i = ys.length := by omega
    subst e
    refine .inl ⟨⟨vL, SqL.of hk1, by omega⟩, ?_⟩
    rw [List.drop_length] at p2
    simp only [lcLoop] at p2
    exact p2 (.ref D) F2 H2 A2 (cup (one D) B2) (Ext.refl w2) (s2.rest (by rw [wipe_length]) fun i v h => (wipe_some h).1) (.lst hD2 (.inl rfl) nB Sb.r ol) dj2
theorem pe_lcEE {i : Nat} {el : E} {t : T} {cs : List E} {own : List (Str × Nat)} {ow : List Nat} (how : ow = own.map (·.2)) {elt tg iter : Expr} {ifs : List Expr} {scope : Scope} {pos : Pos} (hc : X.calm = true) (hN : X.N.Nodup) (ok : BlkOk X.N X.env.scope scope own)
    (hi : PI X tg iter (iOwnE X.K i))
    (hg : ∀ (s : Shared) (H : Hp) (C : Addr) (cl : List (Str × Addr)) (fp : List Addr), PG (X.blk s H scope (compEnvC scope cl C X.env) fp) tg (gT X.K mg (fun i => !ow.contains i) t))
    (ht : ∀ (s : Shared) (H : Hp) (C : Addr) (cl : List (Str × Addr)) (fp : List Addr), PTs (X.blk s H scope (compEnvC scope cl C X.env) fp) ifs (tTs X.K mg call cs))
    (he : ∀ (s : Shared) (H : Hp) (C : Addr) (cl : List (Str × Addr)) (fp : List Addr), PE (X.blk s H scope (compEnvC scope cl C X.env) fp) elt (tE X.K mg call el W0)) (hs : ∀ x, foldedSetIterable iter X.env x = pure x) :
    PE X (.ListComp elt [⟨tg, iter, ifs, 0⟩] scope pos) (tE X.K mg call (.lcE i el t cs ow) W) := by
  subst how
  exact PE.weak (pe_lc hc hN hi ok hg ht he hs) fun σ H Q h => lcE_pre h
theorem psE_setLcE {i i0 : Nat} {el : E} {t : T} {cs : List E} {own : List (Str × Nat)} {ow : List Nat} (how : ow = own.map (·.2)) {elt tg iter : Expr} {ifs : List Expr} {scope : Scope} {pos spos py : Pos} {y : Str} (hp : pr i = false) (hc : X.calm = true) (hN : X.N.Nodup) (ok : BlkOk X.N X.env.scope scope own)
    (hy : X.N[i]? = some y) (hyl : X.env.scope.names.lookup y = some .local) (hsw : swapsWith (.ListComp elt [⟨tg, iter, ifs, 0⟩] scope pos) (some (.Name y py)) spos.line X.env = pure true)
    (hi : PI X tg iter (iOwnE X.K i0))
    (hg : ∀ (s : Shared) (H : Hp) (C : Addr) (cl : List (Str × Addr)) (fp : List Addr), PG (X.blk s H scope (compEnvC scope cl C X.env) fp) tg (gT X.K mg (fun i => !ow.contains i) t))
    (ht : ∀ (s : Shared) (H : Hp) (C : Addr) (cl : List (Str × Addr)) (fp : List Addr), PTs (X.blk s H scope (compEnvC scope cl C X.env) fp) ifs (tTs X.K mg call cs))
    (he : ∀ (s : Shared) (H : Hp) (C : Addr) (cl : List (Str × Addr)) (fp : List Addr), PE (X.blk s H scope (compEnvC scope cl C X.env) fp) elt (tE X.K mg call el W0)) (hs : ∀ x, foldedSetIterable iter X.env x = pure x) :
    PS X (.Assign [.Name y py] (.ListComp elt [⟨tg, iter, ifs, 0⟩] scope pos) spos) (tS X.K mg W pr (ex call (.asg (.slot i) (.lcE i0 el t cs ow)))) := by
  subst how
  have h0 := ps_setLc (spos := spos) hc hN hy hyl hsw hi ok hg ht he hs
  refine PS.weak h0 fun D σ H h => ?_
  simp only [tS, ex] at h
  refine lcE_pre (Q := fun x H1 => gName i x σ H1 D.nx) (preE h fun F A ρ d ρ1 v F' H' A' B w hr ex s' o al dj p => ?_)
  split at p
  · rename_i hc
    obtain ⟨B', o', dj', sb⟩ := taken hc ex.wd o dj
    split at p
    · rename_i ρ2 hput
      simp only [T.put] at hput
      split at hput
      · rename_i hi
        cases hput
        refine p _ F' H' (cup B' A') (ex.sub ?_) (Slots.put o' s' dj'.symm ?_) (SK.set hp)
        · rw [cup_comm]; exact cupSb sb
        · rw [List.getElem?_eq_getElem (by rw [s'.length]; exact hi)]; rfl
      · cases hput
    · exact p.elim
  · exact p.elim
end
end VI

set_option maxHeartbeats 2000000
namespace VI
open PySem PySem.Spec PyProof.Rows L2
section
variable {X : Cx}
/-! two clauses, no tests -/
section
variable {prog : Program} {w : World} {A : Around} {R : Result → Shared → Prop} {s : Shared} {kx vx t0 i0 t1 i1 : Expr} {scope : Scope} {pos : Pos} {it : Value} {D : Addr} {env : Env}
end
/-! as a value, and as what a name gets -/
end
end VI

set_option maxHeartbeats 2000000
namespace VI
variable [Tn]
open PySem PySem.Spec PyProof.Rows L2
section
variable {X : Cx} {mg : Str → Option Value} {call : CallT} {W : WX} {pr : Nat → Bool}
structure DSt (K : PySem.W.Frag) (mg : Str → Option Value) (F0 H0 : Hp) (B0 : AS) (D : Addr) (σ : SG) (F H : Hp) (A : AS) (vs : List (List L2.Key × V)) (acc : List (List L2.Key × VI.D)) (ρ : Env') : Prop where
  ext : Ext F0 H0 B0 F H (cup A (one D))
  dj : Dj A (one D)
  at_ : H D = some (.dT vs)
  fz : FzT K F vs acc
  sl : Slots K mg F H σ ρ A
theorem DSt.step {K : PySem.W.Frag} {F0 H0 : Hp} {B0 : AS} {D : Addr} {σ σ' : SG} {F H F' H' : Hp} {A A' : AS} {vs : List (List L2.Key × V)} {acc : List (List L2.Key × VI.D)} {ρ ρ' : Env'} (w0 : Wd F0 H0 B0) (s : DSt K mg F0 H0 B0 D σ F H A vs acc ρ) (e : Ext F H A F' H' A') (sl : Slots K mg F' H' σ' ρ' A') : DSt K mg F0 H0 B0 D σ' F' H' A' vs acc ρ' := by
  obtain ⟨g1, g2⟩ := Ext.frame s.ext.wd s.dj e
  exact ⟨s.ext.trans w0 g1, g2, e.keep D _ s.at_ (fun z => s.dj D z rfl) (fun _ z => nomatch z), FzT.up e.fsame s.fz, sl⟩
end
end VI

set_option maxHeartbeats 2000000
namespace VI
variable [Tn]
open PySem PySem.Spec PyProof.Rows L2
section
variable {X : Cx} {CX : CXT} {k : Nat} {f C : Addr} {fd : FuncData} {ps : List Str} {sp : Sp} {E : L2.St → XK} {x m : Str} {p pos apos : Pos} {o : Expr} {ta : TE} {t : TA}
end
end VI

set_option maxHeartbeats 2000000
namespace VI
variable [Tn]
open PySem PySem.Spec PyProof.Rows L2
section
variable {K : PySem.W.Frag} {mg : Str → Option Value} {F H : Hp}
theorem OwnF.get (f : Str) : ∀ {vs : List (Str × V)} {ds : List (Str × VI.D)} {B : AS}, OwnF K mg F H vs ds B → (∀ d, ds.lookup f = some d → ∃ v B', vs.lookup f = some v ∧ Own K mg F H v d B' ∧ Sb B' B) ∧ (ds.lookup f = none → vs.lookup f = none)
  | _, _, _, .nil => ⟨fun d h => (by cases h), fun _ => rfl⟩
  | _, _, _, .cons (k := k) (v := v) (d := d) (vs := vs) (ds := ds) o r _ a b => by
    obtain ⟨h1, h2⟩ := OwnF.get f r
    rw [List.lookup_cons, List.lookup_cons]
    cases hk : f == k with
    | true => exact ⟨fun d' h => by cases h; exact ⟨v, _, rfl, o, a⟩, fun h => by cases h⟩
    | false => exact ⟨fun d' h => by
        obtain ⟨w, B', q1, q2, q3⟩ := h1 d' h
        exact ⟨w, B', q1, q2, q3.trans b⟩, h2⟩
theorem OwnF.len : ∀ {vs : List (Str × V)} {ds : List (Str × VI.D)} {B : AS}, OwnF K mg F H vs ds B → vs.length = ds.length
  | _, _, _, .nil => rfl
  | _, _, _, .cons _ r _ _ _ => by rw [List.length_cons, List.length_cons, OwnF.len r]
theorem putF_at (f : Str) (v : V) (g : Str) : ∀ vs : List (Str × V), (putF f v vs).lookup g = if g = f then some v else vs.lookup g
  | [] => by
    by_cases h : g = f
    · subst h; simp [putF]
    · have e : (g == f) = false := by simpa using h
      rw [if_neg h]
      show List.lookup g [(f, v)] = none
      rw [List.lookup_cons, e]; rfl
  | (k, x) :: r => by
    have ih := putF_at f v g r
    unfold putF
    by_cases hk : k = f
    · subst hk
      rw [if_pos rfl, List.lookup_cons, List.lookup_cons]
      by_cases h : g = k
      · subst h; simp
      · have e : (g == k) = false := by simpa using h
        rw [e, if_neg h]
    · rw [if_neg hk, List.lookup_cons, List.lookup_cons]
      by_cases h : g = k
      · subst h
        simp [hk]
      · have e : (g == k) = false := by simpa using h
        rw [e]
        exact ih
theorem Own.flatRef {p : Addr} {d : VI.D} {A : AS} (h : flat0 d = true) (o : Own K mg F H (.ref p) d A) : False := by
  cases o with
  | fz x => cases x <;> simp [flat0] at h
  | lst => simp [flat0] at h
  | dic => simp [flat0] at h
  | dit => simp [flat0] at h
  | ins => simp [flat0] at h
theorem FkO.putF {f : Str} {v : V} {vs : List (Str × V)} {ds : List (Str × VI.D)} {B : AS} {C dx : Addr} {u : Option HO} (hu : u = some (.ins C dx vs)) (of : OwnF K mg F H vs ds B) (hx : fixF ds f = true) : FkO u (.ins C dx (L2.putF f v vs)) := fun C' dx' vs' e => by
  rw [hu] at e
  cases e
  refine ⟨_, _, rfl, fun g p q => ?_⟩
  rw [putF_at]
  by_cases h : g = f
  · subst h
    exfalso
    cases hd : ds.lookup g with
    | none => rw [(of.get g).2 hd] at q; cases q
    | some d =>
      obtain ⟨w, B', h1, h2, _⟩ := (of.get g).1 d hd
      rw [q] at h1
      cases h1
      unfold fixF at hx
      rw [hd] at hx
      exact Own.flatRef hx h2
  · rw [if_neg h]; exact q
theorem OwnF.sub {A A' : AS} (h : Sb A A') : ∀ {vs : List (Str × V)} {ds : List (Str × VI.D)}, OwnF K mg F H vs ds A → OwnF K mg F H vs ds A'
  | _, _, .nil => .nil
  | _, _, .cons o r d a b => .cons o r d (a.trans h) (b.trans h)
theorem OwnF.put {f : Str} {v : V} {d : VI.D} {B2 : AS} (ov : Own K mg F H v d B2) : ∀ {vs : List (Str × V)} {ds : List (Str × VI.D)} {B : AS}, OwnF K mg F H vs ds B → Dj B B2 → OwnF K mg F H (putF f v vs) (fPut f d ds) (cup B B2)
  | _, _, B, .nil, _ => .cons ov .nil Dj.no_r Sb.r Sb.no_l
  | _, _, B, .cons (k := k) (A1 := A1) (A2 := A2) o r dd a b, dj => by
    unfold putF fPut
    by_cases hk : k = f
    · rw [if_pos hk, if_pos hk]
      exact .cons (A1 := B2) (A2 := A2) ov r (fun z x y => dj z (b z y) x) Sb.r (b.trans Sb.l)
    · rw [if_neg hk, if_neg hk]
      have ih := OwnF.put (f := f) ov r (fun z x y => dj z (b z x) y)
      refine .cons (A1 := A1) (A2 := cup A2 B2) o ih (fun z x y => ?_) (a.trans Sb.l) fun z x => x.imp (b z) id
      rcases y with y | y
      · exact dd z x y
      · exact dj z (a z x) y
end
section
variable {X : Cx} {mg : Str → Option Value} {call : CallT} {W : WX} {pr : Nat → Bool}
def ClsF (X : Cx) (C : Str) (fs : List Str) : Prop := ∃ Ca, X.mg C = some (.ref Ca) ∧ Cls X.K Ca ∧ ∀ f ∈ fs, NoAttr X.K Ca f
end
end VI

set_option maxHeartbeats 2000000
namespace VI
variable [Tn]
open PySem PySem.Spec PyProof.Rows L2
section
variable {K : PySem.W.Frag} {mg : Str → Option Value} {F F2 H H2 : Hp}
end
section
variable {X : Cx} {mg : Str → Option Value} {call : CallT} {W : WX} {pr : Nat → Bool}
open Classical in
theorem OwnF.part {f : Str} {x : VI.D} {F H : Hp} : ∀ {vs : List (Str × V)} {ds : List (Str × VI.D)} {B0 : AS}, OwnF X.K mg F H vs ds B0 → ds.lookup f = some x → ∃ vp Bf, vs.lookup f = some vp ∧ Own X.K mg F H vp x Bf ∧ Sb Bf B0 ∧
    ∀ F1 H1, Same F F1 → (∀ a u, B0 a → ¬ Bf a → H a = some u → H1 a = some u) → Fz X.K F1 vp x.frz → OwnF X.K mg F1 H1 vs (fPut f x.frz ds) (fun a => B0 a ∧ ¬ Bf a)
  | _, _, _, .nil, l => by simp at l
  | _, _, B0, .cons (k := g) (v := v) (d := d) (vs := vs) (ds := ds) (A1 := A1) (A2 := A2) y r dd s1 s2, l => by
    by_cases e : g = f
    · subst e
      simp only [List.lookup_cons, beq_self_eq_true, Option.some.injEq] at l
      subst l
      refine ⟨v, A1, by simp, y, s1, fun F1 H1 sf k fz => ?_⟩
      unfold fPut
      rw [if_pos rfl]
      exact .cons (A1 := no) (A2 := A2) (.fz fz) (OwnF.move sf (fun a o z h => k a o (s2 a z) (fun w => dd a w z) h) r) Dj.no_l Sb.no_l fun a z => ⟨s2 a z, fun w => dd a w z⟩
    · have e' : (f == g) = false := by simpa using Ne.symm e
      rw [List.lookup_cons, e'] at l
      obtain ⟨vp, Bf, h1, h2, h3, h4⟩ := OwnF.part (f := f) r l
      refine ⟨vp, Bf, by rw [List.lookup_cons, e']; exact h1, h2, h3.trans s2, fun F1 H1 sf k fz => ?_⟩
      unfold fPut
      rw [if_neg e]
      refine .cons (A1 := A1) (A2 := fun a => A2 a ∧ ¬ Bf a) (Own.move sf (fun a o z h => k a o (s1 a z) (fun w => dd a z (h3 a w)) h) y) (h4 F1 H1 sf (fun a u z n h => k a u (s2 a z) n h) fz) (fun a z w => dd a z w.1) (fun a z => ⟨s1 a z, fun w => dd a z (h3 a w)⟩) fun a z => ⟨s2 a z.1, z.2⟩
open Classical in
noncomputable def drop (F : Hp) (B : AS) : Hp := fun a => if B a then none else F a
end
end VI

set_option maxHeartbeats 2000000
namespace VI
variable [Tn]
open PySem PySem.Spec PyProof.Rows L2
section
variable {X : Cx} {mg : Str → Option Value} {call : CallT} {W : WX} {pr : Nat → Bool}
end
end VI

set_option maxHeartbeats 2000000
namespace VI
variable [Tn]
open PySem PySem.Spec PyProof.Rows L2
section
variable {X : Cx} {CX : CXT} {k : Nat} {f C : Addr} {fd : FuncData} {ps : List Str} {sp : Sp} {E : L2.St → XK} {x m : Str} {p pos apos : Pos} {o : Expr} {ta : TE} {t : TA} {ds : List Value} {dvs : List V}
end
section
variable {X : Cx} {mg : Str → Option Value} {call : CallT} {W : WX}
end
end VI

namespace VI
variable [Tn]
open PySem PySem.Spec PyProof.Rows L2 LamX
section
variable {X : Cx} {pins : List (Addr × Obj)} {σ : L2.St} {F H : Hp} {A : AS} {s : Shared} {scope : Scope}
theorem Wd.grown {P c : Addr} {q : Str} {ps more : Array Value} (w : Wd F H A) (hP : H P = some (.tbl ps)) (hc : H c = none) (t : ∀ p r, Tn.tn p r → TabS (upd (upd H P (.tbl (ps ++ more))) c (CodeO c q)) p r) :
    Ext F H A F (upd (upd H P (.tbl (ps ++ more))) c (CodeO c q)) A := by
  have nt : ∀ a u, H a = some u → (∀ z, u ≠ .tbl z) → upd (upd H P (.tbl (ps ++ more))) c (CodeO c q) a = some u := fun a u e n => by
    rw [upd_ne (ne_of_none e hc), upd_ne fun z => n ps (by rw [z, hP] at e; exact (Option.some.inj e).symm)]
    exact e
  have np : ¬ A P := fun z => by
    obtain ⟨_, u, e, m⟩ := w.own P z
    rw [hP] at e; cases e; exact m
  refine ⟨fun _ _ e => e, ⟨fun a u e => ?_, fun a x => ?_, t, w.nof⟩, fun a u e _ n => nt a u e n, fun a z e => ?_, fun a x => .inl x, fun a x => .inl x, fun a C dx vs e => ⟨dx, vs, nt a _ e (fun z h => by cases h), fun _ _ q => q⟩⟩
  · by_cases hz : ∃ z, u = .tbl z
    · obtain ⟨z, rfl⟩ := hz
      have := w.same a _ e
      exact (w.nof a z e).elim
    · exact nt a u (w.same a u e) fun z h => hz ⟨z, h⟩
  · obtain ⟨h1, u, h2, h3⟩ := w.own a x
    exact ⟨h1, u, nt a u h2 h3.ntbl, h3⟩
  · by_cases ha : a = P
    · subst ha
      exact ⟨_, by rw [upd_ne (ne_of_none hP hc), upd_same]⟩
    · exact ⟨z, by rw [upd_ne (ne_of_none e hc), upd_ne ha]; exact e⟩
def LamC (X : Cx) : Prop := ∃ c P, X.env.code = .ref c ∧ Tn.tn P (X.env.qual ++ "<lambda>") ∧ TabB X.base X.mg c P
theorem lam_mk {params : Arguments} {body : Expr} {pos : Pos} {E Q : Value → Shared → Prop} (I : Inv X pins σ H s) (w : Wd F H A) (lc : LamC X) (hdef : defaultsOf params X.env = ([], [])) (hf : ∀ y ∈ scope.names, y.2 = .free → ∃ c, X.env.cells.lookup y.1 = some c)
    (h : ∀ (f c' : Addr) (pm ctv : Value) (H1 : Hp) (s' : Shared), s.heap.objs.size ≤ f → Inv X pins σ H1 s' → Ext F H A F H1 A → ExtN H H1 → s'.heap.get? f = some (PySem.W.kla_obj "<lambda>" (X.env.qual ++ "<lambda>") params body scope (cloFrom X.env.cells scope.names []) pm c' ctv) →
      H1 f = none → f ∉ frs X.stack → H1 c' = some (CodeO c' (X.env.qual ++ "<lambda>")) → (∀ b o, o.cls ≠ .none → s.heap.get? b = some o → s'.heap.get? b = some o) → Q (.ref f) s') :
    wpAny (model X.prog X.w) X.A (eval (.Lambda params body scope pos) X.env) Q E s := by
  obtain ⟨c, P, hcode, hn, TB⟩ := lc
  obtain ⟨ps, hP, tri, look⟩ := w.tab P _ hn
  refine PySem.W.kla_eval hdef ?_
  have oP : s.heap.get? P = some { cls := .none, data := .fields ps } := I.hok P _ hP
  have far : ∀ f, s.heap.objs.size ≤ f → f ∉ frs X.stack := fun f z y => by
    rcases List.mem_cons.mp (I.stkSub _ y) with e | e
    · exact absurd I.lt (by rw [← e]; exact Nat.not_lt.mpr z)
    · exact I.nofs z e
  have TC := TB.code.keeps I.bk
  have bB := TB.bm.keeps I.bk
  have gl := I.mod.glob.keeps I.bk
  cases hk : codeAmong pos ps.toList with
  | some cv =>
    obtain ⟨c', rfl, hc'⟩ := look pos cv hk
    refine PySem.W.kla_makeFunctionHit (mg := X.mg) (c := c) (P := P) (ps := ps) (closure_ok hf) I.ok.glob gl hcode TC oP tri hk bB fun ctv g tk kp sz => ?_
    exact h g.objs.size c' _ ctv H _ sz (I.kept (t' := tk) fun b o e => Heap.get?_push_of_some _ (kp b o e)) (Ext.refl w) (ExtN.refl H) (Heap.get?_push_size _ rfl) (I.hok.fresh sz) (far _ sz) hc' fun b o _ e => Heap.get?_push_of_some _ (kp b o e)
  | none =>
    refine PySem.W.kla_makeFunction (mg := X.mg) (c := c) (P := P) (ps := ps) (closure_ok hf) I.ok.glob gl hcode TC oP tri hk TB.gP bB fun c' ctv g tk kp ge lt rc ht => ?_
    obtain ⟨c2, oc, vs, t, z, k1, k2, k3⟩ := rc
    cases z
    have cn : H c' = none := I.hok.fresh ge
    have sz : s.heap.objs.size ≤ g.objs.size := Nat.le_trans ge (Nat.le_of_lt lt)
    have up := fun (o : Obj) (b : Addr) (x : Obj) (e : g.get? b = some x) => Heap.get?_push_of_some (h := g) o e
    have J := inv_table (q := X.env.qual ++ "<lambda>") (t' := tk) (more := #[rawInt pos.line, rawInt pos.col, .ref c']) (h' := g.push (PySem.W.kla_obj "<lambda>" (X.env.qual ++ "<lambda>") params body scope (cloFrom X.env.cells scope.names []) ((X.mg "__name__").getD .none) c' ctv)) I hP
      (fun b o n e => up _ b o (kp b o n e)) (up _ _ _ ht) ge ⟨oc, vs, t, up _ _ _ k1, k2, k3⟩
    refine h g.objs.size c' _ ctv _ _ sz J (w.grown hP cn fun p r m => ?_) (fun b u e n => by rw [upd_ne (ne_of_none e cn), upd_ne (fun z => n ps (Option.some.inj (e.symm.trans (by rw [z]; exact hP))))]; exact e) (Heap.get?_push_size _ rfl) ?_ (far _ sz) upd_same fun b o n e => up _ b o (kp b o (fun z => n (by rw [z, oP] at e; cases e; rfl)) e)
    · have stay : ∀ b u, H b = some u → b ≠ P → upd (upd H P (.tbl (ps ++ #[rawInt pos.line, rawInt pos.col, .ref c']))) c' (CodeO c' (X.env.qual ++ "<lambda>")) b = some u := fun b u e n => by
        rw [upd_ne (ne_of_none e cn), upd_ne n]; exact e
      have code : ∀ b r, H b = some (CodeO b r) → b ≠ P := fun b r e z => by
        rw [z, hP] at e
        exact codeO_ne _ (Option.some.inj e).symm
      by_cases hp : p = P
      · subst hp
        have er : r = X.env.qual ++ "<lambda>" := Tn.uniq _ m _ hn rfl
        subst er
        refine ⟨_, by rw [upd_ne (ne_of_none hP cn), upd_same], ?_, fun pos' cv z => ?_⟩
        · rw [Array.toList_append]; exact PySem.TriplesOk_snoc _ _ _ _ tri
        · rw [Array.toList_append] at z
          rcases among_app _ tri z with z | z
          · obtain ⟨c0, e1, e2⟩ := look pos' cv z
            exact ⟨c0, e1, stay _ _ e2 (code _ _ e2)⟩
          · exact ⟨c', z, upd_same⟩
      · obtain ⟨ps', e1, e2, e3⟩ := w.tab p r m
        refine ⟨ps', stay _ _ e1 hp, e2, fun pos' cv z => ?_⟩
        obtain ⟨c0, e4, e5⟩ := e3 pos' cv z
        exact ⟨c0, e4, stay _ _ e5 (code _ _ e5)⟩
    · have n1 : g.objs.size ≠ c' := Nat.ne_of_gt lt
      have n2 : g.objs.size ≠ P := Nat.ne_of_gt (Nat.lt_of_lt_of_le (Heap.lt_size oP) sz)
      rw [upd_ne n1, upd_ne n2]
      exact I.hok.fresh sz
end
end VI

namespace VI
variable [Tn]
open PySem PySem.Spec PyProof.Rows L2 LamX
section
variable {X : Cx} {pins : List (Addr × Obj)} {σ : L2.St} {H H' : Hp} {s : Shared} {h' : Heap} {ch : List Addr}
end
section
variable {X : Cx} {mg : Str → Option Value} {call : CallT} {W : WX} {pins : List (Addr × Obj)}
end
end VI

set_option maxHeartbeats 2000000
namespace VI
open PySem PySem.Spec PyProof.Rows L2 PySem.HandSPX PySem.OEX
section
variable {prog : Program} {w : World} {A : Around} {E : Value → Shared → Prop} {R : Result → Shared → Prop} {h : Heap} {g : Array GenState} {d : Drawn} {t : Nat} {os : OsState}
variable {nm q : Str} {C N : Addr} {bs bm bmB : List Value} {hdct : Bool} {sn : List Str} {sub : List Value} {ab : Bool} {col : Option Bool} {dd : Option Addr} {k0 k1 k2 k3 k5 : Option Value} {B newId initId : String} {kw : List (Str × Value)}
theorem check_newK (F : ExcBaseFacts B newId initId bmB) (hT : ∀ X : String, bm.contains (.type X) = bmB.contains (.type X)) {rest : List Value} {Q : Unit → Shared → Prop} {M : Model}
    (hC : h.get? C = some (excClassObj nm q C N bs bm hdct sn sub ab col dd k0 k1 k2 k3 k5 newId)) (hq : Q () ⟨h, g, d, t, os⟩) : wpAny M A (checkBuiltinCall newId ⟨.ref C :: rest, kw⟩) Q E ⟨h, g, d, t, os⟩ := by
  have hcont : (Value.ref C :: bm).contains (.type B) = true := by rw [List.contains_cons, hT, F.hasB, Bool.or_true]
  have hstar := F.noStar
  simp only [checkBuiltinCall, F.newKind, F.newSplit, F.newRow]
  repeat (first | refine wpAny_loadPart_at hC ?_ | (refine wpAny_isSubtype_exc hC ?_; rw [hcont]) | refine wpAny_staticBase_exc hC ?_ | refine wpAny_madeBy_exc hC ?_ | simp only [bne_self_eq_false, Bool.false_eq_true, if_false] | wp_step)
  exact hq
theorem newK (F : ExcBaseFacts B newId initId bmB) (hT : ∀ X : String, bm.contains (.type X) = bmB.contains (.type X)) {rest : List Value}
    (hC : h.get? C = some (excClassObj nm q C N bs bm hdct sn sub ab col dd k0 k1 k2 k3 k5 newId))
    (hq : R (.ok (.ret (.ref (h.objs.size + 1)))) ⟨(h.push { cls := .type "tuple", data := .seq rest.toArray }).push
      { cls := .ref C, data := .fields #[.ref h.objs.size, .none, .none, .none, .bool false, .none] }, g, d, t, os⟩) (hrest : rest.length ≤ sizeLine) :
    codeAny (model prog w) A (.builtin newId ⟨.ref C :: rest, kw⟩) R ⟨h, g, d, t, os⟩ := by
  have hends := F.ends
  have hcB : (Value.ref C :: bm).contains (.type B) = true := by rw [List.contains_cons, hT, F.hasB, Bool.or_true]
  have hcA : (Value.ref C :: bm).contains (.type "AttributeError") = false := by rw [List.contains_cons, hT, F.noAttr]; rfl
  have hcN : (Value.ref C :: bm).contains (.type "NameError") = false := by rw [List.contains_cons, hT, F.noName]; rfl
  refine codeAny_builtinAt F.entry ?_
  unfold Builtin.«BaseException.__new__»
  refine PySem.wpAt_bind ?_
  show PySem.wpAt _ _ _ (stack >>= _) _ _ _
  refine PySem.wpAt_bind (PySem.wpAt_stack fun p below => PySem.wpAt_of_wpAny ?_)
  wp_walk
  refine PySem.wpAt_of_wpAny ?_
  rw [F.owner]
  repeat (first | with_reducible refine wpAny_madeHere_exc F.canon hC ?_ | with_reducible refine wpAny_loadPart_at hC ?_ | (with_reducible refine wpAny_isSubtype_exc hC ?_; first | rw [hcB] | rw [hcA] | rw [hcN]) | wp_step)
  show R _ _
  rw [Heap.size_push]
  exact hq
theorem type_callK (F : ExcBaseFacts B newId initId bmB) (hT : ∀ X : String, bm.contains (.type X) = bmB.contains (.type X)) {rest : List Value} {fI : Addr} {Q : Fin → Shared → Prop}
    (hC : h.get? C = some (excClassObj nm q C N bs bm hdct sn sub ab col dd k0 k1 k2 k3 k5 newId))
    (hi : W.Looks (model prog w) h (typeLookup (.ref C) "__init__") (some (.ref fI))) (hb : ∀ self, W.Looks (model prog w) h (bindSpecial (.ref fI) self) (.ref fI, [self])) (hrest : rest.length ≤ sizeLine)
    (hq : codeAny (model prog w) A (.call (.ref fI) ⟨.ref (h.objs.size + 1) :: rest, kw⟩)
      (fun r s' => match r with | .ok (.ret v) => v = .none ∧ Q (.done (.ret (.ref (h.objs.size + 1)))) s' | .ok _ => False | .error e => E e s')
      ⟨(h.push (W.kdv_tup rest)).push (excO C h.objs.size), g, d, t, os⟩) :
    wpAny (model prog w) A (Builtin.«type.__call__» ⟨.ref C :: rest, kw⟩) Q E ⟨h, g, d, t, os⟩ := by
  repeat (first | with_reducible refine wpAny_loadPart_at hC ?_ | with_reducible refine wpAny_madeBy_exc hC ?_ | wp_step)
  refine codeAny_call_builtin_code (Code.quiet_builtin _ F.quiet) (check_newK F hT hC ?_)
  refine newK F hT hC ?_ hrest
  show wpAny _ _ _ _ _ _
  have k : ∀ b o, h.get? b = some o → ((h.push (W.kdv_tup rest)).push (excO C h.objs.size)).get? b = some o := fun b o e => Heap.get?_push_of_some _ (Heap.get?_push_of_some _ e)
  have hC₁ := k _ _ hC
  have hget : ((h.push (W.kdv_tup rest)).push (excO C h.objs.size)).get? (h.objs.size + 1) = some (excO C h.objs.size) := by heap_get
  have hcC : (Value.ref C :: bm).contains (.ref C) = true := by simp
  have i1 := hi.keeps k
  have b1 := (hb (.ref (h.objs.size + 1))).keeps k
  unfold isInstance
  repeat (first | with_reducible refine wpAny_loadPart_at hget ?_ | (with_reducible refine wpAny_isSubtype_exc hC₁ ?_; rw [hcC]) | wp_step)
  show wpAny _ _ (typeLookup (.ref C) _) _ _ _
  refine i1.at ?_
  refine wpAny_holding (wpAny_bind (b1.at ?_))
  refine wpAny_bind (wpAny_call (codeAny_mono hq fun r s' z => ?_))
  rcases r with e | (v | _ | _ | _) <;> first | exact z | exact z.elim | skip
  obtain ⟨rfl, z⟩ := z
  first
    | exact wpAny_pure (wpAny_pure z)
    | (wp_walk; exact z)
theorem check_tcK {M : Model} {rest : List Value} {Q : Unit → Shared → Prop} (hC : h.get? C = some (excClassObj nm q C N bs bm hdct sn sub ab col dd k0 k1 k2 k3 k5 newId))
    (hq : Q () ⟨h, g, d, t, os⟩) : wpAny M A (checkBuiltinCall "type.__call__" ⟨.ref C :: rest, kw⟩) Q E ⟨h, g, d, t, os⟩ := by
  have f3 := tc_sub
  have hT : (⟨h, g, d, t, os⟩ : Shared).TypeIs (.ref C) "type" := ⟨_, hC, rfl⟩
  simp only [checkBuiltinCall, tc_kind, tc_split]
  repeat (any_goals (first | assumption | with_reducible refine wpAny_loadPart_at hC ?_ | with_reducible refine wpAny_onRaise ?_ | with_reducible refine wpAny_map ?_ | wp_step))
theorem call_ownK (F : ExcBaseFacts B newId initId bmB) (hT : ∀ X : String, bm.contains (.type X) = bmB.contains (.type X)) {rest : List Value} {fI : Addr}
    (hC : h.get? C = some (excClassObj nm q C N bs bm hdct sn sub ab col dd k0 k1 k2 k3 k5 newId))
    (hi : W.Looks (model prog w) h (typeLookup (.ref C) "__init__") (some (.ref fI))) (hb : ∀ self, W.Looks (model prog w) h (bindSpecial (.ref fI) self) (.ref fI, [self])) (hrest : rest.length ≤ sizeLine)
    (hq : codeAny (model prog w) (A.under (.builtin "type.__call__" ⟨.ref C :: rest, kw⟩)) (.call (.ref fI) ⟨.ref (h.objs.size + 1) :: rest, kw⟩) (W.InitBack (h.objs.size + 1) R)
      ⟨(h.push (W.kdv_tup rest)).push (excO C h.objs.size), g, d, t, os⟩) :
    codeAny (model prog w) A (.call (.ref C) ⟨rest, kw⟩) R ⟨h, g, d, t, os⟩ := by
  have f1 := tc_lookup
  have f2 := tc_bind (.ref C)
  have hTy : (⟨h, g, d, t, os⟩ : Shared).TypeIs (.ref C) "type" := ⟨_, hC, rfl⟩
  refine codeAny_of_tree ?_
  show wpAny _ _ (callAny (.ref C) _) _ _ _
  repeat (any_goals (first | assumption | with_reducible refine wpAny_loadPart_at hC ?_ | wp_step))
  refine ⟨rfl, ?_⟩
  refine codeAny_call_builtin_at (Code.quiet_builtin _ (by decide +kernel)) entry_typeCall (check_tcK hC (type_callK F hT hC hi hb hrest ?_))
  refine codeAny_mono hq fun r s' z => ?_
  rcases r with e | (v | _ | _ | _) <;> exact z
end
end VI

set_option maxHeartbeats 2000000
namespace VI
open PySem PySem.Spec PyProof.Rows L2 PySem.HandSPX PySem.OEX
def tMkK (C : Addr) (m : Nat) (sp : Sp) (gV : List V → List V → List V) (tk : TA) : L2.St → Hp → XK → Prop := fun σ H Q => tk σ H fun zs H1 => zs.length = m ∧ ∀ a, H1 a = none → sp (gV [.ref a] zs) (upd H1 a (exo a C none))
  (fun v H2 => v = .non ∧ ∃ (d : Addr) (fs : List (Str × V)), H2 a = some (exo a C (some d)) ∧ H2 d = some (exd d fs) ∧ H1 d = none ∧ Q (.ref C) (some d) (upd (del H2 a) d (.xd fs))) (fun _ _ _ => False)
section
variable {X : Cx} {CX : CXT} {k : Nat} {C fI : Addr} {fd : FuncData} {ps ks : List Str} {sp : Sp} {x : Str} {p pos : Pos} {kws : List Keyword} {tk : TA} {g : List Value → List Value → List Value} {gV : List V → List V → List V}
theorem pmk_kw (T : OexC X.K C) (iC : PySem.W.findIn X.K (.ref C) "__init__" = some (some (.ref fI))) (tI : PySem.W.typeIn X.K (.ref fI) = some (.type "function"))
    (F1 : FnOk X.prog X.w X.K X.mg X.base CX k fI fd ps sp) (hr : Room (k + 1) X.A) (hb : KBn X.K fd ps 1 ks g gV) (hx : Passes CX X (fun _ _ _ => False)) (hg : Gl X x) (hm : X.mg x = some (.ref C)) (hkw : PK X kws tk)
    (hall : (backToKw pos (keywordEach kws X.env)).all (·.1.isSome) = true) (hks : (backToKw pos (keywordEach kws X.env)).filterMap (·.1) = ks) (hdb : (x == ("__debug__" : Str)) = false)
    (hpl : ((backTo pos (starEach [] X.env)).any (·.1) || (backToKw pos (keywordEach kws X.env)).any (·.1.isNone)) = false) :
    PMk X (.Call (.Name x p) [] kws pos) (tMkK C ks.length sp gV tk) := by
  intro pins s σ H Q I h
  obtain ⟨nm, q, N, bs, bm, sn, sub, ab, col, dd, k0, k1, k2, k3, k5, hC, hbm⟩ := T.cls
  refine wpAny_Call_Name_kw (ld_glob I hg hm ?_ hdb)
  refine PySem.W.callWith_KW0 (h₀ := X.base) I.ok.mod.kin T.kC hall ?_ hpl
  refine thn (hkw.run pos pins s σ H _ I h) fun ws s2 ⟨zs, H1, I1, rz, l2, q1⟩ => ⟨I1.kIn, ?_⟩
  rw [hks]
  show wpAny _ _ (call (.ref C) [] (ks.zip ws)) _ _ _
  obtain ⟨hp, g0, dr, tk0, os⟩ := s2
  have hsz : hp.objs.size ≤ hp.objs.size + 1 := Nat.le_succ _
  have hn : H1 (hp.objs.size + 1) = none := I1.hok.fresh hsz
  have hq := q1 (hp.objs.size + 1) hn
  have kk : ∀ b o, hp.get? b = some o → ((hp.push (PySem.W.kdv_tup [])).push (PySem.HandSPX.excO C hp.objs.size)).get? b = some o := fun b o e => Heap.get?_push_of_some _ (Heap.get?_push_of_some _ e)
  have hget : ((hp.push (PySem.W.kdv_tup [])).push (PySem.HandSPX.excO C hp.objs.size)).get? (hp.objs.size + 1) = some (PySem.HandSPX.excO C hp.objs.size) := by heap_get
  have I2 : Inv X pins σ (upd H1 (hp.objs.size + 1) (exo (hp.objs.size + 1) C none)) ⟨(hp.push (PySem.W.kdv_tup [])).push (PySem.HandSPX.excO C hp.objs.size), g0, dr, tk0, os⟩ :=
    I1.laid (t' := tk0) (a := hp.objs.size + 1) (o := exo (hp.objs.size + 1) C none) (h' := (hp.push (PySem.W.kdv_tup [])).push (PySem.HandSPX.excO C hp.objs.size)) kk hsz (exo_ok hget)
  have r1 : Vals [V.ref (hp.objs.size + 1)] [Value.ref (hp.objs.size + 1)] := .cons rfl .nil
  have r2 := hb.rel r1 rz
  refine wpAny_call (call_ownK F.excBase_ValueError (fun Y => PySem.HandSPX.refsVE_contains Y bm hbm) (I1.kIn _ _ hC) (PySem.W.looks_findIn I1.kIn iC) (fun self => PySem.W.bind_fn I1.kIn self tI) (by simp)
    (codeAny_mono (F1.run _ X.stack _ _ ⟨[Value.ref (hp.objs.size + 1)], ks.zip ws⟩ (g [Value.ref (hp.objs.size + 1)] ws) _ _ (fun _ _ _ => False) (hr.make C [] (ks.zip ws)) (I2.env0.make C [] (ks.zip ws)) (hb.to _ [Value.ref (hp.objs.size + 1)] ws I2.kIn rfl (rz.length.symm.trans l2)) r2 hq) fun r s' hq' => ?_))
  cases r with
  | error er => exact hx pins σ _ _ er s' I2 hq'
  | ok fl =>
    cases fl with
    | ret u =>
      obtain ⟨v, H2, os2, bare2, un2, hok2, rv, ev, d, fs, ea, ed, hd1, q2⟩ := hq'
      subst ev
      obtain ⟨h2, g2, d2, t2, os'⟩ := s'
      exact ⟨rv, mk_end (raises_own T.exC T.tyC) I1 hsz kk un2 hok2 os2 bare2 ea ed hd1 q2⟩
    | next => exact False.elim hq'
    | brk => exact False.elim hq'
    | cont => exact False.elim hq'
end
structure IniC (K : PySem.W.Frag) (B : Addr) : Prop where
  ga : PySem.W.specialIn K (.ref B) "__getattribute__" = some (some (.builtin "type.__getattribute__"))
  rd : PySem.W.readsIn K B (.type "type") = true
  at_ : PySem.W.findCls K (.ref B) (.type "type") "__init__" = some (.val (.builtin "ValueError.__init__"))
section
variable {X : Cx} {e : Expr} {es : List Expr} {ta : TA} {B : Addr} {x : Str} {p1 p2 pos : Pos}
theorem pe_clsini {pl : Sem Bool} (hg : Gl X x) (hm : X.mg x = some (.ref B)) (hdb : (x == ("__debug__" : Str)) = false) (T : IniC X.K B) (ha : PA X (e :: es) ta)
    (hc : eval (.Call (.Attribute (.Name x p1) "__init__" p2) (e :: es) [] pos) X.env = (do
      let ov ← eval (.Name x p1) X.env
      standAt p2.atName
      let (f, first) ← holding [ov] (getMethod ov "__init__" pl)
      callWith pos f first (backTo pos (starEach (e :: es) X.env)) (backToKw pos (keywordEach [] X.env))))
    (he : starEach (e :: es) X.env = (false, eval e X.env) :: starEach es X.env) (hpl : (backTo pos (starEach es X.env)).any (·.1) = false) :
    PE X (.Call (.Attribute (.Name x p1) "__init__" p2) (e :: es) [] pos) (tVeI X.K ta) := by
  refine ⟨fun pins s σ H Q I h => ?_⟩
  refine PySem.W.methodCall_KW (ld_glob I hg hm ?_ hdb) hc
  refine PySem.W.method_cls I.kIn T.ga ?_
  refine PySem.W.cls_value I.kIn T.rd T.at_ (by decide +kernel) ?_
  show wpAny _ _ (callWith pos (Value.builtin "ValueError.__init__") [] (backTo pos (starEach (e :: es) X.env)) []) _ _ _
  refine PyProof.Rows.callWith_method1 (thn (ha.run pos pins _ σ H _ (I.tok _) h) fun us s1 ⟨vs, H1, I1, r1, a, C, ws, ev, hl, T, ea, q⟩ => ?_) he hpl
  subst ev
  cases r1 with
  | @cons _ u0 _ ur ra rw' =>
    obtain rfl : u0 = Value.ref a := ra
    have hlen : ur.length ≤ sizeLine := by
      rw [← Paired.length rw', sizeLine_eq]
      omega
    exact oinit_ok T I1 ea hlen fun s' J => ⟨.non, H1, J, rfl, q⟩
end
end VI

set_option maxHeartbeats 2000000
namespace VI
open PySem PySem.Spec PyProof.Rows L2 PySem.HandSPX PySem.OEX
def spIni (K : PySem.W.Frag) (fs : List Str) : Sp := fun vs H Q _ => ∃ (a C : Addr) (zs : List V), vs = .ref a :: zs ∧ zs.length = fs.length ∧ OexC K C ∧ (∀ f ∈ fs, PySem.W.findIn K (.ref C) f = some none) ∧ H a = some (exo a C none) ∧
  ∀ dx, H dx = none → dx ≠ a → Q .non (upd (upd H dx (exd dx (fs.zip zs).reverse)) a (exo a C (some dx)))
theorem mcall_eq {b name : Str} {args : List Expr} {p1 p2 pos : Pos} {env : Env} (hline : (p2.endLine == pos.line) = true) (hfew : methodCallForm (args.length + ([] : List Keyword).length) (backTo pos (starEach args env)) (backToKw pos (keywordEach [] env)) = true) :
    eval (.Call (.Attribute (.Name b p1) name p2) args [] pos) env = (do
      let ov ← eval (.Name b p1) env
      standAt p2.atName
      let (f, first) ← holding [ov] (getMethod ov name (do return (← importBound (.Name b p1) env).getD true))
      callWith pos f first (backTo pos (starEach args env)) (backToKw pos (keywordEach [] env))) := by
  have e : eval (.Call (.Attribute (.Name b p1) name p2) args [] pos) env = (do
      let ov ← attributeBase (.Name b p1) name env (eval (.Name b p1) env)
      standAt p2.atName
      methodCall (.Name b p1) name p2 pos env ov (args.length + ([] : List Keyword).length) (backTo pos (starEach args env)) (backToKw pos (keywordEach [] env))) := rfl
  rw [e]
  have e2 : attributeBase (.Name b p1) name env (eval (.Name b p1) env) = eval (.Name b p1) env := rfl
  rw [e2]
  unfold methodCall calleeOf methodCallPos
  rw [hfew]
  simp only [hline, Bool.not_true, Bool.false_or, if_true, pure_bind]
theorem start1 (x f : Str) (v z : V) : start [x, f] [v, z] = [some v, some z] := rfl
section
variable {P : Program} {w : World} {K : PySem.W.Frag} {mg : Str → Option Value} {base : Heap} {k : Nat} {fI B : Addr} {fd : FuncData} {st : Stmt} {b f g qual : Str} {p1 p2 p3 p4 p4' p5 p6 p7 p8 p9 p10 q7 q8 q9 q10 : Pos}
theorem ini1 (F : L2.Fun K "__init__" qual st fI fd) (S : FnScope ["self", f] ["self", f] (defScope st)) (hb : (defScope st).names.lookup b = some .globalImplicit) (h1 : (defScope st).names.lookup ("self" : Str) = some NameKind.local) (h2 : (defScope st).names.lookup f = some .local)
    (hdb : (b == ("__debug__" : Str)) = false) (hd1 : (f == ("__debug__" : Str)) = false) (hd2 : (f == ("__classdict__" : Str)) = false) (hm : mg b = some (.ref B)) (T : IniC K B) (hline : (p2.endLine == p5.line) = true)
    (hst : defBody st = [.Expr (.Call (.Attribute (.Name b p1) "__init__" p2) [.Name "self" p3, .Name f p4] [] p5) p6, .Assign [.Attribute (.Name "self" p7) f p8] (.Name f p9) p10]) :
    FnOk P w K mg base (L2.CX P w) (k + 1) fI fd ["self", f] (spIni K [f]) := by
  refine F.okX S (fun vs H Q E ⟨a, C, zs, e, l, _⟩ => by rw [e]; simp [l]) fun cdv A outer s H vs Q E hr hsp => ?_
  obtain ⟨a, C, zs, rfl, hl, TC, hno, ha, hq⟩ := hsp
  match zs, hl with
  | [z], _ =>
  rw [hst]
  have e0 : PE (cxOf (L2.CX P w) P w K mg base ["self", f] qual (defScope st) fI cdv A outer s H E) (.Name "self" p3) (tVar 0) := pe_var rfl (.inl h1)
  have e0' : PE (cxOf (L2.CX P w) P w K mg base ["self", f] qual (defScope st) fI cdv A outer s H E) (.Name "self" p7) (tVar 0) := pe_var rfl (.inl h1)
  have e1 : PE (cxOf (L2.CX P w) P w K mg base ["self", f] qual (defScope st) fI cdv A outer s H E) (.Name f p4) (tVar 1) := pe_var rfl (.inl h2) hd1 hd2
  have e1' : PE (cxOf (L2.CX P w) P w K mg base ["self", f] qual (defScope st) fI cdv A outer s H E) (.Name f p9) (tVar 1) := pe_var rfl (.inl h2) hd1 hd2
  refine ⟨_, pss_cons (ps_expr (pe_clsini hb hm hdb T (pa_cons e0 (pa_cons e1 pa_nil)) (mcall_eq hline rfl) rfl rfl)) (pss_cons (ps_ost e0' e1') pss_nil), ?_⟩
  rw [start1]
  refine ⟨_, rfl, _, rfl, a, C, [z], rfl, by simp, TC, ha, ?_⟩
  refine ⟨_, rfl, _, rfl, a, C, rfl, TC, hno f (by simp), .inl ⟨ha, fun dx n ne => ?_⟩⟩
  exact hq dx n ne
end
end VI

set_option maxHeartbeats 4000000
namespace VI
open PySem PySem.Spec PyProof.Rows L2
def rIsX (K : PySem.W.Frag) (cls : Value) (d : Option Addr) (a : Addr) : List V → Hp → VK → Prop := fun xs H Q => ∃ (D : Addr) (c : V) (cv : Value) (b : Bool), cls = .ref D ∧ ExcC K D ∧ (∀ dd, d = some dd → ∃ fs, H dd = some (.xd fs)) ∧
  xs = [.ref a, c] ∧ (∀ u, RelV c u → u = cv) ∧ PySem.W.kitOne K (.ref D) cv = some b ∧ Q (.bl b) H
theorem call_isX {X : Cx} {a : Addr} {cls : Value} {d : Option Addr} {oe : Obj} {pn : List (Addr × Obj)} (hz : Zc cls d oe) (hf : ∃ vs, oe.data = .fields vs) : CallR (X.suite a ((a, oe) :: pn)) (.builtin "isinstance") (rIsX X.K cls d a) := by
  intro pins s σ H xs us Q I r h
  obtain ⟨D, c, cv, b, rfl, C, hd, rfl, hcv, e, q⟩ := h
  cases r with
  | cons rx rr =>
    cases rr with
    | cons rt rr =>
      cases rr
      cases rx
      have ec := hcv _ rt
      subst ec
      obtain ⟨hget, _⟩ := I.pin (a, oe) (List.mem_append.mpr (.inl List.mem_cons_self))
      obtain ⟨vs, hv⟩ := hf
      have J : ∃ od, PySem.W.InstAt s.heap a oe D od := by
        cases d with
        | none => exact ⟨none, hget, hz.1, by unfold PySem.W.notCls; rw [hv] <;> rfl, by rw [hz.2]; trivial⟩
        | some dd =>
          obtain ⟨fs, ea⟩ := hd dd rfl
          have hx : ObjOk X.prog X.w H s.heap dd (.xd fs) := I.hok dd _ ea
          obtain ⟨mA, hns, hr⟩ := hx
          obtain ⟨od, ho, hl⟩ := lookIn_ns hns
          exact ⟨some od, hget, hz.1, by unfold PySem.W.notCls; rw [hv] <;> rfl, by rw [hz.2]; exact ho⟩
      obtain ⟨od, J⟩ := J
      have hcl : (PySem.W.clsIn X.K D).isSome = true := by
        obtain ⟨cd, hc, _⟩ := PySem.W.any_some C.hd
        rw [hc]; rfl
      exact PySem.W.kia_one (PySem.W.kitx_exc hcl C.hg C.hk C.hs C.ha C.hn C.ht C.hm) I.kIn J e (fun z => nomatch z) fun tk => ⟨.bl b, H, I.kept (t' := tk) fun _ _ z => z, rfl, q⟩
def rCntB (K : PySem.W.Frag) : V → List V → Hp → VK → Prop := fun x xs H Q => ∃ (p : Addr) (bs : List Bool) (k : Bool), x = .ref p ∧ xs = [.bl k] ∧ SqL K H p (bs.map V.bl) ∧ Q (.int (bs.count k : Nat)) H
theorem dpB {K : PySem.W.Frag} {H : Hp} : ∀ bs : List Bool, DpAll K H (bs.map V.bl) (bs.map PyData.bool)
  | [] => .nil
  | b :: bs => .cons (.bl b) (dpB bs)
theorem depthB : ∀ bs : List Bool, PyData.depthAll (bs.map PyData.bool) = 0
  | [] => by simp [PyData.depthAll]
  | b :: bs => by simp only [List.map_cons, PyData.depthAll, depthB bs, PyData.depth]; rfl
theorem plainB : ∀ bs : List Bool, PyData.plainAll (bs.map PyData.bool) = true
  | [] => by simp [PyData.plainAll]
  | b :: bs => by simp only [List.map_cons, PyData.plainAll, plainB bs, PyData.plain, Bool.and_self]
theorem canB : ∀ bs : List Bool, PyData.canLayAll0 (bs.map PyData.bool) = true
  | [] => by simp [PyData.canLayAll0]
  | b :: bs => by simp only [List.map_cons, PyData.canLayAll0, canB bs, PyData.canLay0, Bool.and_self]
theorem shapedB (bs : List Bool) : SeqAt.shaped (.list (bs.map PyData.bool)) = true := by
  simp only [SeqAt.shaped, PyData.canLay0, canB, PyData.depth, depthB, Bool.true_and, decide_eq_true_eq]
  decide
theorem eqvB (a b : Bool) : PyData.eqv (.bool a) (.bool b) = (a == b) := by
  cases a <;> cases b <;> first | rfl | decide +kernel
theorem countB (k : Bool) : ∀ bs : List Bool, (bs.map PyData.bool).countP (fun y => PyData.eqv y (.bool k)) = bs.count k
  | [] => rfl
  | b :: bs => by rw [List.map_cons, List.countP_cons, List.count_cons, countB k bs, eqvB]
theorem mt_lcountB {X : Cx} (hu : X.A.units + 65 < cLine) : MtR X "list.count" (rCntB X.K) := by
  intro pins s σ H x xs v us Q I rx rxs h
  obtain ⟨p, bs, k, rfl, rfl, hs, q⟩ := h
  cases rx
  obtain ⟨u, rfl, ru⟩ := rxs.one
  obtain rfl : u = Value.bool k := ru
  obtain ⟨its, rv, pl, hlen⟩ := I.list hs
  obtain ⟨as, rs⟩ := Dp.readsAll I (bs.map PyData.bool) _ its (dpB bs) rv
  obtain ⟨as2, rx2⟩ := Dp.reads I (.bool k) (.bl k) (.bool k) (.bl k) rfl
  refine PySem.SeqAt.count_list_data pl.isList rs rx2 (plainB bs) rfl (by rw [depthB]; simp; omega) ?_
  rw [countB]
  exact ⟨.int (bs.count k : Nat), H, I.tok _, ⟨_, rfl⟩, q⟩
end VI

set_option maxHeartbeats 8000000
namespace VI
open PySem PySem.Spec PyProof.Rows L2
def kindSuite (q : Nat → Pos) : List Stmt :=
  [
                      (PySem.Stmt.Assign
                        (targets := [(PySem.Expr.Name "_law_kinds" (q 4))])
                        (value := (PySem.Expr.List
                          (elts := [
                            (PySem.Expr.Call
                              (func := (PySem.Expr.Name "isinstance" (q 5)))
                              (args := [(PySem.Expr.Name "e" (q 6)), (PySem.Expr.Name "BadEdit" (q 7))])
                              (keywords := [])
                              (pos := (q 8))),
                            (PySem.Expr.Call
                              (func := (PySem.Expr.Name "isinstance" (q 9)))
                              (args := [(PySem.Expr.Name "e" (q 10)), (PySem.Expr.Name "BadMark" (q 11))])
                              (keywords := [])
                              (pos := (q 12))),
                            (PySem.Expr.Call
                              (func := (PySem.Expr.Name "isinstance" (q 13)))
                              (args := [(PySem.Expr.Name "e" (q 14)), (PySem.Expr.Name "NoMark" (q 15))])
                              (keywords := [])
                              (pos := (q 16))),
                            (PySem.Expr.Call
                              (func := (PySem.Expr.Name "isinstance" (q 17)))
                              (args := [(PySem.Expr.Name "e" (q 18)), (PySem.Expr.Name "NoEdition" (q 19))])
                              (keywords := [])
                              (pos := (q 20)))])
                          (pos := (q 21))))
                        (pos := (q 22))),
                      (PySem.Stmt.Expr
                        (value := (PySem.Expr.Call
                          (func := (PySem.Expr.Attribute (PySem.Expr.Name "_law_kinds" (q 23)) "extend" (q 24)))
                          (args := [
                            (PySem.Expr.List
                              (elts := [
                                (PySem.Expr.Call
                                  (func := (PySem.Expr.Name "isinstance" (q 25)))
                                  (args := [(PySem.Expr.Name "e" (q 26)), (PySem.Expr.Name "BadDeed" (q 27))])
                                  (keywords := [])
                                  (pos := (q 28))),
                                (PySem.Expr.Call
                                  (func := (PySem.Expr.Name "isinstance" (q 29)))
                                  (args := [(PySem.Expr.Name "e" (q 30)), (PySem.Expr.Name "BadSigns" (q 31))])
                                  (keywords := [])
                                  (pos := (q 32))),
                                (PySem.Expr.Call
                                  (func := (PySem.Expr.Name "isinstance" (q 33)))
                                  (args := [(PySem.Expr.Name "e" (q 34)), (PySem.Expr.Name "Crossed" (q 35))])
                                  (keywords := [])
                                  (pos := (q 36))),
                                (PySem.Expr.Call
                                  (func := (PySem.Expr.Name "isinstance" (q 37)))
                                  (args := [(PySem.Expr.Name "e" (q 38)), (PySem.Expr.Name "BadName" (q 39))])
                                  (keywords := [])
                                  (pos := (q 40)))])
                              (pos := (q 41)))])
                          (keywords := [])
                          (pos := (q 42))))
                        (pos := (q 43))),
                      (PySem.Stmt.Expr
                        (value := (PySem.Expr.Call
                          (func := (PySem.Expr.Attribute (PySem.Expr.Name "_law_kinds" (q 44)) "extend" (q 45)))
                          (args := [
                            (PySem.Expr.List
                              (elts := [
                                (PySem.Expr.Call
                                  (func := (PySem.Expr.Name "isinstance" (q 46)))
                                  (args := [(PySem.Expr.Name "e" (q 47)), (PySem.Expr.Name "BadPattern" (q 48))])
                                  (keywords := [])
                                  (pos := (q 49))),
                                (PySem.Expr.Call
                                  (func := (PySem.Expr.Name "isinstance" (q 50)))
                                  (args := [(PySem.Expr.Name "e" (q 51)), (PySem.Expr.Name "BadText" (q 52))])
                                  (keywords := [])
                                  (pos := (q 53))),
                                (PySem.Expr.Call
                                  (func := (PySem.Expr.Name "isinstance" (q 54)))
                                  (args := [(PySem.Expr.Name "e" (q 55)), (PySem.Expr.Name "BadCount" (q 56))])
                                  (keywords := [])
                                  (pos := (q 57)))])
                              (pos := (q 58)))])
                          (keywords := [])
                          (pos := (q 59))))
                        (pos := (q 60))),
                      (PySem.Stmt.If
                        (test := (PySem.Expr.BoolOp
                          (op := PySem.BoolOp.Or)
                          (values := [
                            (PySem.Expr.Compare
                              (left := (PySem.Expr.Call
                                (func := (PySem.Expr.Attribute (PySem.Expr.Name "_law_kinds" (q 61)) "count" (q 62)))
                                (args := [(PySem.Expr.Constant (PySem.Const.bool true) 0 (q 63))])
                                (keywords := [])
                                (pos := (q 64))))
                              (ops := [PySem.CmpOp.NotEq])
                              (comparators := [(PySem.Expr.Constant (PySem.Const.int 1) 0 (q 65))])
                              (pos := (q 66))),
                            (PySem.Expr.UnaryOp
                              (op := PySem.UnaryOp.Not)
                              (operand := (PySem.Expr.Call
                                (func := (PySem.Expr.Name "isinstance" (q 67)))
                                (args := [(PySem.Expr.Name "e" (q 68)), (PySem.Expr.Name "ValueError" (q 69))])
                                (keywords := [])
                                (pos := (q 70))))
                              (pos := (q 71)))])
                          (pos := (q 72))))
                        (body := [
                          (PySem.Stmt.Return
                            (value := (some
                              (PySem.Expr.Tuple
                                (elts := [
                                  (PySem.Expr.Constant (PySem.Const.str "other") 0 (q 73)),
                                  (PySem.Expr.Constant (PySem.Const.int 0) 0 (q 74))])
                                (k := 0)
                                (pos := (q 75)))))
                            (pos := (q 76)))])
                        (orelse := [])
                        (pos := (q 77))),
                      (PySem.Stmt.If
                        (test := (PySem.Expr.Compare
                          (left := (PySem.Expr.Constant (PySem.Const.bool true) 0 (q 78)))
                          (ops := [PySem.CmpOp.In])
                          (comparators := [
                            (PySem.Expr.Subscript
                              (value := (PySem.Expr.Name "_law_kinds" (q 79)))
                              (slice := (PySem.Expr.Slice
                                (lower := none)
                                (upper := (some (PySem.Expr.Constant (PySem.Const.int 5) 0 (q 80))))
                                (step := none)
                                (pos := (q 81))))
                              (pos := (q 82)))])
                          (pos := (q 83))))
                        (body := [
                          (PySem.Stmt.Return
                            (value := (some
                              (PySem.Expr.Tuple
                                (elts := [
                                  (PySem.Expr.Subscript
                                    (value := (PySem.Expr.List
                                      (elts := [
                                        (PySem.Expr.Constant (PySem.Const.str "edit") 0 (q 84)),
                                        (PySem.Expr.Constant (PySem.Const.str "mark") 0 (q 85)),
                                        (PySem.Expr.Constant (PySem.Const.str "nomark") 0 (q 86)),
                                        (PySem.Expr.Constant (PySem.Const.str "edition") 0 (q 87)),
                                        (PySem.Expr.Constant (PySem.Const.str "deed") 0 (q 88))])
                                      (pos := (q 89))))
                                    (slice := (PySem.Expr.Call
                                      (func := (PySem.Expr.Attribute (PySem.Expr.Name "_law_kinds" (q 90)) "index" (q 91)))
                                      (args := [(PySem.Expr.Constant (PySem.Const.bool true) 0 (q 92))])
                                      (keywords := [])
                                      (pos := (q 93))))
                                    (pos := (q 94))),
                                  (PySem.Expr.Attribute (PySem.Expr.Name "e" (q 95)) "number" (q 96))])
                                (k := 0)
                                (pos := (q 97)))))
                            (pos := (q 98)))])
                        (orelse := [])
                        (pos := (q 99))),
                      (PySem.Stmt.If
                        (test := (PySem.Expr.BoolOp
                          (op := PySem.BoolOp.Or)
                          (values := [
                            (PySem.Expr.Subscript
                              (value := (PySem.Expr.Name "_law_kinds" (q 100)))
                              (slice := (PySem.Expr.Constant (PySem.Const.int 5) 0 (q 101)))
                              (pos := (q 102))),
                            (PySem.Expr.Subscript
                              (value := (PySem.Expr.Name "_law_kinds" (q 103)))
                              (slice := (PySem.Expr.Constant (PySem.Const.int 6) 0 (q 104)))
                              (pos := (q 105)))])
                          (pos := (q 106))))
                        (body := [
                          (PySem.Stmt.Return
                            (value := (some
                              (PySem.Expr.IfExp
                                (test := (PySem.Expr.Subscript
                                  (value := (PySem.Expr.Name "_law_kinds" (q 107)))
                                  (slice := (PySem.Expr.Constant (PySem.Const.int 5) 0 (q 108)))
                                  (pos := (q 109))))
                                (body := (PySem.Expr.Tuple
                                  (elts := [
                                    (PySem.Expr.Constant (PySem.Const.str "signs") 0 (q 110)),
                                    (PySem.Expr.Attribute (PySem.Expr.Name "e" (q 111)) "at" (q 112))])
                                  (k := 0)
                                  (pos := (q 113))))
                                (orelse := (PySem.Expr.Tuple
                                  (elts := [
                                    (PySem.Expr.Constant (PySem.Const.str "crossed") 0 (q 114)),
                                    (PySem.Expr.Tuple
                                      (elts := [
                                        (PySem.Expr.Attribute (PySem.Expr.Name "e" (q 115)) "one" (q 116)),
                                        (PySem.Expr.Attribute (PySem.Expr.Name "e" (q 117)) "other" (q 118))])
                                      (k := 0)
                                      (pos := (q 119)))])
                                  (k := 0)
                                  (pos := (q 120))))
                                (pos := (q 121)))))
                            (pos := (q 122)))])
                        (orelse := [])
                        (pos := (q 123))),
                      (PySem.Stmt.If
                        (test := (PySem.Expr.BoolOp
                          (op := PySem.BoolOp.Or)
                          (values := [
                            (PySem.Expr.Subscript
                              (value := (PySem.Expr.Name "_law_kinds" (q 124)))
                              (slice := (PySem.Expr.Constant (PySem.Const.int 7) 0 (q 125)))
                              (pos := (q 126))),
                            (PySem.Expr.Subscript
                              (value := (PySem.Expr.Name "_law_kinds" (q 127)))
                              (slice := (PySem.Expr.Constant (PySem.Const.int 8) 0 (q 128)))
                              (pos := (q 129)))])
                          (pos := (q 130))))
                        (body := [
                          (PySem.Stmt.Return
                            (value := (some
                              (PySem.Expr.IfExp
                                (test := (PySem.Expr.Subscript
                                  (value := (PySem.Expr.Name "_law_kinds" (q 131)))
                                  (slice := (PySem.Expr.Constant (PySem.Const.int 7) 0 (q 132)))
                                  (pos := (q 133))))
                                (body := (PySem.Expr.Tuple
                                  (elts := [
                                    (PySem.Expr.Constant (PySem.Const.str "name") 0 (q 134)),
                                    (PySem.Expr.Attribute (PySem.Expr.Name "e" (q 135)) "name" (q 136))])
                                  (k := 0)
                                  (pos := (q 137))))
                                (orelse := (PySem.Expr.Tuple
                                  (elts := [
                                    (PySem.Expr.Constant (PySem.Const.str "pattern") 0 (q 138)),
                                    (PySem.Expr.Attribute (PySem.Expr.Name "e" (q 139)) "place" (q 140))])
                                  (k := 0)
                                  (pos := (q 141))))
                                (pos := (q 142)))))
                            (pos := (q 143)))])
                        (orelse := [])
                        (pos := (q 144))),
                      (PySem.Stmt.Return
                        (value := (some
                          (PySem.Expr.IfExp
                            (test := (PySem.Expr.Subscript
                              (value := (PySem.Expr.Name "_law_kinds" (q 145)))
                              (slice := (PySem.Expr.Constant (PySem.Const.int 9) 0 (q 146)))
                              (pos := (q 147))))
                            (body := (PySem.Expr.Tuple
                              (elts := [
                                (PySem.Expr.Constant (PySem.Const.str "text") 0 (q 148)),
                                (PySem.Expr.Attribute (PySem.Expr.Name "e" (q 149)) "row" (q 150))])
                              (k := 0)
                              (pos := (q 151))))
                            (orelse := (PySem.Expr.Tuple
                              (elts := [
                                (PySem.Expr.Constant (PySem.Const.str "count") 0 (q 152)),
                                (PySem.Expr.Constant (PySem.Const.int 0) 0 (q 153))])
                              (k := 0)
                              (pos := (q 154))))
                            (pos := (q 155)))))
                        (pos := (q 156)))]
def kindBody (q : Nat → Pos) : List Stmt :=
  [
              (PySem.Stmt.Try
                (body := [
                  (PySem.Stmt.Expr
                    (value := (PySem.Expr.Call (PySem.Expr.Name "_law_call" (q 0)) [] [] (q 1)))
                    (pos := (q 2)))])
                (handlers := [
                  (PySem.ExceptHandler.ExceptHandler
                    (type := (some (PySem.Expr.Name "ShelfError" (q 3))))
                    (name := (some "e"))
                    (body := kindSuite q)
                    (pos := (q 157)))])
                (orelse := [])
                (finalbody := [])
                (pos := (q 158))),
              (PySem.Stmt.Return
                (value := (some
                  (PySem.Expr.Tuple
                    (elts := [
                      (PySem.Expr.Constant (PySem.Const.str "") 0 (q 159)),
                      (PySem.Expr.Constant (PySem.Const.int 0) 0 (q 160))])
                    (k := 0)
                    (pos := (q 161)))))
                (pos := (q 162)))]

def kNg : List Str := ["_law_call", "e", "_law_kinds"]
def kNames : List (Str × NameKind) := [("_law_call", .local), ("e", .local), ("_law_kinds", .local), ("ShelfError", .globalImplicit), ("isinstance", .globalImplicit), ("BadEdit", .globalImplicit), ("BadMark", .globalImplicit), ("NoMark", .globalImplicit),
  ("NoEdition", .globalImplicit), ("BadDeed", .globalImplicit), ("BadSigns", .globalImplicit), ("Crossed", .globalImplicit), ("BadName", .globalImplicit), ("BadPattern", .globalImplicit), ("BadText", .globalImplicit), ("BadCount", .globalImplicit), ("ValueError", .globalImplicit)]
structure KindC (K : PySem.W.Frag) (mg : Str → Option Value) (L : List Addr) (S : Addr) : Prop where
  she : mg "ShelfError" = some (.ref S)
  isi : mg "isinstance" = none
  ver : mg "ValueError" = none
  ms : ∀ (i : Nat) (n : Str), kNs[i]? = some n → mg n = some (.ref (L.getD i 0))
  exm : ∀ i, i < 11 → PySem.W.exmOne K (.ref (L.getD i 0)) (.ref S) = some true
  exc : ∀ i, i < 11 → ExcC K (L.getD i 0)
  kit : ∀ i j, i < 11 → j < 11 → PySem.W.kitOne K (.ref (L.getD i 0)) (.ref (L.getD j 0)) = some (decide (i = j))
  val : ∀ i, i < 11 → PySem.W.kitOne K (.ref (L.getD i 0)) (.type "ValueError") = some true
  fld : ∀ (i : Nat) (fs : List Str), kFs[i]? = some fs → ∀ f ∈ fs, PySem.W.findIn K (.ref (L.getD i 0)) f = some none
structure KindX (X : Cx) (L : List Addr) (S : Addr) : Prop where
  n : X.N = kNg
  nm : X.env.scope.names = kNames
  un : X.A.units + 65 < cLine
  c : KindC X.K X.mg L S
section
variable {X : Cx} {L : List Addr} {S : Addr} {a : Addr} {oe : Obj} {cls : Value} {d : Option Addr} {pn : List (Addr × Obj)}
theorem KindX.loc (k : KindX X L S) {x : Str} (h : kNames.lookup x = some .local) : X.env.scope.names.lookup x = some .local := by rw [k.nm]; exact h
theorem KindX.gl (k : KindX X L S) {x : Str} (h : kNames.lookup x = some .globalImplicit) : Gl X x := by
  show X.env.scope.names.lookup x = some .globalImplicit
  rw [k.nm]; exact h
def tIsi (K : PySem.W.Frag) (a : Addr) (cls : Value) (d : Option Addr) (C : V) : TE := fun σ H Q => σ[1]? = some (some (.ref a)) ∧ rIsX K cls d a [.ref a, C] H Q
theorem pe_isi (k : KindX X L S) (hz : Zc cls d oe) (hf : ∃ vs, oe.data = .fields vs) {i : Nat} {C : Str} (hC : kNs[i]? = some C) (gC : kNames.lookup C = some .globalImplicit) (hdb : (C == ("__debug__" : Str)) = false) {p p1 p2 p3 : Pos} :
    PE (X.suite a ((a, oe) :: pn)) (.Call (.Name "isinstance" p) [.Name "e" p1, .Name C p2] [] p3) (tIsi X.K a cls d (.ref (L.getD i 0))) := by
  have hN : X.N[1]? = some ("e" : Str) := by rw [k.n]; rfl
  refine ⟨fun pins s σ H Q I h => (pe_callB (X := X.suite a ((a, oe) :: pn)) (call_isX hz hf) (k.gl rfl) k.c.isi rfl (pa_cons (pe_var (i := 1) hN (.inl (k.loc rfl))) (pa_cons (pe_glob (v := .ref (L.getD i 0)) (k.gl gC) (k.c.ms i C hC) rfl hdb) pa_nil))).run pins s σ H Q I ?_⟩
  exact ⟨.ref a, h.1, h.2⟩
theorem pe_isv (k : KindX X L S) (hz : Zc cls d oe) (hf : ∃ vs, oe.data = .fields vs) {p p1 p2 p3 : Pos} :
    PE (X.suite a ((a, oe) :: pn)) (.Call (.Name "isinstance" p) [.Name "e" p1, .Name "ValueError" p2] [] p3) (tIsi X.K a cls d (.ty "ValueError")) := by
  have hN : X.N[1]? = some ("e" : Str) := by rw [k.n]; rfl
  refine ⟨fun pins s σ H Q I h => (pe_callB (X := X.suite a ((a, oe) :: pn)) (call_isX hz hf) (k.gl rfl) k.c.isi rfl (pa_cons (pe_var (i := 1) hN (.inl (k.loc rfl))) (pa_cons (pe_bltn (v := .ty "ValueError") (u := .type "ValueError") (k.gl rfl) k.c.ver rfl rfl) pa_nil))).run pins s σ H Q I ?_⟩
  exact ⟨.ref a, h.1, h.2⟩
def tFld (K : PySem.W.Frag) (a : Addr) (cls : Value) (d : Option Addr) (f : Str) : TE := fun σ H Q => σ[1]? = some (some (.ref a)) ∧ ∃ (C : Addr) (dd : Addr) (fs : List (Str × V)) (v : V), cls = .ref C ∧ ExcC K C ∧ PySem.W.findIn K (.ref C) f = some none ∧ d = some dd ∧ H dd = some (.xd fs) ∧ fs.lookup f = some v ∧ Q v H
theorem pe_fld (k : KindX X L S) (hz : Zc cls d oe) (hf : ∃ vs, oe.data = .fields vs) {f : Str} {p p1 : Pos} : PE (X.suite a ((a, oe) :: pn)) (.Attribute (.Name "e" p) f p1) (tFld X.K a cls d f) := by
  have hN : X.N[1]? = some ("e" : Str) := by rw [k.n]; rfl
  refine ⟨fun pins s σ H Q I h => ?_⟩
  obtain ⟨hs, C, dd, fs, v, hc, ex, hno, hd, hH, hl, q⟩ := h
  refine (pe_xf (X := X) (C := C) (pn := pn) ⟨ex.hg, ex.hk, ex.hs, ex.hd⟩ hno hz hf (pe_var (X := X.suite a ((a, oe) :: pn)) (i := 1) hN (.inl (k.loc rfl))) rfl).run pins s σ H Q I ?_
  exact ⟨.ref a, hs, rfl, hc, dd, fs, v, hd, hH, hl, q⟩
end
end VI

set_option maxHeartbeats 8000000
namespace VI
open PySem PySem.Spec PyProof.Rows L2
def kLines (q : Nat → Pos) : Bool := ((q 24).endLine == (q 42).line) && ((q 45).endLine == (q 59).line) && ((q 62).endLine == (q 64).line) && ((q 91).endLine == (q 93).line)
section
variable {X : Cx} {L : List Addr} {S : Addr}
def Grow (H H' : Hp) : Prop := ∀ a o, H a = some o → H' a = some o
theorem Grow.refl {H : Hp} : Grow H H := fun _ _ e => e
theorem Grow.laid {H H' : Hp} {p : Addr} {o : HO} (g : Grow H H') (h : H' p = none) : Grow H (upd H' p o) := fun a u e => by rw [upd_ne (ne_of_none (g a u e) h)]; exact g a u e
theorem Grow.put {H H' : Hp} {p : Addr} {o : HO} (g : Grow H H') (h : H p = none) : Grow H (upd H' p o) := fun a u e => by rw [upd_ne (ne_of_none e h)]; exact g a u e
def KRes (i : Nat) (d : Option Addr) (H : Hp) (Q : VK) : Prop :=
  if i = 10 then (∀ dd, d = some dd → ∃ fs, H dd = some (.xd fs)) ∧ ∀ H', Grow H H' → ∀ p, H' p = none → Q (.ref p) (upd H' p (.tup [.str "count", .int 0]))
  else ∃ dd fs, d = some dd ∧ H dd = some (.xd fs) ∧
    if i = 6 then ∃ v w, fs.lookup ("one" : Str) = some v ∧ fs.lookup ("other" : Str) = some w ∧ ∀ H', Grow H H' → ∀ p p2, H' p = none → upd H' p (.tup [v, w]) p2 = none → Q (.ref p2) (upd (upd H' p (.tup [v, w])) p2 (.tup [.str "crossed", .ref p]))
    else ∃ f v, kFs[i]? = some [f] ∧ fs.lookup f = some v ∧ ∀ H', Grow H H' → ∀ p, H' p = none → Q (.ref p) (upd H' p (.tup [.str (kWs.getD i ""), v]))
section
variable (K : PySem.W.Frag) (L : List Addr) (a : Addr) (cls : Value) (d : Option Addr)
def tKi (j : Nat) : TE := tIsi K a cls d (.ref (L.getD j 0))
def tKx (j : Int) : TE := tOp (rIxL K) (tVar 2) (tC (.int j))
def tKf (f : Str) : TE := tFld K a cls d f
def tKs (x : Str) : TE := tC (.str x)
def tK2 (x : Str) (t : TE) : TE := tTup (tCons (tKs x) (tCons t tNil))
def tsA : TS := tAsg (tLst (tCons (tKi K L a cls d 0) (tCons (tKi K L a cls d 1) (tCons (tKi K L a cls d 2) (tCons (tKi K L a cls d 3) tNil))))) (gName 2)
def tsB : TS := tDrop (tBM K "list" rExtend (tVar 2) (tCons (tLst (tCons (tKi K L a cls d 4) (tCons (tKi K L a cls d 5) (tCons (tKi K L a cls d 6) (tCons (tKi K L a cls d 7) tNil))))) tNil))
def tsC : TS := tDrop (tBM K "list" rExtend (tVar 2) (tCons (tLst (tCons (tKi K L a cls d 8) (tCons (tKi K L a cls d 9) (tCons (tKi K L a cls d 10) tNil)))) tNil))
def tsD : TS := tIfS (tOr (tB (tNeI (tBM K "list" (rCntB K) (tVar 2) (tCons (tC (.bl true)) tNil)) (tC (.int 1)))) (tNot (tB (tIsi K a cls d (.ty "ValueError"))))) (tRet (tK2 "other" (tC (.int 0)))) tNext
def tsE : TS := tIfS (tTest (tOp (rInD K) (tC (.bl true)) (tSl (rSlL K) (tVar 2) tNoPart (tPart (tC (.int 5)))))) (tRet (tTup (tCons (tOp (rIxL K) (tLst (tCons (tKs "edit") (tCons (tKs "mark") (tCons (tKs "nomark") (tCons (tKs "edition") (tCons (tKs "deed") tNil)))))) (tBM K "list" (rIndexD K) (tVar 2) (tCons (tC (.bl true)) tNil))) (tCons (tKf K a cls d "number") tNil)))) tNext
def tsF : TS := tIfS (tOr (tB (tKx K 5)) (tB (tKx K 6))) (tRet (tIf (tB (tKx K 5)) (tK2 "signs" (tKf K a cls d "at")) (tK2 "crossed" (tTup (tCons (tKf K a cls d "one") (tCons (tKf K a cls d "other") tNil)))))) tNext
def tsG : TS := tIfS (tOr (tB (tKx K 7)) (tB (tKx K 8))) (tRet (tIf (tB (tKx K 7)) (tK2 "name" (tKf K a cls d "name")) (tK2 "pattern" (tKf K a cls d "place")))) tNext
def tsH : TS := tRet (tIf (tB (tKx K 9)) (tK2 "text" (tKf K a cls d "row")) (tK2 "count" (tC (.int 0))))
def tsK : TS := tSeq (tsA K L a cls d) (tSeq (tsB K L a cls d) (tSeq (tsC K L a cls d) (tSeq (tsD K a cls d) (tSeq (tsE K a cls d) (tSeq (tsF K a cls d) (tSeq (tsG K a cls d) (tsH K a cls d)))))))
end
theorem kind_suite (k : KindX X L S) (q : Nat → Pos) (hl : kLines q = true) {a : Addr} {oe : Obj} {cls : Value} {d : Option Addr} {pn : List (Addr × Obj)} (hz : Zc cls d oe) (hf : ∃ vs, oe.data = .fields vs) :
    PSs (X.suite a ((a, oe) :: pn)) (kindSuite q) (tsK X.K L a cls d) := by
  simp only [kLines, Bool.and_eq_true] at hl
  obtain ⟨⟨⟨l1, l2⟩, l3⟩, l4⟩ := hl
  have hN : X.N.Nodup := by rw [k.n]; decide
  have hN2 : X.N[2]? = some ("_law_kinds" : Str) := by rw [k.n]; rfl
  have hu : ∀ (a : Addr) (pn : List (Addr × Obj)), (X.suite a pn).A.units + 65 < cLine := fun a pn => k.un
  have kv : ∀ {p : Pos}, PE (X.suite a ((a, oe) :: pn)) (.Name "_law_kinds" p) (tVar 2) := fun {p} => pe_var hN2 (.inl (k.loc rfl))
  unfold kindSuite tsK
  refine pss_cons (ps_asg (pe_lst (pa_cons (pe_isi k hz hf (i := 0) rfl rfl rfl) (pa_cons (pe_isi k hz hf (i := 1) rfl rfl rfl) (pa_cons (pe_isi k hz hf (i := 2) rfl rfl rfl) (pa_cons (pe_isi k hz hf (i := 3) rfl rfl rfl) pa_nil))))) (pg_name hN hN2 (.inl (k.loc rfl)) (.inr (k.loc rfl)))) ?_
  refine pss_cons (ps_expr (pe_bm PySem.F.plainAttrs_list PySem.F.slot_list_extend PySem.F.type_list_extend mt_extend kv (pa_cons (pe_lst (pa_cons (pe_isi k hz hf (i := 4) rfl rfl rfl) (pa_cons (pe_isi k hz hf (i := 5) rfl rfl rfl) (pa_cons (pe_isi k hz hf (i := 6) rfl rfl rfl) (pa_cons (pe_isi k hz hf (i := 7) rfl rfl rfl) pa_nil))))) pa_nil) rfl rfl l1)) ?_
  refine pss_cons (ps_expr (pe_bm PySem.F.plainAttrs_list PySem.F.slot_list_extend PySem.F.type_list_extend mt_extend kv (pa_cons (pe_lst (pa_cons (pe_isi k hz hf (i := 8) rfl rfl rfl) (pa_cons (pe_isi k hz hf (i := 9) rfl rfl rfl) (pa_cons (pe_isi k hz hf (i := 10) rfl rfl rfl) pa_nil)))) pa_nil) rfl rfl l2)) ?_
  refine pss_cons (ps_if (PW.pt (pw_or (pt_cmp (pc_neI (pe_bm PySem.F.plainAttrs_list PySem.F.slot_list_count PySem.F.type_list_count (mt_lcountB (hu _ _)) kv (pa_cons pe_bl pa_nil) rfl rfl l3) pe_int)) (pw_or1 (pt_not (pt_val (pe_isv k hz hf)))))) (pss_one (ps_ret (pe_tup (pa_cons pe_str (pa_cons pe_int pa_nil))))) pss_nil) ?_
  refine pss_cons (ps_if (pt_cmpR (op_inD (hu _ _)) pe_bl (pe_slice sl_list kv po_none (po_some pe_int)) rfl) (pss_one (ps_ret (pe_tup (pa_cons (pe_ix ix_list (pe_lst (pa_cons pe_str (pa_cons pe_str (pa_cons pe_str (pa_cons pe_str (pa_cons pe_str pa_nil)))))) (pe_bm PySem.F.plainAttrs_list PySem.F.slot_list_index PySem.F.type_list_index (mt_indexD (hu _ _)) kv (pa_cons pe_bl pa_nil) rfl rfl l4) (fun _ _ => rfl)) (pa_cons (pe_fld k hz hf) pa_nil))))) pss_nil) ?_
  refine pss_cons (ps_if (PW.pt (pw_or (pt_val (pe_ix ix_list kv pe_int (fun _ _ => rfl))) (pw_or1 (pt_val (pe_ix ix_list kv pe_int (fun _ _ => rfl)))))) (pss_one (ps_ret (pe_ifExp (pt_val (pe_ix ix_list kv pe_int (fun _ _ => rfl))) (pe_tup (pa_cons pe_str (pa_cons (pe_fld k hz hf) pa_nil))) (pe_tup (pa_cons pe_str (pa_cons (pe_tup (pa_cons (pe_fld k hz hf) (pa_cons (pe_fld k hz hf) pa_nil))) pa_nil)))))) pss_nil) ?_
  refine pss_cons (ps_if (PW.pt (pw_or (pt_val (pe_ix ix_list kv pe_int (fun _ _ => rfl))) (pw_or1 (pt_val (pe_ix ix_list kv pe_int (fun _ _ => rfl)))))) (pss_one (ps_ret (pe_ifExp (pt_val (pe_ix ix_list kv pe_int (fun _ _ => rfl))) (pe_tup (pa_cons pe_str (pa_cons (pe_fld k hz hf) pa_nil))) (pe_tup (pa_cons pe_str (pa_cons (pe_fld k hz hf) pa_nil)))))) pss_nil) ?_
  exact pss_one (ps_ret (pe_ifExp (pt_val (pe_ix ix_list kv pe_int (fun _ _ => rfl))) (pe_tup (pa_cons pe_str (pa_cons (pe_fld k hz hf) pa_nil))) (pe_tup (pa_cons pe_str (pa_cons pe_int pa_nil)))))
def kBs (i : Nat) : List Bool := [decide (i = 0), decide (i = 1), decide (i = 2), decide (i = 3), decide (i = 4), decide (i = 5), decide (i = 6), decide (i = 7), decide (i = 8), decide (i = 9), decide (i = 10)]
theorem atD_natV {xs : List V} {n : Nat} (h : n < xs.length) : atI xs (n : Int) = xs[n]? := by
  have e : ixN xs.length (n : Int) = some n := by
    unfold ixN
    have h1 : ¬ ((n : Int) < 0) := by omega
    simp [h1]
    omega
  unfold atI
  rw [e]; rfl
theorem kind_ki (k : KindX X L S) {a : Addr} {i j : Nat} {d : Option Addr} {σ : L2.St} {H : Hp} {Q : VK} (hi : i < 11) (hj : j < 11) (hs : σ[1]? = some (some (.ref a))) (hd : ∀ dd, d = some dd → ∃ fs, H dd = some (.xd fs)) (q : Q (.bl (decide (i = j))) H) :
    tKi X.K L a (.ref (L.getD i 0)) d j σ H Q :=
  ⟨hs, _, _, _, _, rfl, k.c.exc i hi, hd, rfl, fun u r => r, k.c.kit i j hi hj, q⟩
theorem kind_end (k : KindX X L S) {a p : Addr} {i : Nat} {d : Option Addr} {D : Ends} {σ : L2.St} {H0 H : Hp} (g : Grow H0 H) (hi : i < 11) (hd : ∀ dd, d = some dd → ∃ fs, H dd = some (.xd fs)) (hs : σ[1]? = some (some (.ref a))) (h2 : σ[2]? = some (some (.ref p))) (hp : H p = some (.lst ((kBs i).map V.bl)))
    (h : KRes i d H0 D.rt) : tSeq (tsD X.K a (.ref (L.getD i 0)) d) (tSeq (tsE X.K a (.ref (L.getD i 0)) d) (tSeq (tsF X.K a (.ref (L.getD i 0)) d) (tSeq (tsG X.K a (.ref (L.getD i 0)) d) (tsH X.K a (.ref (L.getD i 0)) d)))) D σ H := by
  have sq : SqL X.K H p ((kBs i).map V.bl) := SqL.of hp
  have hc : (kBs i).count true = 1 := by
    have : ∀ i, i < 11 → (kBs i).count true = 1 := by decide
    exact this i hi
  refine ⟨.ref p, h2, .inl ⟨rfl, _, sq⟩, p, kBs i, true, rfl, rfl, sq, _, _, rfl, rfl, _, rfl, ?_⟩
  rw [hc]
  refine ⟨hs, _, _, _, _, rfl, k.c.exc i hi, hd, rfl, fun u r => r, k.c.val i hi, _, rfl, ?_⟩
  -- in the first five
  refine ⟨.ref p, h2, _, rfl, p, _, rfl, sq, fun p4 hp4 => ?_⟩
  have sq4 : SqL X.K (upd H p4 (.lst (cutV ((kBs i).map V.bl) none (some 5)))) p4 (((kBs i).take 5).map V.bl) := by
    refine SqL.of ?_
    rw [upd_same]
    rfl
  refine ⟨_, _, .bl true, .lst sq4 (dpB _), rfl, shapedB _, _, rfl, ?_⟩
  have hany : (((kBs i).take 5).map PyData.bool).any (fun z => PyData.eqv z (.bool true)) = decide (i < 5) := by
    rw [List.any_map]
    have e : ((fun z => PyData.eqv z (.bool true)) ∘ PyData.bool) = fun b : Bool => b == true := funext fun b => eqvB b true
    rw [e]
    have : ∀ i, i < 11 → ((kBs i).take 5).any (fun b => b == true) = decide (i < 5) := by decide
    exact this i hi
  rw [hany]
  have g4 := g.laid (o := .lst (cutV ((kBs i).map V.bl) none (some 5))) hp4
  have hp4' : upd H p4 (.lst (cutV ((kBs i).map V.bl) none (some 5))) p = some (.lst ((kBs i).map V.bl)) := by rw [upd_ne (ne_of_none hp hp4)]; exact hp
  generalize upd H p4 (.lst (cutV ((kBs i).map V.bl) none (some 5))) = H4 at g4 hp4' ⊢
  have sq5 : SqL X.K H4 p ((kBs i).map V.bl) := SqL.of hp4'
  have kfld : ∀ {f : Str} {dd : Addr} {fs : List (Str × V)} {v : V} {H' : Hp} {Q : VK} {ff : List Str}, Grow H0 H' → kFs[i]? = some ff → f ∈ ff → d = some dd → H0 dd = some (.xd fs) → fs.lookup f = some v → Q v H' → tKf X.K a (.ref (L.getD i 0)) d f σ H' Q := fun gg hff hm hdd hx hl q =>
    ⟨hs, _, _, _, _, rfl, k.c.exc i hi, k.c.fld i _ hff _ hm, hdd, gg _ _ hx, hl, q⟩
  have two : ∀ (x y : V), [x, y].length ≤ sizeLine := fun x y => by show (2 : Nat) ≤ sizeLine; decide
  have ixv : ∀ {n : Nat} {b : Bool} {Q : VK}, (kBs i)[n]? = some b → n < 11 → Q (.bl b) H4 → tKx X.K (n : Int) σ H4 Q := fun {n b Q} hn hl q => by
    refine ⟨.ref p, h2, p, _, (n : Int), .bl b, rfl, rfl, sq5, ?_, q⟩
    have : atI ((kBs i).map V.bl) (n : Int) = ((kBs i).map V.bl)[n]? := by
      have hlen : ((kBs i).map V.bl).length = 11 := rfl
      exact atD_natV (by rw [hlen]; exact hl)
    rw [this, List.getElem?_map, hn]; rfl
  by_cases h5 : i < 5
  · have i10 : ¬ i = 10 := by omega
    have i6 : ¬ i = 6 := by omega
    unfold KRes at h
    rw [if_neg i10] at h
    obtain ⟨dd, fs, hdd, hx, h⟩ := h
    rw [if_neg i6] at h
    obtain ⟨f, v, hff, hlk, h⟩ := h
    have ef : kFs[i]? = some [("number" : Str)] := by
      have : ∀ i, i < 5 → kFs[i]? = some [("number" : Str)] := by decide
      exact this i h5
    rw [ef] at hff
    cases hff
    show (if decide (i < 5) = true then _ else _)
    rw [if_pos (by simpa using h5)]
    have f1 : ∀ i, i < 5 → (kBs i)[i]? = some true := by decide
    have f2 : ∀ i, i < 5 → ∀ m, m < i → (kBs i)[m]? = some false := by decide
    refine ⟨by show (5 : Nat) ≤ sizeLine; decide, fun p5 hp5 => ?_⟩
    have g5 := g4.laid (o := .lst [.str "edit", .str "mark", .str "nomark", .str "edition", .str "deed"]) hp5
    refine ⟨.ref p, h2, .inl ⟨rfl, _, SqL.of (show upd H4 p5 _ p = _ by rw [upd_ne (ne_of_none hp4' hp5)]; exact hp4')⟩, p, .bl true, .bool true, (kBs i).map .bool, i, .bool true, rfl, rfl, .lst (SqL.of (show upd H4 p5 _ p = _ by rw [upd_ne (ne_of_none hp4' hp5)]; exact hp4')) (dpB _), .bl true, shapedB _, rfl, ?_, eqvB true true, fun m z hm hz => ?_, ?_⟩
    · rw [List.getElem?_map, f1 i h5]; rfl
    · rw [List.getElem?_map, f2 i h5 m hm] at hz
      cases hz
      exact eqvB false true
    · refine ⟨p5, _, (i : Int), .str (kWs.getD i ""), rfl, rfl, SqL.of upd_same, ?_, kfld g5 ef (by simp) hdd hx hlk ⟨two _ _, fun p6 hp6 => h _ g5 p6 hp6⟩⟩
      have : ∀ i : Nat, i < 5 → atI [V.str "edit", .str "mark", .str "nomark", .str "edition", .str "deed"] (i : Int) = some (.str (kWs.getD i "")) := by decide
      exact this i h5
  · show (if decide (i < 5) = true then _ else _)
    rw [if_neg (by simpa using h5)]
    have hex : i = 5 ∨ i = 6 ∨ i = 7 ∨ i = 8 ∨ i = 9 ∨ i = 10 := by omega
    rcases hex with rfl | rfl | rfl | rfl | rfl | rfl
    · unfold KRes at h
      rw [if_neg (by decide)] at h
      obtain ⟨dd, fs, hdd, hx, h⟩ := h
      rw [if_neg (by decide)] at h
      obtain ⟨f, v, hff, hlk, h⟩ := h
      cases hff
      (refine ixv (n := 5) (b := true) rfl (by decide) ?_; refine ⟨_, rfl, ?_⟩)
      refine ixv (n := 5) (b := true) rfl (by decide) ?_
      refine ⟨_, rfl, ?_⟩
      refine kfld g4 rfl (by simp) hdd hx hlk ?_
      exact ⟨two _ _, fun p6 hp6 => h _ g4 p6 hp6⟩
    · unfold KRes at h
      rw [if_neg (by decide)] at h
      obtain ⟨dd, fs, hdd, hx, h⟩ := h
      rw [if_pos rfl] at h
      obtain ⟨v, w, hv, hw, h⟩ := h
      (refine ixv (n := 5) (b := false) rfl (by decide) ?_; refine ⟨_, rfl, ?_⟩)
      (refine ixv (n := 6) (b := true) rfl (by decide) ?_; refine ⟨_, rfl, ?_⟩)
      (refine ixv (n := 5) (b := false) rfl (by decide) ?_; refine ⟨_, rfl, ?_⟩)
      dsimp only
      rw [if_neg Bool.false_ne_true]
      unfold tK2 tTup tCons tKs tC tNil
      dsimp only
      refine kfld g4 rfl (by simp) hdd hx hv ?_
      refine kfld g4 rfl (by simp) hdd hx hw ?_
      exact ⟨two _ _, fun p6 hp6 => ⟨two _ _, fun p7 hp7 => h _ g4 p6 p7 hp6 hp7⟩⟩
    · unfold KRes at h
      rw [if_neg (by decide)] at h
      obtain ⟨dd, fs, hdd, hx, h⟩ := h
      rw [if_neg (by decide)] at h
      obtain ⟨f, v, hff, hlk, h⟩ := h
      cases hff
      (refine ixv (n := 5) (b := false) rfl (by decide) ?_; refine ⟨_, rfl, ?_⟩)
      (refine ixv (n := 6) (b := false) rfl (by decide) ?_; refine ⟨_, rfl, ?_⟩)
      (refine ixv (n := 7) (b := true) rfl (by decide) ?_; refine ⟨_, rfl, ?_⟩)
      refine ixv (n := 7) (b := true) rfl (by decide) ?_
      refine ⟨_, rfl, ?_⟩
      refine kfld g4 rfl (by simp) hdd hx hlk ?_
      exact ⟨two _ _, fun p6 hp6 => h _ g4 p6 hp6⟩
    · unfold KRes at h
      rw [if_neg (by decide)] at h
      obtain ⟨dd, fs, hdd, hx, h⟩ := h
      rw [if_neg (by decide)] at h
      obtain ⟨f, v, hff, hlk, h⟩ := h
      cases hff
      (refine ixv (n := 5) (b := false) rfl (by decide) ?_; refine ⟨_, rfl, ?_⟩)
      (refine ixv (n := 6) (b := false) rfl (by decide) ?_; refine ⟨_, rfl, ?_⟩)
      (refine ixv (n := 7) (b := false) rfl (by decide) ?_; refine ⟨_, rfl, ?_⟩)
      (refine ixv (n := 8) (b := true) rfl (by decide) ?_; refine ⟨_, rfl, ?_⟩)
      refine ixv (n := 7) (b := false) rfl (by decide) ?_
      refine ⟨_, rfl, ?_⟩
      refine kfld g4 rfl (by simp) hdd hx hlk ?_
      exact ⟨two _ _, fun p6 hp6 => h _ g4 p6 hp6⟩
    · unfold KRes at h
      rw [if_neg (by decide)] at h
      obtain ⟨dd, fs, hdd, hx, h⟩ := h
      rw [if_neg (by decide)] at h
      obtain ⟨f, v, hff, hlk, h⟩ := h
      cases hff
      (refine ixv (n := 5) (b := false) rfl (by decide) ?_; refine ⟨_, rfl, ?_⟩)
      (refine ixv (n := 6) (b := false) rfl (by decide) ?_; refine ⟨_, rfl, ?_⟩)
      (refine ixv (n := 7) (b := false) rfl (by decide) ?_; refine ⟨_, rfl, ?_⟩)
      (refine ixv (n := 8) (b := false) rfl (by decide) ?_; refine ⟨_, rfl, ?_⟩)
      refine ixv (n := 9) (b := true) rfl (by decide) ?_
      refine ⟨_, rfl, ?_⟩
      refine kfld g4 rfl (by simp) hdd hx hlk ?_
      exact ⟨two _ _, fun p6 hp6 => h _ g4 p6 hp6⟩
    · unfold KRes at h
      rw [if_pos rfl] at h
      obtain ⟨hdd, h⟩ := h
      (refine ixv (n := 5) (b := false) rfl (by decide) ?_; refine ⟨_, rfl, ?_⟩)
      (refine ixv (n := 6) (b := false) rfl (by decide) ?_; refine ⟨_, rfl, ?_⟩)
      (refine ixv (n := 7) (b := false) rfl (by decide) ?_; refine ⟨_, rfl, ?_⟩)
      (refine ixv (n := 8) (b := false) rfl (by decide) ?_; refine ⟨_, rfl, ?_⟩)
      refine ixv (n := 9) (b := false) rfl (by decide) ?_
      refine ⟨_, rfl, ?_⟩
      exact ⟨two _ _, fun p6 hp6 => h _ g4 p6 hp6⟩
theorem kind_told (k : KindX X L S) {a : Addr} {i : Nat} {d : Option Addr} {D : Ends} {σ : L2.St} {H : Hp} (hi : i < 11) (hlen : σ.length = 3) (hs : σ[1]? = some (some (.ref a))) (h : KRes i d H D.rt) : tsK X.K L a (.ref (L.getD i 0)) d D σ H := by
  have hd : ∀ dd, d = some dd → ∃ fs, H dd = some (.xd fs) := fun dd e => by
    unfold KRes at h
    split at h
    · exact h.1 dd e
    · obtain ⟨dd', fs, e', h', _⟩ := h
      rw [e'] at e; cases e
      exact ⟨fs, h'⟩
  have hdG : ∀ {H' : Hp}, Grow H H' → ∀ dd, d = some dd → ∃ fs, H' dd = some (.xd fs) := fun g dd e => by
    obtain ⟨fs, z⟩ := hd dd e
    exact ⟨fs, g _ _ z⟩
  have len4 : ∀ (x y z w : V), [x, y, z, w].length ≤ sizeLine := fun x y z w => by show (4 : Nat) ≤ sizeLine; decide
  have len3 : ∀ (x y z : V), [x, y, z].length ≤ sizeLine := fun x y z => by show (3 : Nat) ≤ sizeLine; decide
  refine kind_ki k hi (by decide) hs hd (kind_ki k hi (by decide) hs hd (kind_ki k hi (by decide) hs hd (kind_ki k hi (by decide) hs hd ⟨len4 _ _ _ _, fun p hp => ?_⟩)))
  have s1 : (σ.set 2 (some (.ref p)))[1]? = some (some (.ref a)) := by rw [List.getElem?_set_ne (by decide)]; exact hs
  have s2 : (σ.set 2 (some (.ref p)))[2]? = some (some (.ref p)) := List.getElem?_set_self (by rw [hlen]; decide)
  have g1 := Grow.laid (H := H) (o := .lst [.bl (decide (i = 0)), .bl (decide (i = 1)), .bl (decide (i = 2)), .bl (decide (i = 3))]) Grow.refl hp
  have e1 : upd H p (.lst [.bl (decide (i = 0)), .bl (decide (i = 1)), .bl (decide (i = 2)), .bl (decide (i = 3))]) p = some (.lst [.bl (decide (i = 0)), .bl (decide (i = 1)), .bl (decide (i = 2)), .bl (decide (i = 3))]) := upd_same
  generalize upd H p (.lst [.bl (decide (i = 0)), .bl (decide (i = 1)), .bl (decide (i = 2)), .bl (decide (i = 3))]) = H1 at g1 e1 ⊢
  have hd1 := hdG g1
  refine ⟨.ref p, s2, .inl ⟨rfl, _, SqL.of e1⟩, kind_ki k hi (by decide) s1 hd1 (kind_ki k hi (by decide) s1 hd1 (kind_ki k hi (by decide) s1 hd1 (kind_ki k hi (by decide) s1 hd1 ⟨len4 _ _ _ _, fun p2 hp2 => ?_⟩)))⟩
  refine ⟨p, p2, _, _, rfl, rfl, by rw [upd_ne (ne_of_none e1 hp2)]; exact e1, upd_same, by show (8 : Nat) ≤ sizeLine; decide, ?_⟩
  have g2 := (g1.laid (o := .lst [.bl (decide (i = 4)), .bl (decide (i = 5)), .bl (decide (i = 6)), .bl (decide (i = 7))]) hp2).put (o := .lst ([.bl (decide (i = 0)), .bl (decide (i = 1)), .bl (decide (i = 2)), .bl (decide (i = 3))] ++ [.bl (decide (i = 4)), .bl (decide (i = 5)), .bl (decide (i = 6)), .bl (decide (i = 7))])) hp
  have e2 := upd_same (H := upd H1 p2 (.lst [.bl (decide (i = 4)), .bl (decide (i = 5)), .bl (decide (i = 6)), .bl (decide (i = 7))])) (a := p) (o := .lst ([.bl (decide (i = 0)), .bl (decide (i = 1)), .bl (decide (i = 2)), .bl (decide (i = 3))] ++ [.bl (decide (i = 4)), .bl (decide (i = 5)), .bl (decide (i = 6)), .bl (decide (i = 7))]))
  generalize upd (upd H1 p2 (.lst [.bl (decide (i = 4)), .bl (decide (i = 5)), .bl (decide (i = 6)), .bl (decide (i = 7))])) p (.lst ([.bl (decide (i = 0)), .bl (decide (i = 1)), .bl (decide (i = 2)), .bl (decide (i = 3))] ++ [.bl (decide (i = 4)), .bl (decide (i = 5)), .bl (decide (i = 6)), .bl (decide (i = 7))])) = H2 at g2 e2 ⊢
  have hd2 := hdG g2
  refine ⟨.ref p, s2, .inl ⟨rfl, _, SqL.of e2⟩, kind_ki k hi (by decide) s1 hd2 (kind_ki k hi (by decide) s1 hd2 (kind_ki k hi (by decide) s1 hd2 ⟨len3 _ _ _, fun p3 hp3 => ?_⟩))⟩
  refine ⟨p, p3, _, _, rfl, rfl, by rw [upd_ne (ne_of_none e2 hp3)]; exact e2, upd_same, by show (11 : Nat) ≤ sizeLine; decide, ?_⟩
  have g3 := (g2.laid (o := .lst [.bl (decide (i = 8)), .bl (decide (i = 9)), .bl (decide (i = 10))]) hp3).put (o := .lst ((kBs i).map V.bl)) hp
  exact kind_end k g3 hi (hdG g3) s1 s2 upd_same h
end
end VI

set_option maxHeartbeats 4000000
namespace VI
open PySem PySem.Spec PyProof.Rows L2 LamX
def KOut (L : List Addr) (Q : VK) : XK := fun cls d H => ∃ i, i < 11 ∧ cls = .ref (L.getD i 0) ∧ KRes i d H Q
def TTk (L : List Addr) : (XK → Hp → VK → Prop) → Hp → VK → Prop := fun tl H Q =>
  tl (KOut L Q) H (fun _ H' => [V.str "", .int 0].length ≤ sizeLine ∧ ∀ p, H' p = none → Q (.ref p) (upd H' p (.tup [.str "", .int 0])))
theorem takes_len {X : Cx} {W : WX} (tk : Takes X W) : Takes X (fun cls d σ H => σ.length = X.N.length → W cls d σ H) := fun u s' ⟨a, B, sI, pins, σ, H, cls, d, e, I, nb, up, sky, na, os, ag, w⟩ =>
  tk u s' ⟨a, B, sI, pins, σ, H, cls, d, e, I, nb, up, sky, na, os, ag, w I.len⟩
theorem kind_gives {X : Cx} {L : List Addr} {S : Addr} {sg : Scope} {g : Addr} {cdg : Value} {qn : Str} (hn : sg.names = kNames) (F : KindC X.K X.mg L S) (q : Nat → Pos) (hl : kLines q = true) (hu : ∀ env, (X.A.deeper env).units + 65 < cLine) :
    GivesTo X kNg "_law_kind" sg g cdg (kindBody q) "_law_call" qn (TTk L) := by
  intro f c' s H Q tl act hc h
  have kx : KindX (cxOf C8.CX0 X.prog X.w X.K X.mg X.base kNg "_law_kind" sg g cdg X.A X.stack s H C8.E0).nox L S := ⟨rfl, hn, hu _, F⟩
  have hloc : sg.names.lookup ("e" : Str) = some .local := by rw [hn]; rfl
  unfold kindBody
  refine ⟨_, pss_cons (ps_try_as (X := (cxOf C8.CX0 X.prog X.w X.K X.mg X.base kNg "_law_kind" sg g cdg X.A X.stack s H C8.E0).nox) (i := 1) (c := .ref S) (ts := tsK X.K L)
      (tb := fun W D σ H => ∃ Ech : XK, (∀ cls d (σ' : L2.St) H', σ'.length = 3 → Ech cls d H' → W cls d σ' H') ∧ σ[0]? = some (some (.ref f)) ∧ H c' = some (CodeO c' qn) ∧ tl Ech H (fun _ H' => D.nx σ H'))
      rfl rfl (show kNg.Nodup by decide) rfl hloc ⟨kx.gl rfl, rfl, .inl F.she⟩ LamX.takes0 (fun W pn xe tk _ => ?_) (fun a oe cls d pn hz hf => kind_suite kx q hl hz hf)) (pss_one (ps_ret (pe_tup (pa_cons pe_str (pa_cons pe_int pa_nil))))), ?_⟩
  · refine ⟨fun pins s' σ H' D I h' => ?_⟩
    obtain ⟨Ech, hW, h1, h2, h3⟩ := h'
    have hp := act _ pn xe Ech (q 0) (q 1) (takes_len tk) (fun cls d σ' H' z hlen => hW cls d σ' H' hlen z)
    exact (pss_one (ps_expr (pos := q 2) hp)).run pins s' σ H' D I ⟨h1, h2, h3⟩
  · refine ⟨KOut L Q, fun cls d σ' H' hlen ⟨i, hi, hcls, hk⟩ => ?_, rfl, hc, ?_⟩
    · subst hcls
      refine ⟨true, F.exm i hi, fun _ a ha => ?_, fun z => by cases z⟩
      exact kind_told kx hi (by rw [List.length_set]; exact hlen) (List.getElem?_set_self (by rw [hlen]; decide)) hk
    · exact h
end VI

set_option maxHeartbeats 4000000
namespace VI
variable [Tn]
open PySem PySem.Spec PyProof.Rows L2 LamX PySem.OEX
def RzC (X : Cx) (C : Str) (ks : List Str) : Prop :=
  (ks = [] ∧ ∃ (Ca : Addr) (bmB : List Value) (B newId initId : String), ExcBaseFacts B newId initId bmB ∧ PySem.W.excIn X.K Ca bmB newId = true ∧ X.mg C = some (.ref Ca) ∧ PySem.W.keepIn X.K (.ref Ca) = true ∧ Raises X (.ref Ca)) ∨
  (ks ≠ [] ∧ ∃ (Ca fI : Addr) (fd : FuncData) (k : Nat) (g : List Value → List Value → List Value) (gV : List V → List V → List V), X.mg C = some (.ref Ca) ∧ OexC X.K Ca ∧ PySem.W.findIn X.K (.ref Ca) "__init__" = some (some (.ref fI)) ∧ PySem.W.typeIn X.K (.ref fI) = some (.type "function") ∧
    FnOk X.prog X.w X.K X.mg X.base (L2.CX X.prog X.w) k fI fd ("self" :: ks) (spIni X.K ks) ∧ Room (k + 1) X.A ∧ KBn X.K fd ("self" :: ks) 1 ks g gV ∧ (∀ r zs, gV [r] zs = r :: zs) ∧ ∀ f ∈ ks, PySem.W.findIn X.K (.ref Ca) f = some none)
section
variable {K : PySem.W.Frag}
theorem fzF_app {F : Hp} : ∀ {a b : List (Str × V)} {c d : List (Str × D)}, FzF K F a c → FzF K F b d → FzF K F (a ++ b) (c ++ d)
  | _, _, _, _, .nil, h => h
  | _, _, _, _, .cons x r, h => .cons x (fzF_app r h)
theorem fzF_rev {F : Hp} : ∀ {a : List (Str × V)} {c : List (Str × D)}, FzF K F a c → FzF K F a.reverse c.reverse
  | _, _, .nil => .nil
  | _, _, .cons x r => by
    rw [List.reverse_cons, List.reverse_cons]
    exact fzF_app (fzF_rev r) (.cons x .nil)
theorem fzF_zip {F : Hp} : ∀ {ks : List Str} {vs : List V} {ds : List D}, FzL K F vs ds → FzF K F (ks.zip vs) (ks.zip ds)
  | [], _, _, _ => .nil
  | _ :: _, _, _, .nil => .nil
  | k :: ks, _, _, .cons x r => .cons x (fzF_zip r)
theorem fzF_look {F : Hp} {f : Str} : ∀ {a : List (Str × V)} {c : List (Str × D)} {d : D}, FzF K F a c → c.lookup f = some d → ∃ v, a.lookup f = some v ∧ Fz K F v d
  | _, _, _, .nil, h => by simp at h
  | _, _, _, .cons (k := k) x r, h => by
    rw [List.lookup_cons] at h ⊢
    cases hk : f == k with
    | true => rw [hk] at h; cases h; exact ⟨_, rfl, x⟩
    | false => rw [hk] at h; exact fzF_look r h
end
section
variable {X : Cx} {mg : Str → Option Value} {call : CallT} {W : WX} {pr : Nat → Bool}
theorem psE_raise {C : Str} {ks : List Str} {es : List E} {kws : List Keyword} {p p2 pos : Pos} (hmg : mg = X.mg) (hc : X.calm = true) (tk : Takes X W) (hg : Gl X C) (hdb : (C == ("__debug__" : Str)) = false) (z : RzC X C ks) (hne : ks ≠ []) (hkw : PK X kws (tCs X.K mg call W es))
    (hall : (backToKw p2 (keywordEach kws X.env)).all (·.1.isSome) = true) (hks : (backToKw p2 (keywordEach kws X.env)).filterMap (·.1) = ks) (hpl : ((backTo p2 (starEach [] X.env)).any (·.1) || (backToKw p2 (keywordEach kws X.env)).any (·.1.isNone)) = false) :
    PS X (.Raise (some (.Call (.Name C p) [] kws p2)) none pos) (tS X.K mg W pr (ex call (.raise C ks es))) := by
  rcases z with ⟨e, _⟩ | ⟨_, Ca, fI, fd, k, g, gV, hm, T, iC, tI, F1, hr, hb, hgV, hno⟩
  · exact absurd e hne
  refine PS.weak (ps_raise hc tk (pmk_kw T iC tI F1 hr hb passL hg hm hkw hall hks hdb hpl)) fun D σ H h => ?_
  obtain ⟨F, A, ρ, w, s, p⟩ := h
  refine seqC es w s ?_
  simp only [ex] at p
  cases hr' : evC call es ρ with
  | bad => simp only [hr', R.sbind] at p; exact p
  | err x ρ' => simp only [hr', R.sbind] at p; exact p σ SK.refl
  | ok ds ρ1 =>
    simp only [hr', R.sbind] at p
    split at p
    · rename_i hcd
      simp only [Bool.and_eq_true, decide_eq_true_eq] at hcd
      intro vs F' H1 A' B ex s' ol dj _
      have fz := ol.fzd hcd.1
      have lv : vs.length = ks.length := by rw [fz.len, hcd.2]
      refine ⟨lv, fun a ha => ?_⟩
      refine ⟨a, Ca, vs, hgV _ _, lv, T, hno, upd_same, fun dx hdx ne => ⟨rfl, dx, (ks.zip vs).reverse, upd_same, ?_, ?_, ?_⟩⟩
      · rw [upd_ne ne, upd_same]
      · rw [upd_ne ne] at hdx; exact hdx
      · rw [upd_ne ne] at hdx
        have e : upd (del (upd (upd (upd H1 a (exo a Ca none)) dx (exd dx (ks.zip vs).reverse)) a (exo a Ca (some dx))) a) dx (.xd (ks.zip vs).reverse) = upd H1 dx (.xd (ks.zip vs).reverse) := by
          funext c
          by_cases h1 : c = dx
          · subst h1; rw [upd_same, upd_same]
          · rw [upd_ne h1, upd_ne h1]
            by_cases h2 : c = a
            · subst h2; rw [del_same, ha]
            · rw [del_ne h2, upd_ne h2, upd_ne h1, upd_ne h2]
        rw [e]
        have eL := Ext.laidF (o := .xd (ks.zip vs).reverse) (ex.wd.sub Sb.l) hdx
        refine p σ SK.refl (.ref Ca) (some dx) _ _ A' ((ex.sub Sb.l).trans w eL) (Slots.move eL.fsame s' fun c o _ e => by rw [upd_ne (ne_of_none e hdx)]; exact e) ⟨Ca, rfl, by rw [hmg]; exact hm, _, upd_same, fzF_rev (fzF_zip (FzL.up eL.fsame fz))⟩
    · exact p.elim
theorem psE_raise0 {C m : Str} {j : Nat} {p p1 p2 pos : Pos} (hmg : mg = X.mg) (hc : X.calm = true) (tk : Takes X W) (hg : Gl X C) (hdb : (C == ("__debug__" : Str)) = false) (z : RzC X C []) :
    PS X (.Raise (some (.Call (.Name C p) [.Constant (.str m) j p1] [] p2)) none pos) (tS X.K mg W pr (ex call (.raise C [] []))) := by
  rcases z with ⟨_, Ca, bmB, B, newId, initId, F0, q, hm, kC, r⟩ | ⟨e, _⟩
  · refine PS.weak (ps_raise hc tk (pmk_own F0 q hm kC r hg hdb)) fun D σ H h => ?_
    obtain ⟨F, A, ρ, w, s, p⟩ := h
    simp only [ex, evC, R.sbind] at p
    exact p σ SK.refl (.ref Ca) none F H A (Ext.refl w) s ⟨Ca, rfl, by rw [hmg]; exact hm, rfl⟩
  · exact absurd rfl e
/-! ### the kind of what a lambda raises -/
theorem Ext.grow {F H H' : Hp} {A : AS} (w : Wd F H A) (g : Grow H H') : Ext F H A F H' A :=
  ⟨fun _ _ e => e, ⟨fun a u e => g _ _ (w.same a u e), fun a x => by
    obtain ⟨q1, u, q2, q3⟩ := w.own a x
    exact ⟨q1, u, g _ _ q2, q3⟩, fun P q t => (w.tab P q t).ext g, w.nof⟩, fun a o e _ _ => g a o e, fun a ps e => ⟨ps, g _ _ e⟩, fun _ x => .inl x, fun _ x => .inl x, Fk.grow g⟩
theorem Slots.grow {K : PySem.W.Frag} {F H H' : Hp} {σ : SG} {ρ : Env'} {A : AS} (s : Slots K mg F H σ ρ A) (g : Grow H H') : Slots K mg F H' σ ρ A := Slots.move (fun _ _ e => e) s fun a o _ e => g a o e
theorem fz_w {K : PySem.W.Frag} {F : Hp} {x : Str} (h : okCs x.cps.toList = true) : Fz K F (.str x) (cpsW x) := by
  have e : x = ⟨x.cps.toList.toArray⟩ := by cases x; simp
  unfold cpsW
  conv => arg 3; rw [e]
  exact .str _ h
theorem kindIx_some {c : Str} {i : Nat} (h : kindIx c = some i) : i < 11 ∧ kNs[i]? = some c := by
  unfold kindIx at h
  rw [List.findIdx?_eq_some_iff_getElem] at h
  obtain ⟨hi, h1, _⟩ := h
  refine ⟨hi, ?_⟩
  rw [List.getElem?_eq_getElem hi]
  simp only [decide_eq_true_eq] at h1
  rw [h1]
structure KindQ (K : PySem.W.Frag) (mg : Str → Option Value) (F H : Hp) (A : AS) (σ : SG) (r : R D) (Q : VK) : Prop where
  out : ∃ d ρ', kindR r = .ok d ρ' ∧ ∀ v F' H' A', Ext F H A F' H' A' → Slots K mg F' H' σ ρ' A' → Fz K F' v d → Q v H'
theorem word_ok : ∀ i, i < 11 → okCs (kWs.getD i "").cps.toList = true := by decide
theorem kind_tl {L : List Addr} {S : Addr} {K : PySem.W.Frag} (KC : KindC K mg L S) {e : E} {F H : Hp} {A : AS} {σ : SG} {ρ : Env'} {Q : VK} (w : Wd F H A) (s : Slots K mg F H σ ρ A) (kq : KindQ K mg F H A σ (ev call e ρ) Q) :
    TTk L (fun E H' Q' => tE K mg call e (fun cls dx _ H => E cls dx H) σ H' Q') H Q := by
  obtain ⟨dd, ρ', hk, q⟩ := kq.out
  refine ⟨F, A, ρ, w, s, ?_⟩
  cases hr : ev call e ρ with
  | bad => rw [hr] at hk; simp [kindR] at hk
  | ok d ρ2 =>
    rw [hr] at hk
    simp only [kindR] at hk
    cases hk
    intro v F' H' A' B ex s2 o2 _ _ _
    refine ⟨by show (2 : Nat) ≤ sizeLine; decide, fun p hp => ?_⟩
    have eL := Ext.laidF (o := .tup [.str "", .int 0]) (ex.wd.sub Sb.l) hp
    exact q (.ref p) _ _ A' ((ex.sub Sb.l).trans w eL) (Slots.move eL.fsame s2 fun a o _ e => by rw [upd_ne (ne_of_none e hp)]; exact e) (.tup upd_same (.cons (.str [] rfl) (.cons (.int 0) .nil)))
  | err x ρ2 =>
    rw [hr] at hk
    simp only [kindR] at hk
    cases hx : kindO x with
    | none => rw [hx] at hk; simp [R.of] at hk
    | some d0 =>
      rw [hx] at hk
      simp only [R.of] at hk
      cases hk
      intro cls dx F' H' A' ex s2 xo
      obtain ⟨C, rfl, hmC, hxd⟩ := xo
      unfold kindO at hx
      cases hi : kindIx x.1 with
      | none => rw [hi] at hx; cases hx
      | some i =>
        rw [hi] at hx
        simp only [Option.bind_some] at hx
        obtain ⟨hi11, hn⟩ := kindIx_some hi
        have eC : C = L.getD i 0 := by
          have := KC.ms i _ hn
          rw [hmC] at this
          cases this; rfl
        subst eC
        refine ⟨i, hi11, rfl, ?_⟩
        have fin : ∀ {H2 : Hp} {p : Addr} {vs : List V}, Grow H' H2 → H2 p = none → (∀ F2, Same F' F2 → FzL K F2 vs ([cpsW "count", .int 0])) → dd = .tup [cpsW "count", .int 0] → Q (.ref p) (upd H2 p (.tup vs)) := fun {H2 p vs} g hp hv hd => by
          have e1 := Ext.grow ex.wd g
          have eL := Ext.laidF (o := .tup vs) e1.wd hp
          subst hd
          exact q (.ref p) _ _ A' ((ex.trans w e1).trans w eL) (Slots.move eL.fsame (s2.grow g) fun a o _ e => by rw [upd_ne (ne_of_none e hp)]; exact e) (.tup upd_same (hv _ eL.fsame))
        unfold KRes
        by_cases h10 : i = 10
        · rw [if_pos h10] at hx ⊢
          split at hx
          · rename_i hem
            cases hx
            refine ⟨fun d hd => ?_, fun H2 g p hp => ?_⟩
            · subst hd
              obtain ⟨vs, e1, _⟩ := hxd
              exact ⟨vs, e1⟩
            · exact fin g hp (fun F2 _ => .cons (fz_w (by decide)) (.cons (.int 0) .nil)) rfl
          · cases hx
        · rw [if_neg h10] at hx ⊢
          cases dx with
          | none =>
            have hxd : x.2 = [] := hxd
            exfalso
            split at hx
            · rw [hxd] at hx; simp at hx
            · split at hx
              · rw [hxd] at hx; simp at hx
              · cases hx
          | some dd0 =>
            obtain ⟨vs, e1, fz⟩ := hxd
            refine ⟨dd0, vs, rfl, e1, ?_⟩
            by_cases h6 : i = 6
            · rw [if_pos h6] at hx ⊢
              simp only [Option.bind_eq_some_iff, Option.map_eq_some_iff] at hx
              obtain ⟨v, hv, w2, hw, hd⟩ := hx
              obtain ⟨vv, l1, f1⟩ := fzF_look fz hv
              obtain ⟨vw, l2, f2⟩ := fzF_look fz hw
              refine ⟨vv, vw, l1, l2, fun H2 g p p2 hp hp2 => ?_⟩
              have g1 := Ext.grow ex.wd g
              have eL := Ext.laidF (o := .tup [vv, vw]) g1.wd hp
              have eM := Ext.laidF (o := .tup [.str "crossed", .ref p]) eL.wd hp2
              subst hd
              have sm := Same.trans eL.fsame eM.fsame
              have s3 : Slots K mg (upd F' p (.tup [vv, vw])) (upd H2 p (.tup [vv, vw])) σ ρ' A' := Slots.move eL.fsame (s2.grow g) fun a o _ e => by rw [upd_ne (ne_of_none e hp)]; exact e
              refine q (.ref p2) _ _ A' (((ex.trans w g1).trans w eL).trans w eM) (Slots.move eM.fsame s3 fun a o _ e => by rw [upd_ne (ne_of_none e hp2)]; exact e) (.tup upd_same (.cons (fz_w (by decide)) (.cons (.tup (eM.fsame _ _ upd_same) (.cons (Fz.up sm f1) (.cons (Fz.up sm f2) .nil))) .nil)))
            · rw [if_neg h6] at hx ⊢
              split at hx
              · rename_i f hf
                simp only [Option.map_eq_some_iff] at hx
                obtain ⟨v, hv, hd⟩ := hx
                obtain ⟨vv, l1, f1⟩ := fzF_look fz hv
                refine ⟨f, vv, hf, l1, fun H2 g p hp => ?_⟩
                have g1 := Ext.grow ex.wd g
                have eL := Ext.laidF (o := .tup [.str (kWs.getD i ""), vv]) g1.wd hp
                subst hd
                exact q (.ref p) _ _ A' ((ex.trans w g1).trans w eL) (Slots.move eL.fsame (s2.grow g) fun a o _ e => by rw [upd_ne (ne_of_none e hp)]; exact e) (.tup upd_same (.cons (fz_w (word_ok i hi11)) (.cons (Fz.up eL.fsame f1) .nil)))
              · cases hx
end
def KindK (K : PySem.W.Frag) (mg : Str → Option Value) : Prop := ∃ (st : Stmt) (g : Addr) (fd : FuncData) (Lc : List Addr) (S : Addr) (q : Nat → Pos), L2.Fun K "_law_kind" "_law_kind" st g fd ∧ mg "_law_kind" = some (.ref g) ∧ PySem.W.keepIn K (.ref g) = true ∧
  L2.Binds K fd ["_law_call"] [] ∧ FnScope kNg ["_law_call"] (defScope st) ∧ (defScope st).names = kNames ∧ defBody st = kindBody q ∧ kLines q = true ∧ KindC K mg Lc S
def KindAt (X : Cx) : Prop := KindK X.K X.mg
section
variable {X : Cx} {call : CallT} {W : WX} {pr : Nat → Bool}
def par0 : Arguments := ⟨[], [], none, [], [], none, []⟩
theorem bind0 {nm q : Str} {body : Expr} {sc : Scope} {cl : List (Str × Addr)} {pm cv ctv : Value} : bindArgs (PySem.W.kla_fn nm q par0 body sc cl pm cv ctv) ⟨[], []⟩ = pure [] := by
  have hs : seqItems? Value.none = pure none := rfl
  unfold bindArgs par0
  dsimp only [List.map, List.append, List.zip, List.length]
  simp only [List.nil_append, List.append_nil, List.length_cons, List.length_nil, List.filterMap_cons, List.filterMap_nil, Option.map, hs, pure_bind, List.forIn_nil, List.zipWith, Option.getD, List.drop, List.take, List.filter, Option.isNone]
  first | rfl | simp
theorem pe_kindE {e : E} {body : Expr} {scope : Scope} {p lpos pos : Pos} {k : Nat} {mg : Str → Option Value} (hmg : mg = X.mg) (lc : LamC X) (kd : KindAt X) (hr : Room (k + 2) X.A) (hg : Gl X "_law_kind") (L : LamS X.env.scope scope)
    (hbody : ∀ (A : Around) (outer : List Env) (s : Shared) (H : Hp) (E : XK) (f c' : Addr), Room k (A.deeper (lamEnv X scope s.heap.objs.size f c')) → PE (lamCx X A outer s H E scope f c') body (tE X.K mg call e fun cls dx _ H => E cls dx H)) :
    PE X (.Call (.Name "_law_kind" p) [.Lambda par0 body scope lpos] [] pos) (tE X.K mg call (.kind e) W) := by
  subst hmg
  refine ⟨fun pins s σ H Q I h => ?_⟩
  obtain ⟨F, A, ρ, w, sl, p0⟩ := h
  obtain ⟨st, g, fd, Lc, S, q, FN, hm, hk, hb, hS, hn, hbq, hl, KC⟩ := kd
  obtain ⟨oc, od, kV, doc, pm, an, cdv, ct, osl, rfl, lk, hcd⟩ := FN.ex
  refine wpAny_Call_Name_kw (ld_glob I hg hm ?_ (by decide))
  refine PySem.W.callWith_K (h₀ := X.base) I.ok.mod.kin hk ?_ (by rfl) (by rfl)
  show wpAny _ _ (spliced ((false, eval (.Lambda par0 body scope lpos) X.env) :: backTo pos (starEach [] X.env))) _ _ s
  refine Calls.spliced_cons (lam_mk I w lc rfl (L.has I.ok) fun f c' pm' ctv H1 s' _ I1 e1 eN hf hfn hff hco hkp => ?_)
  refine Calls.spliced_nil ⟨I1.kIn, ?_⟩
  have sl1 : Slots X.K X.mg F H1 σ ρ A := Slots.move' (fun _ _ e => e) sl fun a u _ e m => eN a u e m.ntbl
  have kq : KindQ X.K X.mg F H1 A σ (ev call e ρ) Q := by
    simp only [ev] at p0
    cases hkr : kindR (ev call e ρ) with
    | bad => rw [hkr] at p0; exact p0.elim
    | err x ρ' =>
      exfalso
      cases he : ev call e ρ with
      | ok d ρ1 => rw [he] at hkr; simp [kindR] at hkr
      | bad => rw [he] at hkr; simp [kindR] at hkr
      | err y ρ1 =>
        rw [he] at hkr
        simp only [kindR] at hkr
        cases hky : kindO y <;> rw [hky] at hkr <;> simp [R.of] at hkr
    | ok d ρ' =>
      rw [hkr] at p0
      refine ⟨d, ρ', hkr, fun v F' H' A' ex s2 fz => ?_⟩
      exact p0 v F' H' A' no (by rw [cup_no']; exact e1.trans w ex) s2 (.fz fz) (fun z => by simp [shares] at z) (fun _ => Dj.no_r) fun z => by simp [quiet] at z
  have rc : codeAny (model X.prog X.w) X.A (.call (.ref g) ⟨[.ref f], []⟩) (CR C8.CX0 X.stack X.prog X.w H1 s' Q C8.E0) s' := by
    refine run_ofS (N := kNg) (ps := ["_law_call"]) (us := [.ref f]) (vs := [.ref f]) lk hcd hS hr I1.env0 (hb s' [.ref f] I1.kIn rfl) (.cons rfl .nil) rfl fun hr' => ?_
    rw [hbq]
    have hu : ∀ env, (X.A.deeper env).units + 65 < cLine := fun env => by
      have := (hr.deeper env).un
      show (X.A.deeper env).units + 65 < _
      omega
    obtain ⟨t', ht', hq'⟩ := kind_gives (qn := X.env.qual ++ "<lambda>") (g := g) (cdg := cdv) (sg := defScope st) hn KC q hl hu f c' s' H1 Q (fun E H' Q' => tE X.K X.mg call e (fun cls dx _ H => E cls dx H) σ H' Q')
      (fun W pn xe E p1 p2 tk hW => pe_act (i := 0) I1 L hf hfn hff bind0 tk hW hr' (fun A outer s H hr2 => hbody A outer s H E f c' hr2) rfl (.inl (by rw [hn]; rfl)) rfl rfl) hco (kind_tl KC e1.wd sl1 kq)
    exact ⟨t', ht'.nox, hq'⟩
  refine wpAny_call (codeAny_mono rc fun r s2 hq => ?_)
  cases r with
  | error e => exact (show False from hq).elim
  | ok fl =>
    cases fl with
    | ret u => exact I1.after hq
    | next => exact False.elim hq
    | brk => exact False.elim hq
    | cont => exact False.elim hq
end
end VI

set_option maxHeartbeats 2000000
namespace VI
variable [Tn]
open PySem PySem.Spec PyProof.Rows L2 LamX PySem.OEX PySem.Calls PySem.W
abbrev lamDO (qual : Str) (params : Arguments) (body : Expr) (scope : Scope) (cl : List (Str × Addr)) (pm : Value) (c' : Addr) (ctv dV : Value) : Obj :=
  { cls := .type "function", data := .func { name := "<lambda>", qualname := qual, params, body := .expr body, scope, globals := mainGlobals, closure := cl, defaults := dV, kwdefaults := .none, pyModule := pm, code := .ref c', closureTuple := ctv, builtins := builtinsNs } }
section
variable {M : Model} {A : Around} {E Q : Value → Shared → Prop} {s : Shared} {qual : Str} {params : Arguments} {body : Expr} {scope : Scope} {env : Env} {c P : Addr} {ps : Array Value} {pos : Pos} {firstLine : Nat} {mg : Str → Option Value}
  {clos : List (Str × Addr)} {dV : Value}
end
def parD (x : Str) (p1 p2 : Pos) : Arguments := ⟨[], [⟨x, none, p1⟩], none, [], [], none, [.Constant (.int 0) 0 p2]⟩
abbrev dflO (t : Tok) : Obj := { cls := .type "tuple", data := .seq [Value.int 0 t].toArray }
section
variable {M : Model} {A : Around} {E Q : Value → Shared → Prop} {s : Shared} {body : Expr} {scope : Scope} {env : Env} {pos p1 p2 : Pos} {x : Str}
end
section
variable {X : Cx} {pins : List (Addr × Obj)} {σ : L2.St} {F H : Hp} {A : AS} {s : Shared} {scope : Scope}
end
end VI

set_option maxHeartbeats 2000000
namespace VI
variable [Tn]
open PySem PySem.Spec PyProof.Rows L2 LamX PySem.OEX PySem.Calls
structure LamSD (X : Cx) (scope : Scope) (x : Str) : Prop where
  kind : scope.kind = .function
  co : scope.isCoroutine = false
  gen : scope.isGenerator = false
  own : ∀ y ∈ scope.names, (y.2 = .local → y.1 = x) ∧ y.2 ≠ .cell
  loc : scope.names.lookup x = some .local
  out : ∀ i : Nat, X.N[i]? ≠ some x
  free : ∀ y ∈ scope.names, y.2 = .free → X.env.scope.names.lookup y.1 = some .cell ∨ X.env.scope.names.lookup y.1 = some .free
theorem LamSD.has {X : Cx} {scope : Scope} {x : Str} (L : LamSD X scope x) (ok : X.Ok) : ∀ y ∈ scope.names, y.2 = .free → ∃ c, X.env.cells.lookup y.1 = some c := fun y hy e => by
  rcases L.free y hy e with k | k
  · exact ok.has _ (.inl k)
  · exact ok.has _ (.inr k)
section
variable {X : Cx} {pins : List (Addr × Obj)} {σ : L2.St} {H HZ : Hp} {s s1 : Shared} {scope : Scope} {ex : List Addr}
end
end VI

set_option maxHeartbeats 2000000
namespace VI
variable [Tn]
open PySem PySem.Spec PyProof.Rows L2
theorem spl_splS (c : Nat) : ∀ (acc a : List Nat), TL.spl [c] 0 acc a = splS c acc a
  | acc, [] => by rw [TL.spl_nil]; rfl
  | acc, x :: r => by
    have hp : TL.pre [c] (x :: r) = decide (x = c) := by
      unfold TL.pre
      simp
      by_cases h : x = c <;> simp [h]
    unfold splS
    by_cases h : x = c
    · rw [if_pos h, TL.spl_hit (by rw [hp]; exact decide_eq_true h)]
      exact congrArg (acc :: ·) (spl_splS c [] r)
    · rw [if_neg h, TL.spl_miss (by rw [hp]; exact decide_eq_false h)]
      exact spl_splS c (acc ++ [x]) r
theorem splS_ok (c : Nat) : ∀ (acc a : List Nat), okCs acc = true → okCs a = true → ∀ y ∈ splS c acc a, okCs y = true
  | acc, [], h1, _, y, hy => by
    unfold splS at hy
    rw [List.mem_singleton.mp hy]; exact h1
  | acc, x :: r, h1, h2, y, hy => by
    unfold splS at hy
    have h3 : okCs r = true := by
      unfold okCs at h2 ⊢
      rw [List.all_cons, Bool.and_eq_true] at h2
      exact h2.2
    split at hy
    · rcases List.mem_cons.mp hy with rfl | hy
      · exact h1
      · exact splS_ok c [] r rfl h3 y hy
    · refine splS_ok c (acc ++ [x]) r ?_ h3 y hy
      unfold okCs at h1 h2 ⊢
      rw [List.all_append, h1]
      rw [List.all_cons, Bool.and_eq_true] at h2
      simp [h2.1]
theorem fzL_strs {K : PySem.W.Frag} {F : Hp} : ∀ (ys : List (List Nat)), (∀ y ∈ ys, okCs y = true) → FzL K F ((ys.map ST).map V.str) (ys.map D.str)
  | [], _ => .nil
  | y :: r, h => .cons (.str y (h y List.mem_cons_self)) (fzL_strs r fun z hz => h z (List.mem_cons_of_mem _ hz))
def baseB : Expr → Bool
  | .Name .. => true
  | .Subscript .. => true
  | _ => false
theorem base_of {a : Expr} {n : Str} {env : Env} {w : Sem Value} (h : baseB a = true) : attributeBase a n env w = w := by
  cases a <;> first | rfl | simp [baseB] at h
section
variable {X : Cx} {mg : Str → Option Value} {call : CallT} {W : WX}
theorem pe_splitE {c : Nat} {e : E} {a : Expr} {k : Nat} {p0 apos pos : Pos} (hc : c < 256) (hline : (apos.endLine == pos.line) = true) (hb : baseB a = true) (ha : PE X a (tR X.K mg call W e)) :
    PE X (.Call (.Attribute a "split" apos) [.Constant (.str ⟨[c].toArray⟩) k p0] [] pos) (tE X.K mg call (.op (.mt (.split [c])) [e]) W) := by
  refine opFin (r := on1 fun x H Q => (∃ a, x = V.str a) ∧ ∃ a b, x = V.str a ∧ [V.str (ST [c])] = [V.str b] ∧ (b.length == 0) = false ∧ a.length + 2 ≤ sizeLine ∧ rNewStrs (Txt.split a b) H Q)
    (PE.weak (pe_split (X := X) (o := a) (e := .Constant (.str ⟨[c].toArray⟩) k p0) (to := tR X.K mg call W e) (te := tC (.str (ST [c]))) (apos := apos) (pos := pos) ha pe_str rfl (base_of hb) hline) fun σ H Q h => h) fun {F H A vs ds d Q} w rl hd _ rs => ?_
  simp only [opD, mtO] at hd
  unfold splitO at hd
  split at hd
  · rename_i c' a' hcc
    split at hd
    · rename_i hl
      cases hd
      cases hcc
      obtain ⟨v, B, rfl, o⟩ := rl.d1
      refine ⟨⟨_, o.str.1⟩, _, _, o.str.1, rfl, rfl, by show (ST _).length + 2 ≤ sizeLine; rw [st_len, szl]; exact hl.2, fun p hp => ?_⟩
      have e1 : Txt.split (ST a') (ST [c]) = (splS c [] a').map ST := by
        have h := SX.split_S (a := a') (b := [c]) (by simp) (by simpa using hc)
        rw [spl_splS] at h
        exact h
      have e2 : (⟨a'.toArray⟩ : Str) = ST a' := rfl
      rw [e2, e1]
      exact rs.lst w (fzL_strs _ (splS_ok c [] a' rfl o.str.2)) hp
    · cases hd
  · cases hd
theorem pe_stripE {l : List Nat} {e : E} {a b : Expr} {apos pos : Pos} (hline : (apos.endLine == pos.line) = true) (hb : baseB a = true) (nb : noStar b = true) (ha : PE X a (tR X.K mg call W e)) (hn : PE X b (tC (.str (ST l)))) :
    PE X (.Call (.Attribute a "strip" apos) [b] [] pos) (tE X.K mg call (.op (.mt (.strip l)) [e]) W) := by
  refine opFin (r := on1 fun x H Q => (∃ a, x = V.str a) ∧ ∃ a b, x = V.str a ∧ [V.str (ST l)] = [V.str b] ∧ a.length ≤ sizeLine ∧ Q (.str (Txt.stripChars a b)) H)
    (PE.weak (pe_m1 (X := X) (o := a) (e := b) (to := tR X.K mg call W e) (te := tC (.str (ST l))) (apos := apos) (pos := pos) PySem.F.slot_str_strip PySem.F.type_str_strip mt_stripChars ha hn (by rw [starEach_cons nb]; rfl) (base_of hb) hline) fun σ H Q h => h) fun {F H A vs ds d Q} w rl hd _ rs => ?_
  simp only [opD, mtO] at hd
  unfold stripO at hd
  split at hd
  · split at hd
    · rename_i hl
      cases hd
      obtain ⟨v, B, rfl, o⟩ := rl.d1
      refine ⟨⟨_, o.str.1⟩, _, _, o.str.1, rfl, by show (ST _).length ≤ sizeLine; rw [st_len, szl]; exact hl.1, ?_⟩
      have q := rs.str w hl.2
      exact q
    · cases hd
  · cases hd
end
end VI

namespace VI
variable [Tn]
open PySem PySem.Spec PyProof.Rows L2
structure Ck where
  N : List Str
  names : List (Str × NameKind)
  fns : Str → Option Nat
  gls : Str → D → Bool
  lam : Bool
  exc : Str → Option (List Str)
  kin : Bool
  clss : Str → Option (List Str)
  mets : Str → Option (Str × Str × Nat)
  gtp : Str → Option (List (List Nat))
  kwo : Str → Option Str
def TupK (K : PySem.W.Frag) (a : Addr) (ws : List (List Nat)) : Prop := ws.all okCs = true ∧ ∃ (o : Obj) (its : Array Value) (n : Nat), K.lookup a = some o ∧ o.cls = .type "tuple" ∧ o.data = .seq its n ∧ its.size ≤ sizeLine ∧ Vals ((ws.map ST).map V.str) its.toList
def Ck.vis (c : Ck) (i : Nat) (x : Str) : Bool := decide (c.N[i]? = some x) && (match c.names.lookup x with | some .local => true | some .cell => true | some .free => true | _ => false) && !(x == ("__debug__" : Str)) && !(x == ("__classdict__" : Str))
def Ck.glo (c : Ck) (x : Str) : Bool := decide (c.names.lookup x = some .globalImplicit)
def Ck.sto (c : Ck) (i : Nat) (x : Str) : Bool := decide (c.N[i]? = some x) && (match c.names.lookup x with | some .local => true | some .cell => true | _ => false)
def chkC : D → Expr → Bool
  | .int i, .Constant (.int j) _ _ => i == j
  | .bl b, .Constant (.bool k) _ _ => b == k
  | .non, .Constant .none _ _ => true
  | .str l, .Constant (.str s) _ _ => decide (s = ST l) && okCs l
  | _, _ => false
def plainIxB : Expr → Bool
  | .Slice .. => false
  | _ => true
def oa0 (c : Ck) (o : Operator) : Expr → Option (List Expr)
  | .BinOp x o' y _ => if o = o' then some [x, y] else none
  | _ => none
def oa1 (c : Ck) (o : CmpOp) : Expr → Option (List Expr)
  | .Compare x [o'] [y] _ => if o = o' && !(behindInMarks o y) then some [x, y] else none
  | _ => none
def oa3 (c : Ck) : Expr → Option (List Expr)
  | .Subscript x y _ => if plainIxB y then some [x, y] else none
  | _ => none
def oa5 (c : Ck) : Expr → Option (List Expr)
  | .Subscript x (.Slice (some l) none none _) _ => some [x, l]
  | _ => none
def oa6 (c : Ck) : Expr → Option (List Expr)
  | .Subscript x (.Slice none (some l) none _) _ => some [x, l]
  | _ => none
def oa7 (c : Ck) : Expr → Option (List Expr)
  | .Subscript x (.Slice (some l) (some u) none _) _ => some [x, l, u]
  | _ => none
def oa9 (c : Ck) (f : Fn) : Expr → Option (List Expr)
  | .Call (.Name y _) (a :: as) [] _ => if decide (y = fnName f) && c.glo y && fnHas f then some (a :: as) else none
  | _ => none
def oa10 (c : Ck) (l : List Nat) : Expr → Option (List Expr)
  | .Call (.Attribute (.Constant (.str s) _ _) m apos) [b] [] pos => if decide (s = ST l) && okCs l && decide (m = "join") && (apos.endLine == pos.line) then some [b] else none
  | _ => none
def oa14 (c : Ck) (ts : List String) : Expr → Option (List Expr)
  | .Call (.Name y _) [a, .Name z _] [] _ => (match ts with | [t] => if decide (y = "isinstance") && decide (z = Str.ofString t) && cNames.contains t && c.glo y && c.glo z then some [a] else none | _ => none)
  | .Call (.Name y _) [a, .Tuple es _ _] [] _ => if decide (y = "isinstance") && tyEs ts es && decide (ts.length ≤ 5) && c.glo y && ts.all (fun t => c.glo (Str.ofString t) && cNames.contains t) then some [a] else none
  | _ => none
def oaSplit (c : Ck) (l : List Nat) : Expr → Option (List Expr)
  | .Call (.Attribute a m apos) [.Constant (.str s) _ _] [] pos => if decide (s = ST l) && decide (m = "split") && (apos.endLine == pos.line) && baseB a && decide (l.length = 1) && l.all (· < 256) then some [a] else none
  | _ => none
def oaStrip (c : Ck) (l : List Nat) : Expr → Option (List Expr)
  | .Call (.Attribute a m apos) [.Name y _] [] pos => if c.glo y && c.gls y (.str l) && !(y == ("__debug__" : Str)) && decide (m = "strip") && (apos.endLine == pos.line) && baseB a then some [a] else none
  | _ => none
def opArgs (c : Ck) (o : Op) (a : Expr) : Option (List Expr) := match o with
  | .bin o => oa0 c o a
  | .cmp o => oa1 c o a
  | .ix => oa3 c a
  | .sl true false => oa5 c a
  | .sl false true => oa6 c a
  | .sl true true => oa7 c a
  | .fn f => oa9 c f a
  | .mt (.join l) => oa10 c l a
  | .mt (.split l) => oaSplit c l a
  | .mt (.strip l) => oaStrip c l a
  | .isi ts => oa14 c ts a
  | _ => none
def unw : Expr → Expr
  | .BoolOp _ [q] _ => q
  | e => e
def notSet : Expr → Bool
  | .Set .. => false
  | _ => true
def isTupE : Expr → Bool
  | .Tuple .. => true
  | _ => false
def isNmE : Expr → Bool
  | .Name .. => true
  | _ => false
def itArgs (c : Ck) : ItK → Expr → Expr → Option (List Expr)
  | .seq, _, e => if notSet e then some [e] else none
  | .enum, tg, .Call (.Name y _) [a] [] _ => if isTupE tg && decide (y = "enumerate") && c.glo y then some [a] else none
  | .zip, tg, .Call (.Name y _) [a, b] [] _ => if (isTupE tg || isNmE tg) && decide (y = "zip") && c.glo y then some [a, b] else none
  | .rng, _, .Call (.Name y _) as [] _ => if decide (y = "range") && c.glo y && (as.length == 1 || as.length == 2 || as.length == 3) then some as else none
  | .dk, _, e => if notSet e then some [e] else none
  | .dv, _, .Call (.Attribute (.Name x p) m apos) [] [] pos => if decide (m = "values") && (apos.endLine == pos.line) then some [.Name x p] else none
  | _, _, _ => none
def eNon : E → Bool
  | .cst .non => true
  | _ => false
mutual
def chkT (c : Ck) (pr : Nat → Bool) : T → Expr → Bool
  | .slot i, a => match a with
    | .Name x _ => c.sto i x && !pr i
    | _ => false
  | .tup ts, a => match a with
    | .Tuple es _ _ => chkTl c pr ts es
    | _ => false
def chkTl (c : Ck) (pr : Nat → Bool) : List T → List Expr → Bool
  | [], [] => true
  | t :: ts, a :: as => chkT c pr t a && chkTl c pr ts as
  | _, _ => false
end
def Ck.blk (c : Ck) (sc : Scope) : Ck := { c with names := sc.names, lam := false, exc := fun _ => none, kin := false }
def Ck.lamF (c : Ck) (sc : Scope) : Ck := { c with names := sc.names, lam := false, exc := fun _ => none, kin := false }
def lamQB (c : Ck) (sc : Scope) (ps : List Str) : Bool := (match sc.kind with | .function => true | _ => false) && !sc.isCoroutine && !sc.isGenerator && sc.names.all fun y => match y.2 with
  | .cell => false
  | .free => match c.names.lookup y.1 with | some .cell => true | some .free => true | _ => false
  | .local => ps.contains y.1
  | _ => true
def Ck.blkOk (c : Ck) (own : List Nat) (sc : Scope) : Bool := blkC c.N { sc with names := c.names } sc (own.map fun i => (c.N.getD i "", i))
def par0B : Arguments → Bool
  | ⟨[], [], none, [], [], none, []⟩ => true
  | _ => false
def oriB (c : Ck) : E → E → Str → Bool
  | .var i, .use j, n => decide (i = j) && c.vis i n
  | _, _, _ => false
mutual
def chkE (c : Ck) : E → Expr → Bool
  | .var i, a => match a with | .Name x _ => c.vis i x | _ => false
  | .use i, a => match a with | .Name x _ => c.vis i x | _ => false
  | .take i, a => match a with | .Name x _ => c.vis i x | _ => false
  | .lend _, _ => false
  | .cst d, a => chkC d a
  | .glob x d, a => match a with | .Name y _ => decide (x = y) && c.glo y && c.gls y d && !(y == ("__debug__" : Str)) | _ => false
  | .op o es, a => match opArgs c o a with
    | some as => chkL c es as
    | none => false
  | .chain o1 o2 x y z, a => match a with
    | .Compare p [q1, q2] [r, s] _ => decide (o1 = q1) && decide (o2 = q2) && !(lastMarks [q1, q2] [r, s]) && chkE c x p && chkE c y r && chkE c z s
    | _ => false
  | .chain3 o1 o2 o3 x y z w, a => match a with
    | .Compare p [q1, q2, q3] [r, s, t] _ => decide (o1 = q1) && decide (o2 = q2) && decide (o3 = q3) && !(lastMarks [q1, q2, q3] [r, s, t]) && chkE c x p && chkE c y r && chkE c z s && chkE c w t
    | _ => false
  | .and x y, a => match a with
    | .BoolOp .And (p :: q :: rest) pos => chkE c x p && chkE c y (unw (.BoolOp .And (q :: rest) pos))
    | _ => false
  | .or x y, a => match a with
    | .BoolOp .Or (p :: q :: rest) pos => chkE c x p && chkE c y (unw (.BoolOp .Or (q :: rest) pos))
    | _ => false
  | .not x, a => match a with | .UnaryOp .Not p _ => chkE c x p | _ => false
  | .ifx k x y, a => match a with
    | .IfExp p q r _ => chkE c k p && tstE k && chkE c x q && chkE c y r
    | .BoolOp .Or [.Name n _, q] _ => oriB c k x n && chkE c y q
    | _ => false
  | .tup es, a => match a with | .Tuple as _ _ => chkL c es as | _ => false
  | .lst es, a => match a with | .List as _ => chkL c es as | _ => false
  | .call f es, a => match a with
    | .Call (.Name y _) (b :: bs) [] _ => decide (f = y) && c.glo y && decide (c.fns f = some es.length) && !(y == ("__debug__" : Str)) && chkA c es (b :: bs)
    | _ => false
  | .mut o i ps es, a => ps.isEmpty && match a with
    | .Call (.Attribute (.Name x _) m apos) [b] [] pos => decide (m = pickM o) && (match o with | .append => true | .extend => true | _ => false) && c.vis i x && (apos.endLine == pos.line) && chkL c es [b]
    | .Call (.Attribute (.Name x _) m apos) [b1, b2] [] pos => decide (m = "insert") && (match o with | .insert => true | _ => false) && c.vis i x && (apos.endLine == pos.line) && chkL c es [b1, b2]
    | _ => false
  | .idx i es, _ => false
  | .cnt i es, _ => false
  | .pop i es, _ => false
  | .dnew t, _ => false
  | .disp ks es, _ => false
  | .lcK i el t cs own, _ => false
  | .lcO i el t cs own, _ => false
  | .lcE i el t cs own, a => match a with
    | .ListComp elt [⟨.Tuple tes tk tp, .Call (.Name y _) [.Name x _] [] _, ifs, 0⟩] sc _ => c.blkOk own sc && decide (y = "enumerate") && c.glo y && c.vis i x && chkT (c.blk sc) (fun i => !own.contains i) t (.Tuple tes tk tp) && chkE (c.blk sc) el elt && chkLs (c.blk sc) cs ifs
    | _ => false
  | .dupd i e, _ => false
  | .fz e, _ => false
  | .kind e, a => match a with
    | .Call (.Name y _) [.Lambda params body sc _] [] _ => decide (y = "_law_kind") && c.glo y && c.kin && c.lam && par0B params && lamQB c sc [] && chkE (c.lamF sc) e body
    | _ => false
  | .sortK n j ks, _ => false
  | .sortD e j ks, _ => false
  | .dget2 i es, _ => false
  | .lc el t k es cs own, a => match a with
    | .ListComp elt [⟨tg, iter, ifs, 0⟩] sc _ => c.blkOk own sc && (match itArgs c k tg iter with | some as => chkL c es as | none => false) && chkT (c.blk sc) (fun i => !own.contains i) t tg && chkE (c.blk sc) el elt && chkLs (c.blk sc) cs ifs
    | _ => false
  | .fat C i f ix, _ => false
  | .fapp C i f e, _ => false
  | .fpop C i f ix k, _ => false
  | .fld C i f, _ => false
  | .new C g es, _ => false
  | .meth C m g i es, _ => false
  | .recv C m g e es, _ => false
  | .dc kx vx t k es cs own, _ => false
  | .dc2 kx vx t k es t1 k1 es1 own own1, _ => false
  | .dsapp i k x, _ => false
  | .dupdT i e, _ => false
def chkL (c : Ck) : List E → List Expr → Bool
  | [], [] => true
  | e :: es, a :: as => noStar a && chkE c e a && chkL c es as
  | _, _ => false
def chkLs (c : Ck) : List E → List Expr → Bool
  | [], [] => true
  | e :: es, a :: as => tstE e && chkE c e a && es.isEmpty && chkLs c es as
  | _, _ => false
def chkA (c : Ck) : List E → List Expr → Bool
  | [], [] => true
  | e :: es, a :: as => noStar a && (match lendOf e with | some i => (match a with | .Name x _ => c.vis i x | _ => false) | none => chkE c e a) && chkA c es as
  | _, _ => false
/-- the last one, a None, is not written -/
def chkD (c : Ck) : List E → List Expr → Bool
  | [e], [] => eNon e
  | e :: es, a :: as => noStar a && (match lendOf e with | some i => (match a with | .Name x _ => c.vis i x | _ => false) | none => chkE c e a) && chkD c es as
  | _, _ => false
/-- no choice where a truth is asked for -/
def tstE : E → Bool
  | .fz _ => false
  | .ifx .. => false
  | .and a b => tstE a && tstE b
  | .or a b => tstE a && tstE b
  | .not a => tstE a
  | _ => true
end
def kwD : Option Str → List Value
  | some _ => [.none]
  | none => []
structure CkOk (c : Ck) (X : Cx) (W : WX) (mg : Str → Option Value) (call : CallT) : Prop where
  n : X.N = c.N
  nd : X.N.Nodup
  kind : X.env.scope.kind = .function
  look : ∀ x k, c.names.lookup x = some k → k ≠ .free → X.env.scope.names.lookup x = some k
  free : ∀ x, c.names.lookup x = some .free → X.env.scope.names.lookup x = some .cell ∨ X.env.scope.names.lookup x = some .free
  fn : ∀ x, c.names.lookup x = some .cell → X.fn x = true
  calm : X.calm = true
  units : X.A.units + 65 < cLine
  blt : ∀ x, (x ∈ (["isinstance", "range", "enumerate", "zip", "list"] : List Str) ∨ ∃ f, x = fnName f) ∨ (∃ t ∈ cNames, x = Str.ofString t) → X.mg x = none
  gls : ∀ x d, c.gls x d = true → ∃ u v, X.mg x = some u ∧ RelV v u ∧ Const X.K v d
  fns : ∀ f n, c.fns f = some n → ∃ m fa fd ps, FnOk X.prog X.w X.K X.mg X.base (L2.CX X.prog X.w) m fa fd ps (spC X.K mg call f n) ∧ Room m X.A ∧ X.mg f = some (.ref fa) ∧ PySem.W.keepIn X.K (.ref fa) = true ∧ Binds X.K fd ps []
  takes : Takes X W
  clss : ∀ C fs, c.clss C = some fs → ClsF X C fs
  mets : ∀ g C m n, c.mets g = some (C, m, n) → ∃ k Ca fa fd ps, FnOk X.prog X.w X.K X.mg X.base (L2.CX X.prog X.w) k fa fd ps (spC X.K mg call g n) ∧ Room (k + 1) X.A ∧ X.mg C = some (.ref Ca) ∧ Cls X.K Ca ∧ (m = "__init__" → Mk X.K Ca fa) ∧ (m ≠ "__init__" → Meth X.K Ca m fa) ∧ Binds X.K fd ps (kwD (c.kwo g))
  gtp : ∀ g ws, c.gtp g = some ws → ∃ a, X.mg g = some (.ref a) ∧ TupK X.K a ws
  lam : c.lam = true → LamC X ∧ Room 4 X.A
  exc : ∀ C ks, c.exc C = some ks → RzC X C ks
  kin : c.kin = true → KindAt X ∧ ∃ k, Room (k + 2) X.A ∧ (∀ g C m n, c.mets g = some (C, m, n) → ∃ k1 Ca fa fd ps, k1 + 1 ≤ k ∧ FnOk X.prog X.w X.K X.mg X.base (L2.CX X.prog X.w) k1 fa fd ps (spC X.K mg call g n) ∧ X.mg C = some (.ref Ca) ∧ Cls X.K Ca ∧ (m = "__init__" → Mk X.K Ca fa) ∧ (m ≠ "__init__" → Meth X.K Ca m fa) ∧ Binds X.K fd ps (kwD (c.kwo g))) ∧ ∀ f n, c.fns f = some n → ∃ m fa fd ps, m ≤ k ∧ FnOk X.prog X.w X.K X.mg X.base (L2.CX X.prog X.w) m fa fd ps (spC X.K mg call f n) ∧ X.mg f = some (.ref fa) ∧ PySem.W.keepIn X.K (.ref fa) = true ∧ Binds X.K fd ps []
  same : mg = X.mg
theorem lookup_free {sc : Scope} : ∀ {names : List (Str × NameKind)} {x : Str}, names.lookup x = some .free →
    (names.map fun (n, k) => if (k == NameKind.free && sc.kind == .function && sc.names.lookup n == some .cell) then (n, NameKind.cell) else (n, k)).lookup x = some .cell ∨
    (names.map fun (n, k) => if (k == NameKind.free && sc.kind == .function && sc.names.lookup n == some .cell) then (n, NameKind.cell) else (n, k)).lookup x = some .free
  | [], _, h => by simp at h
  | (n, k₀) :: r, x, h => by
    have ih := @lookup_free sc r x
    have e : (((n, k₀) :: r).map fun (n, k) => if (k == NameKind.free && sc.kind == .function && sc.names.lookup n == some .cell) then (n, NameKind.cell) else (n, k)) =
      (if (k₀ == NameKind.free && sc.kind == .function && sc.names.lookup n == some .cell) = true then (n, NameKind.cell) else (n, k₀)) :: (r.map fun (n, k) => if (k == NameKind.free && sc.kind == .function && sc.names.lookup n == some .cell) then (n, NameKind.cell) else (n, k)) := rfl
    rw [e]
    cases hx : x == n with
    | true =>
      simp only [List.lookup_cons, hx] at h
      cases h
      by_cases hc : (NameKind.free == NameKind.free && sc.kind == .function && sc.names.lookup n == some .cell) = true
      · rw [if_pos hc]; left; simp only [List.lookup_cons, hx]
      · rw [if_neg hc]; right; simp only [List.lookup_cons, hx]
    | false =>
      simp only [List.lookup_cons, hx] at h
      by_cases hc : (k₀ == NameKind.free && sc.kind == .function && sc.names.lookup n == some .cell) = true
      · rw [if_pos hc]; simp only [List.lookup_cons, hx]; exact ih h
      · rw [if_neg hc]; simp only [List.lookup_cons, hx]; exact ih h
section
variable {c : Ck} {X : Cx} {W : WX} {mg : Str → Option Value} {call : CallT} {pr : Nat → Bool}
theorem CkOk.blk (o : CkOk c X W mg call) {sc : Scope} (hk : sc.kind = .function) (s : Shared) (H : Hp) (C : Addr) (cl : List (Str × Addr)) (fp : List Addr) : CkOk (c.blk sc) (X.blk s H sc (compEnvC sc cl C X.env) fp) W0 mg call where
  n := o.n
  nd := o.nd
  kind := hk
  look := fun x k h hf => lookup_relS_keep (sc := X.env.scope) hf h
  free := fun x h => lookup_free (sc := X.env.scope) h
  fn := fun x h => by
    show (sc.names.lookup x == some .cell) = true
    have h : sc.names.lookup x = some .cell := h
    rw [h]; rfl
  calm := o.calm
  units := o.units
  blt := o.blt
  gls := o.gls
  fns := o.fns
  takes := takes0
  clss := o.clss
  mets := o.mets
  gtp := o.gtp
  lam := fun h => by cases h
  exc := fun C ks h => by cases h
  kin := fun h => by cases h
  same := o.same
theorem lamQB_ok (o : CkOk c X W mg call) {sc : Scope} {ps : List Str} (h : lamQB c sc ps = true) : LamQ X.env.scope sc ∧ ∀ y, sc.names.lookup y = some .local → y ∈ ps := by
  simp only [lamQB, Bool.and_eq_true, Bool.not_eq_true', List.all_eq_true] at h
  obtain ⟨⟨⟨h1, h2⟩, h3⟩, h4⟩ := h
  refine ⟨⟨?_, h2, h3, fun y hy e => ?_, fun y hy e => ?_⟩, fun y e => ?_⟩
  · split at h1
    · assumption
    · cases h1
  · have := h4 y hy
    rw [e] at this; cases this
  · have := h4 y hy
    rw [e] at this
    cases q : c.names.lookup y.1 with
    | none => simp [q] at this
    | some k =>
      cases k with
      | cell => exact .inl (o.look _ _ q (by decide))
      | free => exact o.free _ q
      | _ => simp [q] at this
  · have := h4 _ (PySem.mem_of_lookup e)
    simpa using this
theorem CkOk.lamS (o : CkOk c X W mg call) {sc : Scope} (h : lamQB c sc [] = true) : LamX.LamS X.env.scope sc := by
  obtain ⟨q, hl⟩ := lamQB_ok o h
  refine ⟨q.kind, q.co, q.gen, fun y hy => ⟨fun e => ?_, q.nocell y hy⟩, q.free⟩
  simp only [lamQB, Bool.and_eq_true, Bool.not_eq_true', List.all_eq_true] at h
  have := h.2 y hy
  rw [e] at this
  simp at this
theorem CkOk.lamF (o : CkOk c X W mg call) {sc : Scope} {ps : List Str} (h : lamQB c sc ps = true) {k : Nat} (hm : (∀ g C m n, c.mets g = some (C, m, n) → ∃ k1 Ca fa fd ps, k1 + 1 ≤ k ∧ FnOk X.prog X.w X.K X.mg X.base (L2.CX X.prog X.w) k1 fa fd ps (spC X.K mg call g n) ∧ X.mg C = some (.ref Ca) ∧ Cls X.K Ca ∧ (m = "__init__" → Mk X.K Ca fa) ∧ (m ≠ "__init__" → Meth X.K Ca m fa) ∧ Binds X.K fd ps (kwD (c.kwo g)))) (hf : ∀ f n, c.fns f = some n → ∃ m fa fd ps, m ≤ k ∧ FnOk X.prog X.w X.K X.mg X.base (L2.CX X.prog X.w) m fa fd ps (spC X.K mg call f n) ∧ X.mg f = some (.ref fa) ∧ PySem.W.keepIn X.K (.ref fa) = true ∧ Binds X.K fd ps [])
    (A : Around) (outer : List Env) (s : Shared) (H : Hp) (E : XK) (f c' : Addr) (r : Room k (A.deeper (LamX.lamEnv X sc s.heap.objs.size f c'))) : CkOk (c.lamF sc) (LamX.lamCx X A outer s H E sc f c') (fun cls dx _ H => E cls dx H) mg call where
  n := o.n
  nd := o.nd
  kind := (lamQB_ok o h).1.kind
  look := fun x k e _ => e
  free := fun x e => .inr e
  fn := fun x e => absurd rfl ((lamQB_ok o h).1.nocell _ (PySem.mem_of_lookup e))
  calm := rfl
  units := by have := r.un; show (A.deeper _).units + 65 < _; omega
  blt := o.blt
  gls := o.gls
  fns := fun f n e => by
    obtain ⟨m, fa, fd, ps, hm, h1, h2, h3, h4⟩ := hf f n e
    exact ⟨m, fa, fd, ps, h1, r.mono hm, h2, h3, h4⟩
  takes := takes_of rfl rfl rfl rfl
  clss := fun C fs h => o.clss C fs h
  mets := fun g C m n h => by
    obtain ⟨k1, Ca, fa, fd, ps, hk, h1, h2, h3, h4, h5, h6⟩ := hm g C m n h
    exact ⟨k1, Ca, fa, fd, ps, h1, r.mono hk, h2, h3, h4, h5, h6⟩
  gtp := fun g ws h => o.gtp g ws h
  lam := fun h => by cases h
  exc := fun C ks h => by cases h
  kin := fun h => by cases h
  same := o.same
theorem CkOk.var (o : CkOk c X W mg call) {i : Nat} {x : Str} {pos : Pos} (h : c.vis i x = true) : PE X (.Name x pos) (tVar i) := by
  simp only [Ck.vis, Bool.and_eq_true, decide_eq_true_eq, Bool.not_eq_true'] at h
  obtain ⟨⟨⟨h1, h2⟩, h3⟩, h4⟩ := h
  refine pe_var (by rw [o.n]; exact h1) ?_ h3 h4
  split at h2
  · rename_i e; exact .inl (o.look _ _ e (by decide))
  · rename_i e; exact .inr (.inl (o.look _ _ e (by decide)))
  · rename_i e; exact .inr (o.free _ e)
  · cases h2
theorem CkOk.gl (o : CkOk c X W mg call) {x : Str} (h : c.glo x = true) : Gl X x := by
  simp only [Ck.glo, decide_eq_true_eq] at h
  exact o.look _ _ h (by decide)
theorem CkOk.sto (o : CkOk c X W mg call) {i : Nat} {x : Str} (h : c.sto i x = true) : X.N[i]? = some x ∧ Loc X.env.scope x ∧ (X.fn x = true ∨ X.env.scope.names.lookup x = some .local) := by
  simp only [Ck.sto, Bool.and_eq_true, decide_eq_true_eq] at h
  obtain ⟨h1, h2⟩ := h
  refine ⟨by rw [o.n]; exact h1, ?_⟩
  split at h2
  · rename_i e; exact ⟨.inl (o.look _ _ e (by decide)), .inr (o.look _ _ e (by decide))⟩
  · rename_i e; exact ⟨.inr (o.look _ _ e (by decide)), .inl (o.fn _ e)⟩
  · cases h2
/-! ### targets -/
theorem noStarEach {e : Expr} (h : noStar e = true) (es : List Expr) (env : Env) : assignEach (e :: es) env = (false, assign e env) :: assignEach es env := by
  cases e <;> first | rfl | simp [noStar] at h
theorem chkT_noStar : ∀ {t : T} {a : Expr}, chkT c pr t a = true → noStar a = true
  | .slot i, a, h => by cases a <;> simp [chkT] at h <;> rfl
  | .tup ts, a, h => by cases a <;> simp [chkT] at h <;> rfl
theorem chkTl_each (env : Env) : ∀ {ts : List T} {as : List Expr}, chkTl c pr ts as = true → (assignEach as env).length = ts.length ∧ (assignEach as env).findIdx? (·.1) = none
  | [], [], _ => ⟨rfl, rfl⟩
  | t :: ts, a :: as, h => by
    simp only [chkTl, Bool.and_eq_true] at h
    obtain ⟨h1, h2⟩ := chkTl_each env h.2
    rw [noStarEach (chkT_noStar h.1)]
    refine ⟨by simp [h1], ?_⟩
    rw [List.findIdx?_cons]
    simp [h2]
  | [], _ :: _, h => by simp [chkTl] at h
  | _ :: _, [], h => by simp [chkTl] at h
mutual
theorem chkT_ok (o : CkOk c X W mg call) : ∀ (t : T) (a : Expr), chkT c pr t a = true → PG X a (gT X.K mg pr t)
  | .slot i, a, h => by
    cases a <;> simp only [chkT, Bool.and_eq_true, Bool.not_eq_true', Bool.false_eq_true] at h
    obtain ⟨h1, h2, h3⟩ := o.sto h.1
    exact pgT_slot h.2 (pg_name o.nd h1 h2 h3)
  | .tup ts, a, h => by
    cases a <;> simp only [chkT, Bool.false_eq_true] at h
    obtain ⟨h1, h2⟩ := chkTl_each X.env h
    exact pgT_tup o.calm (chkTl_ok o ts _ h) h1 h2
theorem chkTl_ok (o : CkOk c X W mg call) : ∀ (ts : List T) (as : List Expr), chkTl c pr ts as = true → PGs X as (gTs X.K mg pr ts)
  | [], [], _ => pgTs_nil
  | t :: ts, a :: as, h => by
    simp only [chkTl, Bool.and_eq_true] at h
    exact pgTs_cons (chkT_ok o t a h.1) (chkTl_ok o ts as h.2) (by rw [noStarEach (chkT_noStar h.1)]; rfl)
  | [], _ :: _, h => by simp [chkTl] at h
  | _ :: _, [], h => by simp [chkTl] at h
end
end
end VI

namespace L2
open PySem PySem.Spec PyProof.Rows L2
section
variable {P : Program} {w : World} {A : Around} {E : Value → Shared → Prop} {s : Shared}
end
end L2


namespace L2
open PySem PySem.Spec PyProof.Rows L2
def keyS (e : Int × Value) : Str := match e.2 with | .str k _ => k | _ => Str.empty
def GoodT (w : World) (e : Int × Value) : Prop := ∃ k tk, e.2 = Value.str k tk ∧ e.1 = hashStr w k
def SetT (w : World) (h : Heap) (a : Addr) (S : Str → Bool) (n : Nat) : Prop :=
  ∃ o es ep t, h.get? a = some o ∧ o.ExactSet ∧ o.data = .set es ep t ∧ (∀ e ∈ es.toList, GoodT w e) ∧ (es.toList.map keyS).Nodup ∧ (∀ k, S k = true ↔ k ∈ es.toList.map keyS) ∧
    es.size < scanBound ∧ t.fits es.size = true ∧ es.size = n ∧ Ris t.place.toList ∧ (w.params.followText "set-order" = true ∨ t.led = true)

section
variable {P : Program} {w : World} {h h' : Heap} {a : Addr} {S : Str → Bool} {n : Nat}

theorem SetT.at (R : SetT w h a S n) (k : ∀ o, h.get? a = some o → h'.get? a = some o) : SetT w h' a S n := by
  obtain ⟨o, es, ep, t, ho, r⟩ := R
  exact ⟨o, es, ep, t, k o ho, r⟩
theorem SetT.lt (R : SetT w h a S n) : a < h.objs.size := by
  obtain ⟨o, es, ep, t, ho, r⟩ := R
  exact Heap.lt_size ho
theorem SetT.congr {S' : Str → Bool} (R : SetT w h a S n) (e : ∀ k, S' k = S k) : SetT w h a S' n := by
  have q : S' = S := funext e
  rw [q]; exact R
end

section
variable {P : Program} {w : World} {A : Around} {E : Value → Shared → Prop} {s : Shared} {a : Addr} {S : Str → Bool} {n : Nat}

/-! ### add -/
end
section
variable {P : Program} {w : World} {A : Around} {E : Value → Shared → Prop} {s : Shared}
end
end L2

namespace L2
open PySem PySem.Spec PyProof.Rows L2
section
variable {P : Program} {w : World} {A : Around} {E : Value → Shared → Prop} {s : Shared} {a : Addr}
end
section
variable {X : Cx}
end
end L2

namespace L2
open PySem PySem.Spec PyProof.Rows L2
section
variable {X : Cx}
end
end L2

namespace VI
open PySem PySem.Spec PyProof.Rows L2
end VI

namespace VI
variable [Tn]
open PySem PySem.Spec PyProof.Rows L2
section
variable {X : Cx} {mg : Str → Option Value} {call : CallT} {W : WX}
end
end VI

set_option maxHeartbeats 1000000
namespace PySem
open Sem (wp)
section
variable {prog : Program} {w : World} {A : Around} {E : Value → Shared → Prop} {s : Shared}
theorem VI_alive {a : Addr} {Q : Option Obj → Shared → Prop} (h : Q (s.heap.get? a) s) : wpAny (model prog w) A (loadIfAlive a) Q E s := fun Γ p _ => h
abbrev IsZipN (h : Heap) (z TI TO : Addr) (f0 f1 : Value) : Prop :=
  h.get? z = some { cls := .type "zip", dict := none, data := .fields #[f0, f1, .bool false, .ref TI, .ref TO], slots := #[] }
def ZSt (h : Heap) (z TI TO : Addr) : Prop := ∃ f0 f1, IsZipN h z TI TO f0 f1 ∧ (f0 = .none ∨ ∃ T : Addr, f0 = rawInt T)
abbrev ZQ (h : Heap) (z TI TO i1 i2 l1 l2 : Addr) (k1 k2 : Nat) (x y : Value) (Q : Value → Shared → Prop) (s : Shared) : Prop := ∀ h', ZSt h' z TI TO → (∃ a b, IsPair h' TO a b) → h'.IsListIter i1 l1 (k1 + 1) → h'.IsListIter i2 l2 (k2 + 1) → IsPair h' s.heap.objs.size x y → h'.objs.size = s.heap.objs.size + 1 →
      (∀ c o, c ≠ z → c ≠ TO → c ≠ i1 → c ≠ i2 → h.get? c = some o → h'.get? c = some o) → Q (.ref s.heap.objs.size) { s with heap := h' }
theorem zip_next_itemN {z TI TO i1 i2 l1 l2 : Addr} {k1 k2 : Nat} {xs ys : Array Value} {x y : Value} {Q : Value → Shared → Prop} (D : ZipApart z TI TO i1 i2 l1 l2)
    (hz : ZSt s.heap z TI TO) (hTI : IsPair s.heap TI (.ref i1) (.ref i2)) (hTO : ∃ a b, IsPair s.heap TO a b)
    (h1 : s.heap.IsListIter i1 l1 k1) (h2 : s.heap.IsListIter i2 l2 k2) (hl1 : s.heap.IsList l1 xs) (hl2 : s.heap.IsList l2 ys) (hx : xs[k1]? = some x) (hy : ys[k2]? = some y)
    (hQ : ZQ s.heap z TI TO i1 i2 l1 l2 k1 k2 x y Q s) :
    wpAny (model prog w) A (Builtin.«zip.__next__» ⟨[.ref z], []⟩) (fun fin s' => ∃ v, fin = .done (.ret v) ∧ Q v s') E s := by
  obtain ⟨f0, f1, hz, hf⟩ := hz
  obtain ⟨a, b, hTO⟩ := hTO
  show wpAny _ _ (field (.ref z) 2 >>= _) _ _ _
  refine wpAny_bind (wpAny_field hz rfl (x := .bool false) rfl ?_)
  show wpAny _ _ (field (.ref z) 3 >>= _) _ _ _
  refine wpAny_bind (wpAny_field hz rfl (x := .ref TI) rfl ?_)
  refine wpAny_bind (wpAny_seqItems hTI rfl ?_)
  show wpAny _ _ (Builtin.SmallTypes.ownedTupleIsFree (.ref z) >>= _) _ _ _
  have key : wpAny (model prog w) A (Builtin.SmallTypes.ownedTupleIsFree (.ref z)) (fun b s1 => (b = true ∧ s1 = s) ∨ (b = false ∧ ∃ h' f1', IsZipN h' z TI TO f0 f1' ∧ Heap.SameBut z s.heap h' ∧ s1 = { s with heap := h' })) E s := by
    unfold Builtin.SmallTypes.ownedTupleIsFree
    refine wpAny_bind (wpAny_field hz rfl (x := f0) rfl ?_)
    rcases hf with rfl | ⟨T, rfl⟩
    · exact wpAny_pure (.inl ⟨rfl, rfl⟩)
    · show wpAny _ _ (loadIfAlive _ >>= _) _ _ _
      refine wpAny_bind (VI_alive ?_)
      cases (s.heap.get? (T : Int).toNat) with
      | none => exact wpAny_pure (.inl ⟨rfl, rfl⟩)
      | some o =>
        show wpAny _ _ (field (.ref z) 1 >>= _) _ _ _
        refine wpAny_bind (wpAny_field hz rfl (x := f1) rfl ?_)
        by_cases hb : (f1 != .bool true) = true
        · rw [if_pos hb]
          refine wpAny_bind (wpAny_setField_rec hz (by simp) fun h₁ hz₁ hs₁ => ?_)
          exact wpAny_pure (.inr ⟨rfl, h₁, .bool true, hz₁, hs₁, rfl⟩)
        · rw [if_neg hb]
          exact wpAny_bind (wpAny_pure (wpAny_pure (.inr ⟨rfl, s.heap, f1, hz, Heap.SameBut.refl _ _, rfl⟩)))
  refine wpAny_bind (wpAny_mono key ?_ fun _ _ x => x)
  · rintro bb s1 (⟨rfl, rfl⟩ | ⟨rfl, h', f1', hz', hs', rfl⟩)
    · rw [if_pos rfl]
      obtain ⟨hp, hgn, hd, tk, os⟩ := s1
      refine wpAny_bind (wpAny_rule ?_)
      refine wpAny_bind (wpAny_field hz rfl (x := .ref TO) rfl ?_)
      refine wpAny_bind (wpAny_setField_rec hz (by simp) fun h₁ hz₁ hs₁ => ?_)
      replace hz₁ : IsZipN h₁ z TI TO .ellipsis f1 := hz₁
      refine wpAny_bind ?_
      simp only [List.zipIdx_cons, List.zipIdx_nil, List.forIn_cons, List.forIn_nil]
      refine wpAny_bind (wpAny_bind (wpAny_onRaise ?_))
      show wpAny _ _ (Builtin.SmallTypes.nextOf (.ref i1) >>= _) _ _ _
      refine wpAny_bind (wpAny_nextOf_list_item (h1.extBut hs₁.extBut D.i1z) (hl1.extBut hs₁.extBut D.l1z) hx fun h₂ h1₂ hs₂ => wpAny_pure ?_)
      have hTO₂ : IsPair h₂ TO a b := hs₂.extBut _ _ D.TOi1 (hs₁.extBut _ _ D.TOz hTO)
      refine wpAny_bind (wpAny_seqItems hTO₂ rfl ?_)
      refine wpAny_bind (wpAny_updateSeq_pair hTO₂ fun h₃ hTO₃ hs₃ => ?_)
      replace hTO₃ : IsPair h₃ TO x b := hTO₃
      refine wpAny_bind (wpAny_letGo (wpAny_pure ?_))
      refine wpAny_bind (wpAny_bind (wpAny_onRaise ?_))
      show wpAny _ _ (Builtin.SmallTypes.nextOf (.ref i2) >>= _) _ _ _
      refine wpAny_bind (wpAny_nextOf_list_item (((h2.extBut hs₁.extBut D.i2z).extBut hs₂.extBut D.i12.symm).extBut hs₃.extBut D.TOi2.symm)
        (((hl2.extBut hs₁.extBut D.l2z).extBut hs₂.extBut D.l2i1).extBut hs₃.extBut D.l2TO) hy fun h₄ h2₄ hs₄ => wpAny_pure ?_)
      have hTO₄ : IsPair h₄ TO x b := hs₄.extBut _ _ D.TOi2 hTO₃
      refine wpAny_bind (wpAny_seqItems hTO₄ rfl ?_)
      refine wpAny_bind (wpAny_updateSeq_pair hTO₄ fun h₅ hTO₅ hs₅ => ?_)
      replace hTO₅ : IsPair h₅ TO x y := hTO₅
      refine wpAny_bind (wpAny_letGo (wpAny_pure (wpAny_pure ?_)))
      refine wpAny_bind (wpAny_seqItems hTO₅ rfl ?_)
      refine wpAny_bind (wpAny_newTuple ?_)
      have hsz : h₅.objs.size = hp.objs.size := by rw [hs₅.1, hs₄.1, hs₃.1, hs₂.1, hs₁.1]
      have hz₅ : IsZipN h₅ z TI TO .ellipsis f1 := hs₅.extBut _ _ D.TOz.symm (hs₄.extBut _ _ D.i2z.symm (hs₃.extBut _ _ D.TOz.symm (hs₂.extBut _ _ D.i1z.symm hz₁)))
      have hk₅ : ∀ c o, c ≠ z → c ≠ TO → c ≠ i1 → c ≠ i2 → hp.get? c = some o → h₅.get? c = some o := fun c o c1 c2 c3 c4 e =>
        hs₅.extBut _ _ c2 (hs₄.extBut _ _ c4 (hs₃.extBut _ _ c2 (hs₂.extBut _ _ c3 (hs₁.extBut _ _ c1 e))))
      have h1₅ : h₅.IsListIter i1 l1 (k1 + 1) := ((h1₂.extBut hs₃.extBut D.TOi1.symm).extBut hs₄.extBut D.i12).extBut hs₅.extBut D.TOi1.symm
      have h2₅ : h₅.IsListIter i2 l2 (k2 + 1) := h2₄.extBut hs₅.extBut D.TOi2.symm
      have hzlt : z < h₅.objs.size := Heap.lt_size hz₅
      have hTOlt : TO < h₅.objs.size := Heap.lt_size hTO₅
      have hi1lt : i1 < h₅.objs.size := by obtain ⟨_, e, _⟩ := h1₅; exact Heap.lt_size e
      have hi2lt : i2 < h₅.objs.size := by obtain ⟨_, e, _⟩ := h2₅; exact Heap.lt_size e
      show wpAny _ _ (Builtin.SmallTypes.ownedTupleHandOut (.ref z) (.ref h₅.objs.size) >>= _) _ _ _
      refine wpAny_bind ?_
      unfold Builtin.SmallTypes.ownedTupleHandOut
      have hz₆ : IsZipN (h₅.push { cls := .type "tuple", data := .seq #[x, y] }) z TI TO .ellipsis f1 := Heap.get?_push_of_some _ hz₅
      refine wpAny_bind (wpAny_setField_rec hz₆ (by simp) fun h₇ hz₇ hs₇ => ?_)
      replace hz₇ : IsZipN h₇ z TI TO (rawInt h₅.objs.size) f1 := hz₇
      refine wpAny_setField_rec hz₇ (by simp) fun h₈ hz₈ hs₈ => ?_
      replace hz₈ : IsZipN h₈ z TI TO (rawInt h₅.objs.size) (.bool false) := hz₈
      have up : ∀ c o, c ≠ z → h₅.get? c = some o → h₈.get? c = some o := fun c o c1 e => hs₈.extBut _ _ c1 (hs₇.extBut _ _ c1 (Heap.get?_push_of_some _ e))
      have hT₈ : IsPair h₈ h₅.objs.size x y := hs₈.extBut _ _ (Nat.ne_of_gt hzlt) (hs₇.extBut _ _ (Nat.ne_of_gt hzlt) (Heap.get?_push_size _ rfl))
      have hz8 : h₈.objs.size = h₅.objs.size + 1 := by rw [hs₈.1, hs₇.1, Heap.size_push]
      rw [hsz] at hz₈ hT₈ hz8
      refine wpAny_pure ⟨_, rfl, ?_⟩
      show Q (.ref h₅.objs.size) _
      rw [hsz]
      exact hQ h₈ ⟨_, _, hz₈, .inr ⟨_, rfl⟩⟩ ⟨_, _, up _ _ D.TOz hTO₅⟩ (h1₅.at fun o e => up _ o D.i1z e) (h2₅.at fun o e => up _ o D.i2z e) hT₈ hz8 fun c o c1 c2 c3 c4 e => up c o c1 (hk₅ c o c1 c2 c3 c4 e)
    · rw [if_neg (by simp)]
      obtain ⟨hp, hgn, hd, tk, os⟩ := s
      replace hz₁ : IsZipN h' z TI TO f0 f1' := hz'
      simp only [List.forIn_toArray, List.forIn_cons, List.forIn_nil]
      refine wpAny_bind (wpAny_bind (wpAny_bind (wpAny_holding ?_)))
      show wpAny _ _ (Builtin.SmallTypes.nextOf (.ref i1) >>= _) _ _ _
      refine wpAny_bind (wpAny_nextOf_list_item (h1.extBut hs'.extBut D.i1z) (hl1.extBut hs'.extBut D.l1z) hx fun h₂ h1₂ hs₂ => wpAny_pure ?_)
      refine wpAny_pure ?_
      refine wpAny_bind (wpAny_bind (wpAny_holding ?_))
      show wpAny _ _ (Builtin.SmallTypes.nextOf (.ref i2) >>= _) _ _ _
      refine wpAny_bind (wpAny_nextOf_list_item ((h2.extBut hs'.extBut D.i2z).extBut hs₂.extBut D.i12.symm)
        ((hl2.extBut hs'.extBut D.l2z).extBut hs₂.extBut D.l2i1) hy fun h₄ h2₄ hs₄ => wpAny_pure ?_)
      refine wpAny_pure (wpAny_pure ?_)
      show wpAny _ _ (newTuple [x, y] >>= _) _ _ _
      refine wpAny_bind (wpAny_newTuple ?_)
      have hsz : h₄.objs.size = hp.objs.size := by rw [hs₄.1, hs₂.1, hs'.1]
      have hz₄ : IsZipN h₄ z TI TO f0 f1' := hs₄.extBut _ _ D.i2z.symm (hs₂.extBut _ _ D.i1z.symm hz')
      have hk₄ : ∀ c o, c ≠ z → c ≠ i1 → c ≠ i2 → hp.get? c = some o → h₄.get? c = some o := fun c o c1 c3 c4 e =>
        hs₄.extBut _ _ c4 (hs₂.extBut _ _ c3 (hs'.extBut _ _ c1 e))
      have h1₄ : h₄.IsListIter i1 l1 (k1 + 1) := h1₂.extBut hs₄.extBut D.i12
      refine wpAny_pure ⟨_, rfl, ?_⟩
      have e0 : ({ cls := .type "tuple", data := .seq ([x, y] : List Value).toArray } : Obj) = { cls := .type "tuple", data := .seq #[x, y] } := rfl
      have up : ∀ c o, h₄.get? c = some o → (h₄.push { cls := .type "tuple", data := .seq #[x, y] }).get? c = some o := fun c o e => Heap.get?_push_of_some _ e
      have hT := Heap.get?_push_size h₄ (o := { cls := .type "tuple", data := .seq #[x, y] }) rfl
      have hs8 := Heap.size_push h₄ { cls := .type "tuple", data := .seq #[x, y] }
      show Q (.ref h₄.objs.size) _
      rw [hsz] at hT hs8 ⊢
      exact hQ (h₄.push { cls := .type "tuple", data := .seq #[x, y] }) ⟨_, _, up _ _ hz₄, hf⟩ ⟨_, _, up _ _ (hk₄ _ _ D.TOz D.TOi1 D.TOi2 hTO)⟩ (h1₄.at fun o e => up _ o e) (h2₄.at fun o e => up _ o e) hT hs8 fun c o c1 c2 c3 c4 e => up c o (hk₄ c o c1 c3 c4 e)
theorem zip_freeN {z TI TO : Addr} (hz : ZSt s.heap z TI TO) : ∃ f0 f1, IsZipN s.heap z TI TO f0 f1 ∧ (f0 = .none ∨ ∃ T : Addr, f0 = rawInt T) ∧ wpAny (model prog w) A (Builtin.SmallTypes.ownedTupleIsFree (.ref z)) (fun b s1 => (b = true ∧ s1 = s) ∨ (b = false ∧ ∃ h' f1', IsZipN h' z TI TO f0 f1' ∧ Heap.SameBut z s.heap h' ∧ s1 = { s with heap := h' })) E s := by
  obtain ⟨f0, f1, hz, hf⟩ := hz
  refine ⟨f0, f1, hz, hf, ?_⟩
  unfold Builtin.SmallTypes.ownedTupleIsFree
  refine wpAny_bind (wpAny_field hz rfl (x := f0) rfl ?_)
  rcases hf with rfl | ⟨T, rfl⟩
  · exact wpAny_pure (.inl ⟨rfl, rfl⟩)
  · show wpAny _ _ (loadIfAlive _ >>= _) _ _ _
    refine wpAny_bind (VI_alive ?_)
    cases (s.heap.get? (T : Int).toNat) with
    | none => exact wpAny_pure (.inl ⟨rfl, rfl⟩)
    | some o =>
      show wpAny _ _ (field (.ref z) 1 >>= _) _ _ _
      refine wpAny_bind (wpAny_field hz rfl (x := f1) rfl ?_)
      by_cases hb : (f1 != .bool true) = true
      · rw [if_pos hb]
        refine wpAny_bind (wpAny_setField_rec hz (by simp) fun h₁ hz₁ hs₁ => ?_)
        exact wpAny_pure (.inr ⟨rfl, h₁, .bool true, hz₁, hs₁, rfl⟩)
      · rw [if_neg hb]
        exact wpAny_bind (wpAny_pure (wpAny_pure (.inr ⟨rfl, s.heap, f1, hz, Heap.SameBut.refl _ _, rfl⟩)))
theorem zip_next_endN {z TI TO i1 i2 l1 l2 : Addr} {k1 k2 : Nat} {xs ys : Array Value} {Q : Fin → Shared → Prop} (hh : A.handled = none) (D : ZipApart z TI TO i1 i2 l1 l2)
    (hz : ZSt s.heap z TI TO) (hTI : IsPair s.heap TI (.ref i1) (.ref i2)) (hTO : ∃ a b, IsPair s.heap TO a b)
    (h1 : s.heap.IsListIter i1 l1 k1) (h2 : s.heap.IsListIter i2 l2 k2) (hl1 : s.heap.IsList l1 xs) (hl2 : s.heap.IsList l2 ys) (hend : xs[k1]? = none ∨ ys[k2]? = none)
    (hE : ∀ h' e, (∀ c o, c ≠ z → c ≠ TO → c ≠ i1 → c ≠ i2 → s.heap.get? c = some o → h'.get? c = some o) → (∃ o, h'.get? e = some o ∧ o.cls = .type "StopIteration") → E (.ref e) { s with heap := h' }) :
    wpAny (model prog w) A (Builtin.«zip.__next__» ⟨[.ref z], []⟩) Q E s := by
  obtain ⟨f0, f1, hz, hf, key⟩ := zip_freeN (prog := prog) (w := w) (A := A) (E := E) hz
  obtain ⟨a, b, hTO⟩ := hTO
  show wpAny _ _ (field (.ref z) 2 >>= _) _ _ _
  refine wpAny_bind (wpAny_field hz rfl (x := .bool false) rfl ?_)
  show wpAny _ _ (field (.ref z) 3 >>= _) _ _ _
  refine wpAny_bind (wpAny_field hz rfl (x := .ref TI) rfl ?_)
  refine wpAny_bind (wpAny_seqItems hTI rfl ?_)
  show wpAny _ _ (Builtin.SmallTypes.ownedTupleIsFree (.ref z) >>= _) _ _ _
  refine wpAny_bind (wpAny_mono key ?_ fun _ _ x => x)
  rintro bb s1 (⟨rfl, rfl⟩ | ⟨rfl, h', f1', hz', hs', rfl⟩)
  · rw [if_pos rfl]
    obtain ⟨hp, hgn, hd, tk, os⟩ := s1
    refine wpAny_bind (wpAny_rule ?_)
    refine wpAny_bind (wpAny_field hz rfl (x := .ref TO) rfl ?_)
    refine wpAny_bind (wpAny_setField_rec hz (by simp) fun h₁ hz₁ hs₁ => ?_)
    replace hz₁ : IsZipN h₁ z TI TO .ellipsis f1 := hz₁
    refine wpAny_bind ?_
    simp only [List.zipIdx_cons, List.zipIdx_nil, List.forIn_cons, List.forIn_nil]
    refine wpAny_bind (wpAny_bind (wpAny_onRaise ?_))
    show wpAny _ _ (Builtin.SmallTypes.nextOf (.ref i1) >>= _) _ _ _
    cases hx : xs[k1]? with
    | none =>
      refine wpAny_bind (wpAny_nextOf_list_end hh (h1.extBut hs₁.extBut D.i1z) (hl1.extBut hs₁.extBut D.l1z) hx fun h₂ e hs₂ he => ?_)
      obtain ⟨oe, hoe, hce⟩ := he
      have hz₂ : IsZipN h₂ z TI TO .ellipsis f1 := hs₂ _ _ D.i1z.symm hz₁
      have hez : e ≠ z := fun x => by subst x; rw [hz₂] at hoe; cases hoe; simp at hce
      refine wpAny_setField_rec hz₂ (by simp) fun h₃ _ hs₃ => hE h₃ e (fun c o c1 _ c3 _ x => hs₃.extBut _ _ c1 (hs₂ _ _ c3 (hs₁.extBut _ _ c1 x))) ⟨oe, hs₃.extBut _ _ hez hoe, hce⟩
    | some x =>
      have hy : ys[k2]? = none := by rcases hend with h | h; rw [hx] at h; cases h; exact h
      refine wpAny_bind (wpAny_nextOf_list_item (h1.extBut hs₁.extBut D.i1z) (hl1.extBut hs₁.extBut D.l1z) hx fun h₂ h1₂ hs₂ => wpAny_pure ?_)
      have hTO₂ : IsPair h₂ TO a b := hs₂.extBut _ _ D.TOi1 (hs₁.extBut _ _ D.TOz hTO)
      refine wpAny_bind (wpAny_seqItems hTO₂ rfl ?_)
      refine wpAny_bind (wpAny_updateSeq_pair hTO₂ fun h₃ hTO₃ hs₃ => ?_)
      refine wpAny_bind (wpAny_letGo (wpAny_pure ?_))
      refine wpAny_bind (wpAny_bind (wpAny_onRaise ?_))
      show wpAny _ _ (Builtin.SmallTypes.nextOf (.ref i2) >>= _) _ _ _
      refine wpAny_bind (wpAny_nextOf_list_end hh (((h2.extBut hs₁.extBut D.i2z).extBut hs₂.extBut D.i12.symm).extBut hs₃.extBut D.TOi2.symm)
        (((hl2.extBut hs₁.extBut D.l2z).extBut hs₂.extBut D.l2i1).extBut hs₃.extBut D.l2TO) hy fun h₄ e hs₄ he => ?_)
      obtain ⟨oe, hoe, hce⟩ := he
      have hz₄ : IsZipN h₄ z TI TO .ellipsis f1 := hs₄ _ _ D.i2z.symm (hs₃.extBut _ _ D.TOz.symm (hs₂.extBut _ _ D.i1z.symm hz₁))
      have hez : e ≠ z := fun x => by subst x; rw [hz₄] at hoe; cases hoe; simp at hce
      refine wpAny_setField_rec hz₄ (by simp) fun h₅ _ hs₅ => hE h₅ e (fun c o c1 c2 c3 c4 x => hs₅.extBut _ _ c1 (hs₄ _ _ c4 (hs₃.extBut _ _ c2 (hs₂.extBut _ _ c3 (hs₁.extBut _ _ c1 x))))) ⟨oe, hs₅.extBut _ _ hez hoe, hce⟩
  · rw [if_neg (by simp)]
    obtain ⟨hp, hgn, hd, tk, os⟩ := s
    simp only [List.forIn_toArray, List.forIn_cons, List.forIn_nil]
    refine wpAny_bind (wpAny_bind (wpAny_bind (wpAny_holding ?_)))
    show wpAny _ _ (Builtin.SmallTypes.nextOf (.ref i1) >>= _) _ _ _
    cases hx : xs[k1]? with
    | none =>
      refine wpAny_bind (wpAny_nextOf_list_end hh (h1.extBut hs'.extBut D.i1z) (hl1.extBut hs'.extBut D.l1z) hx fun h₂ e hs₂ he => ?_)
      exact hE h₂ e (fun c o c1 _ c3 _ x => hs₂ _ _ c3 (hs'.extBut _ _ c1 x)) he
    | some x =>
      have hy : ys[k2]? = none := by rcases hend with h | h; rw [hx] at h; cases h; exact h
      refine wpAny_bind (wpAny_nextOf_list_item (h1.extBut hs'.extBut D.i1z) (hl1.extBut hs'.extBut D.l1z) hx fun h₂ h1₂ hs₂ => wpAny_pure ?_)
      refine wpAny_pure ?_
      refine wpAny_bind (wpAny_bind (wpAny_holding ?_))
      show wpAny _ _ (Builtin.SmallTypes.nextOf (.ref i2) >>= _) _ _ _
      refine wpAny_bind (wpAny_nextOf_list_end hh ((h2.extBut hs'.extBut D.i2z).extBut hs₂.extBut D.i12.symm)
        ((hl2.extBut hs'.extBut D.l2z).extBut hs₂.extBut D.l2i1) hy fun h₄ e hs₄ he => ?_)
      exact hE h₄ e (fun c o c1 c2 c3 c4 x => hs₄ _ _ c4 (hs₂.extBut _ _ c3 (hs'.extBut _ _ c1 x))) he
theorem wpAny_pyNext_zip_itemN {z TI TO i1 i2 l1 l2 : Addr} {k1 k2 : Nat} {xs ys : Array Value} {x y : Value} {Q : Option Value → Shared → Prop} (D : ZipApart z TI TO i1 i2 l1 l2)
    (hz : ZSt s.heap z TI TO) (hTI : IsPair s.heap TI (.ref i1) (.ref i2)) (hTO : ∃ a b, IsPair s.heap TO a b)
    (h1 : s.heap.IsListIter i1 l1 k1) (h2 : s.heap.IsListIter i2 l2 k2) (hl1 : s.heap.IsList l1 xs) (hl2 : s.heap.IsList l2 ys) (hx : xs[k1]? = some x) (hy : ys[k2]? = some y)
    (hQ : ZQ s.heap z TI TO i1 i2 l1 l2 k1 k2 x y (fun v s' => Q (some v) s') s) :
    wpAny (model prog w) A (pyNext (.ref z)) Q E s := by
  obtain ⟨f0, f1, hz0, _⟩ := id hz
  have hT : s.TypeIs (.ref z) "zip" := ⟨_, hz0, rfl⟩
  unfold pyNext
  exact wpAny_bind (wpAny_attempt (wpAny_callSpecial?_slot (name := Str.ofString "__next__") hT F.slot_zip_next
    (wpAny_call_entry F.slot_zip_next hT F.entry_zip_next
      (zip_next_itemN D hz hTI hTO h1 h2 hl1 hl2 hx hy fun h' a1 a2 a3 a4 a5 a6 a7 => wpAny_pure (hQ h' a1 a2 a3 a4 a5 a6 a7)) (F.args_zip_next_1 _))))
theorem wpAny_pyNext_zip_endN {z TI TO i1 i2 l1 l2 : Addr} {k1 k2 : Nat} {xs ys : Array Value} {Q : Option Value → Shared → Prop} (hh : A.handled = none) (D : ZipApart z TI TO i1 i2 l1 l2)
    (hz : ZSt s.heap z TI TO) (hTI : IsPair s.heap TI (.ref i1) (.ref i2)) (hTO : ∃ a b, IsPair s.heap TO a b)
    (h1 : s.heap.IsListIter i1 l1 k1) (h2 : s.heap.IsListIter i2 l2 k2) (hl1 : s.heap.IsList l1 xs) (hl2 : s.heap.IsList l2 ys) (hend : xs[k1]? = none ∨ ys[k2]? = none)
    (hQ : ∀ h', (∀ c o, c ≠ z → c ≠ TO → c ≠ i1 → c ≠ i2 → s.heap.get? c = some o → h'.get? c = some o) → Q none { s with heap := h' }) : wpAny (model prog w) A (pyNext (.ref z)) Q E s := by
  obtain ⟨f0, f1, hz0, _⟩ := id hz
  have hT : s.TypeIs (.ref z) "zip" := ⟨_, hz0, rfl⟩
  unfold pyNext
  refine wpAny_bind (wpAny_attempt (wpAny_callSpecial?_slot (name := Str.ofString "__next__") hT F.slot_zip_next
    (wpAny_call_entry F.slot_zip_next hT F.entry_zip_next (zip_next_endN hh D hz hTI hTO h1 h2 hl1 hl2 hend fun h' e hk he => ?_) (F.args_zip_next_1 _))))
  obtain ⟨o, ho, hc⟩ := he
  refine wpAny_bind (wpAny_isInstance (T := "StopIteration") (b := true) ⟨o, ho, hc⟩ isSubtype_stop ?_)
  exact wpAny_pure (hQ _ hk)
theorem wpAny_pyIter_zipN {z TI TO : Addr} {f0 f1 : Value} {Q : Value → Shared → Prop} (hz : IsZipN s.heap z TI TO f0 f1) (h : Q (.ref z) s) : wpAny (model prog w) A (pyIter (.ref z)) Q E s := by
  have hT : s.TypeIs (.ref z) "zip" := ⟨_, hz, rfl⟩
  refine wpAny_pyIter_slot hT F.slot_zip_iter (wpAny_call_entry F.slot_zip_iter hT F.entry_zip_iter ?_ (F.args_zip_iter_1 _))
  show wpAny _ _ (ret (.ref z)) _ _ s
  exact wpAny_pure ⟨_, rfl, "zip", _, hT, F.slot_zip_next.lookup, h⟩
end
end PySem
namespace VI
variable [Tn]
open PySem PySem.Spec PyProof.Rows L2
theorem turn_zipN {P : Program} {w : World} {K : PySem.W.Frag} {nx : Str} {npos : Pos} {a b z TI TO i1 i2 : Addr} (D : ZipApart z TI TO i1 i2 a b) :
    Turn P w K (.Name nx npos) (Itz K a b) [z, TI, TO, i1, i2] z (fun i h => ZSt h z TI TO ∧ IsPair h TI (.ref i1) (.ref i2) ∧ (∃ x y, IsPair h TO x y) ∧ h.IsListIter i1 a i ∧ h.IsListIter i2 b i) where
  mem := by simp
  obj := fun i h st c hc => by
    obtain ⟨⟨f0, f1, hz, _⟩, hTI, ⟨x, y, hTO⟩, ⟨o1, e1, _, d1⟩, ⟨o2, e2, _, d2⟩⟩ := st
    have e' : c = z ∨ c = TI ∨ c = TO ∨ c = i1 ∨ c = i2 := by simpa using hc
    rcases e' with q | q | q | q | q
    · rw [q]; exact ⟨_, hz, fun v q => nomatch q⟩
    · rw [q]; exact ⟨_, hTI, fun v q => nomatch q⟩
    · rw [q]; exact ⟨_, hTO, fun v q => nomatch q⟩
    · rw [q]; exact ⟨o1, e1, fun v q => by rw [d1] at q; cases q⟩
    · rw [q]; exact ⟨o2, e2, fun v q => by rw [d2] at q; cases q⟩
  keep := fun i h h' st k => by
    obtain ⟨⟨f0, f1, hz, hf⟩, hTI, ⟨x, y, hTO⟩, h1, h2⟩ := st
    exact ⟨⟨f0, f1, k z (by simp) _ hz, hf⟩, k TI (by simp) _ hTI, ⟨x, y, k TO (by simp) _ hTO⟩, h1.at fun o q => k i1 (by simp) o q, h2.at fun o q => k i2 (by simp) o q⟩
  item := by
    intro X hP hw hK hc i pins s σ H E I hf st hg
    subst hP hw hK
    obtain ⟨hz, hTI, hTO, h1, h2⟩ := st
    obtain ⟨xs, ys, x, y, hqx, hqy, hx, hy⟩ := hg
    obtain ⟨its, rv, p, _⟩ := I.list hqx
    obtain ⟨its2, rv2, p2, _⟩ := I.list hqy
    obtain ⟨u, hu, ru⟩ := rv.get hx
    obtain ⟨u2, hu2, ru2⟩ := rv2.get hy
    have hzl : z < s.heap.objs.size := by obtain ⟨f0, f1, hz0, _⟩ := id hz; exact Heap.lt_size hz0
    have hTOl : TO < s.heap.objs.size := by obtain ⟨_, _, q⟩ := id hTO; exact Heap.lt_size q
    refine wpAny_pyNext_zip_itemN D hz hTI hTO h1 h2 p.isList p2.isList (x := u) (y := u2) (by simpa using hu) (by simpa using hu2) fun h' z' TO' h1' h2' hT hsz hk => ?_
    refine ⟨_, rfl, wpAny_of_eq (rfl : letOwnedTupleGo (.Name nx npos) (.ref z) (.ref s.heap.objs.size) = pure ()) ?_⟩
    have new : ObjOk X.prog X.w (upd H s.heap.objs.size (.tup [x, y])) h' s.heap.objs.size (.tup [x, y]) :=
      ⟨by show 2 ≤ sizeLine; decide, [u, u2], .cons ru (.cons ru2 .nil), ⟨_, hT, rfl, _, rfl⟩⟩
    have I1 : Inv X pins σ (upd H s.heap.objs.size (.tup [x, y])) { s with heap := h' } :=
      I.turnedNew (t' := s.toks) (ch := [z, TI, TO, i1, i2]) (fun c o hb q => hk c o (fun q' => hb (by simp [q'])) (fun q' => hb (by simp [q'])) (fun q' => hb (by simp [q'])) (fun q' => hb (by simp [q'])) q) hf (Nat.le_refl _) new
    refine ⟨.ref s.heap.objs.size, _, I1, rfl, ⟨_, x, y, rfl, I.hok.fresh (Nat.le_refl _), rfl, fun l hl => by rw [I.list_inj hl hqx]; exact hx, fun l hl => by rw [I.list_inj hl hqy]; exact hy⟩, ⟨z', hk _ _ D.TIz D.TITO D.TIi1 D.TIi2 hTI, TO', h1', h2'⟩, fun c hcm => ?_⟩
    have hlt : c < s.heap.objs.size := by
      have e' : c = z ∨ c = TI ∨ c = TO ∨ c = i1 ∨ c = i2 := by simpa using hcm
      rcases e' with q | q | q | q | q
      · rw [q]; exact hzl
      · rw [q]; exact Heap.lt_size hTI
      · rw [q]; exact hTOl
      · rw [q]; obtain ⟨_, e1, _⟩ := h1; exact Heap.lt_size e1
      · rw [q]; obtain ⟨_, e2, _⟩ := h2; exact Heap.lt_size e2
    rw [upd_ne (Nat.ne_of_lt hlt)]
    exact (hf c hcm).1
  done := by
    intro X hP hw hK hc i pins s σ H E I hf st hg
    subst hP hw hK
    obtain ⟨hz, hTI, hTO, h1, h2⟩ := st
    obtain ⟨xs, ys, hqx, hqy, hend⟩ := hg
    obtain ⟨its, rv, p, _⟩ := I.list hqx
    obtain ⟨its2, rv2, p2, _⟩ := I.list hqy
    have l1 := rv.length
    have l2 := rv2.length
    have he : its.toArray[i]? = none ∨ its2.toArray[i]? = none := by
      rcases hend with q | q
      · exact .inl (by simp; omega)
      · exact .inr (by simp; omega)
    exact wpAny_pyNext_zip_endN (I.ok.hd hc) D hz hTI hTO h1 h2 p.isList p2.isList he fun h' hk => ⟨rfl, I.turnedL (t' := s.toks) (ch := [z, TI, TO, i1, i2]) (fun c o hb q =>
      hk c o (fun q' => hb (by simp [q'])) (fun q' => hb (by simp [q'])) (fun q' => hb (by simp [q'])) (fun q' => hb (by simp [q'])) q) hf⟩
  self := fun A i s Q E st h => let ⟨⟨_, _, hz, _⟩, _⟩ := st; wpAny_pyIter_zipN hz h
theorem pi_zipN {X : Cx} {e e2 : Expr} {ta : TA} {p pos npos : Pos} {nx : Str} (hg : Gl X "zip") (hm : X.mg "zip" = none) (ha : PA X [e, e2] ta)
    (hs : starEach [e, e2] X.env = (false, eval e X.env) :: starEach [e2] X.env := by rfl) (hpl : (backTo pos (starEach [e2] X.env)).any (·.1) = false := by rfl) :
    PI X (.Name nx npos) (.Call (.Name "zip" p) [e, e2] [] pos) (iZip X.K ta) := by
  refine ⟨fun pins s σ H R I h => ?_⟩
  refine Call_ (ld_blt I hg hm PyProof.Rows.boot_zip (PyProof.Rows.callWith_type1 (thn (ha.run pos pins s σ H _ I h) fun us s1 ⟨vs, H1, I1, r1, q1⟩ => ?_) hs hpl))
  obtain ⟨a, b, xs, ys, ex, hqx, hqy, q⟩ := q1
  subst ex
  cases r1 with
  | cons r rr =>
    cases rr with
    | cons r' rr =>
      cases rr
      cases r
      cases r'
      obtain ⟨its, rv, p1, _⟩ := I1.list hqx
      obtain ⟨its2, rv2, p2, _⟩ := I1.list hqy
      have la : a < s1.heap.objs.size := p1.lt
      have lb : b < s1.heap.objs.size := p2.lt
      refine call_zip_2 p1.isList p2.isList fun h' hz hTI hTO h1 h2 hsz hk => wpAny_pyIter_zip hz ?_
      have I2 : Inv X pins σ H1 { s1 with heap := h' } := I1.kept (t' := s1.toks) hk
      refine ⟨s1.heap.objs.size + 4, [s1.heap.objs.size + 4, s1.heap.objs.size + 2, s1.heap.objs.size + 3, s1.heap.objs.size, s1.heap.objs.size + 1], _, _, H1, rfl, I2, turn_zipN (PySem.W.ktu_apart s1.heap.objs.size a b la lb), ⟨⟨_, _, hz, .inl rfl⟩, hTI, ⟨_, _, hTO⟩, h1, h2⟩, fun c hcm => ?_, q⟩
      have e' : c = s1.heap.objs.size + 4 ∨ c = s1.heap.objs.size + 2 ∨ c = s1.heap.objs.size + 3 ∨ c = s1.heap.objs.size ∨ c = s1.heap.objs.size + 1 := by simpa using hcm
      have hle : s1.heap.objs.size ≤ c := by
        rcases e' with z | z | z | z | z
        · rw [z]; exact Nat.le_add_right _ _
        · rw [z]; exact Nat.le_add_right _ _
        · rw [z]; exact Nat.le_add_right _ _
        · rw [z]; exact Nat.le_refl _
        · rw [z]; exact Nat.le_add_right _ _
      exact I1.fpOk hle (I1.hok.fresh hle)
section
variable {X : Cx} {mg : Str → Option Value} {call : CallT} {W : WX}
theorem pe_oriE {i : Nat} {b : E} {x y : Expr} {rest : List Expr} {pos : Pos} (hx : PE X x (tVar i)) (hb : PE X (.BoolOp .Or (y :: rest) pos) (tE X.K mg call b W)) : PE X (.BoolOp .Or (x :: y :: rest) pos) (tE X.K mg call (.ifx (.var i) (.use i) b) W) := by
  refine PE.weak (PE.lockd (pe_orT hx hb)) fun σ H Q h => ?_
  obtain ⟨F, A, ρ, w, s, p⟩ := h
  have hq : quiet (.ifx (.var i) (.use i) b) = false := by simp only [quiet]
  rw [hq] at p
  have hal : shares (.ifx (.var i) (.use i) b) = false := by simp only [shares]
  rw [hal] at p
  simp only [ev] at p
  cases hi : ρ[i]? with
  | none => rw [hi] at p; exact p.elim
  | some o =>
  cases o with
  | none => rw [hi] at p; exact p.elim
  | some d =>
    rw [hi] at p
    simp only [R.bind] at p
    cases hk : truD d with
    | none => rw [hk] at p; exact p.elim
    | some k =>
      rw [hk] at p
      obtain ⟨v, A1, A2, h1, h2, _, _, h5, _⟩ := s.get hi
      refine ⟨v, h1, k, tru_of w.same h2 hk, ?_⟩
      cases k with
      | true =>
        rw [if_pos rfl]
        simp only [hi] at p
        by_cases hc : d.cand = true
        · rw [if_pos hc] at p
          obtain ⟨v', L, h1', hL, go⟩ := slot_frz w s hi hc
          rw [h1] at h1'
          cases h1'
          refine ⟨L, hL, fun H2 lk => ?_⟩
          obtain ⟨F', A', e, s', fz⟩ := go H2 lk
          simp only [shares, Bool.not_false, Bool.true_or, if_true] at p
          exact p v F' H2 A' no (by rw [cup_no']; exact e) s' (.fz fz) (fun z => by cases z) (fun _ => Dj.no_r) fun z => by cases z
        · rw [if_neg hc] at p; exact p.elim
      | false =>
        rw [if_neg Bool.false_ne_true]
        simp only at p
        refine ⟨F, A, ρ, w, s, ?_⟩
        cases he : ev call b ρ with
        | bad => rw [he] at p; exact p
        | err z ρ' => rw [he] at p; exact p
        | ok y ρ2 =>
          rw [he] at p
          simp only at p
          by_cases hcd : (!shares b || y.pure) = true
          · rw [if_pos hcd] at p
            intro v F2 H2 A2 B2 e2 s2 o2 a2 d2 _
            refine ⟨[], fun a z => by simp at z, fun H3 lk => ?_⟩
            have e3 : H3 = H2 := funext fun a => (lk a).2 (by simp)
            rw [e3]
            by_cases hae : shares b = false
            · exact p v F2 H2 A2 B2 e2 s2 o2 (fun z => by cases z) (fun _ => d2 hae) fun z => by cases z
            · have hp : y.pure = true := by
                cases hh : shares b with
                | false => exact absurd hh hae
                | true => simpa [hh] using hcd
              exact p v F2 H2 A2 no (by rw [cup_no']; exact e2.sub Sb.l) s2 (.fz (o2.fzd hp)) (fun z => by cases z) (fun _ => Dj.no_r) fun z => by cases z
          · rw [if_neg hcd] at p; exact p.elim
theorem pi_zipNE {e f : E} {p pos npos : Pos} {a b : Expr} {nx : Str} (hg : Gl X "zip") (hm : X.mg "zip" = none) (h : PEs X (fun e => tE X.K mg call e W) [e, f] [a, b]) :
    PI X (.Name nx npos) (.Call (.Name "zip" p) [a, b] [] pos) (tI X.K mg call W .zip [e, f]) := by
  have hb : ([b].all noStar) = true := by simp [h.2.2.1]
  refine PI.weak (pi_zipN hg hm h.paC (starEach_cons h.1 [b] X.env) (back_none hb)) fun σ H Rr h' => ?_
  refine pre_it h' fun vs F1 H1 ds xs hl sm fz hx q => ?_
  match ds, hl, fz with
  | [d, d'], _, .cons f (.cons f' .nil) =>
    unfold itD at hx
    split at hx <;> first | contradiction | skip
    rename_i heq
    cases heq
    cases hx
    cases f with
    | lst h r =>
      cases f' with
      | lst h' r' =>
        exact ⟨_, _, _, _, rfl, SqL.up sm (SqL.of h), SqL.up sm (SqL.of h'), q _ (iw_zip (SqL.of h) r (SqL.of h') r')⟩
theorem FzK.atv {K : PySem.W.Frag} : ∀ {vs : List (Key × V)} {ds : List (Key × D)} {i : Nat} {F : Hp} {p : Key × V}, FzK K F vs ds → vs[i]? = some p → ∃ d, ds[i]? = some (p.1, d) ∧ Fz K F p.2 d
  | _, _, _, _, _, .nil, h => by simp at h
  | _, _, 0, _, _, .cons o f _, h => by simp at h; subst h; exact ⟨_, rfl, f⟩
  | _, _, i + 1, _, _, .cons _ _ r, h => by
    obtain ⟨d, h1, h2⟩ := FzK.atv (i := i) r (by simpa using h)
    exact ⟨d, by simpa using h1, h2⟩
theorem iw_vals {K : PySem.W.Frag} {F : Hp} {a : Addr} {o : Obj} {vs : List (Key × V)} {ds : List (Key × D)} (h : F a = some (.frz o (.dK vs))) (z : FzK K F vs ds) : IW K F (Itd a o vs) (ds.map (·.2)) where
  goes := fun i H hi s => ⟨s _ _ h, by rw [List.length_map, ← z.len] at hi; exact hi⟩
  stops := fun H s => ⟨s _ _ h, by rw [List.length_map, z.len]; exact Nat.le_refl _⟩
  yields := fun i H x H' hi s y => by
    obtain ⟨e, k, e1⟩ := y
    obtain ⟨d, e2, e3⟩ := z.atv e1
    exact ⟨d, by rw [List.getElem?_map, e2]; rfl, .inl ⟨e, e3⟩⟩
theorem pi_dvE {tg : Expr} {e : E} {x : Str} {p apos cpos : Pos} (he : PE X (.Name x p) (tE X.K mg call e W)) (hl : (apos.endLine == cpos.line) = true) : PI X tg (.Call (.Attribute (.Name x p) "values" apos) [] [] cpos) (tI X.K mg call W .dv [e]) :=
  PI.weak (pi_values he rfl hl) fun σ H Rr h =>
    pre_it (es := [e]) (G := fun vs H1 => match vs with
      | [x] => ∃ d o kvs, x = V.ref d ∧ H1 d = some (.frz o (.dK kvs)) ∧ Rr (Itd d o kvs) H1
      | _ => False) h fun vs F1 H1 ds xs _ sm fz hx q => by
      unfold itD at hx
      split at hx <;> first | contradiction | skip
      cases fz with
      | cons a b =>
        cases b
        cases a with
        | dic h r =>
          simp only [walkV, Option.some.injEq] at hx
          subst hx
          exact ⟨_, _, _, rfl, sm _ _ h, q _ (iw_vals h r)⟩
        | _ => simp [walkV] at hx
end
end VI

namespace HT
open PySem PySem.Spec PyProof.Rows L2
section
variable {prog : Program} {w : World} {A : Around} {E : Value → Shared → Prop} {s : Shared}
end
end HT
namespace VI
open PySem PySem.Spec PyProof.Rows L2
section
variable {X : Cx}
end
section
variable [Tn] {X : Cx} {mg : Str → Option Value} {call : CallT} {W : WX}
end
end VI

set_option maxHeartbeats 2000000
namespace VI
variable [Tn]
open PySem PySem.Spec PySem.Calls PyProof.Rows PyProof.V L2
section
variable {prog : Program} {w : World} {K : Type} [DecidableEq K] {knd : HeapKind prog w K} {A : Around} {E : Value → Shared → Prop} {s : Shared}
inductive HitsH (A : Around) (s : Shared) (kb : List (K × Addr × Value)) : List (K × Addr × Value) → Bool → Prop
  | nil : HitsH A s kb [] true
  | miss {k : K} {q : Addr × Value} {r : List (K × Addr × Value)} : (∀ (j : Nat) (p : Addr × Value), kb[j]? ≠ some (k, p)) → HitsH A s kb ((k, q) :: r) false
  | hit {k : K} {q p : Addr × Value} {j : Nat} {r : List (K × Addr × Value)} {e b : Bool} : kb[j]? = some (k, p) → SeqAt.EqAt A s q.2 p.2 e → HitsH A s kb r b → HitsH A s kb ((k, q) :: r) (e && b)
end
section
variable {prog : Program} {w : World} {K : Type} [DecidableEq K] {knd : HeapKind prog w K} {A : Around} {E Q : Value → Shared → Prop} {s : Shared}
end
abbrev intsV (m : List (List L2.Key × Int)) : List (List L2.Key × V) := m.map fun p => (p.1, .int p.2)
section
variable {X : Cx}
end
/-! ### dict(xs) of pairs whose keys are tuples -/
section
variable {X : Cx}
end
/-! ### sum(d.values()) -/
section
variable {prog : Program} {w : World} {A : Around} {E : Value → Shared → Prop} {s : Shared}
end
section
variable {X : Cx}
end
end VI

set_option maxHeartbeats 2000000
namespace VI
variable [Tn]
open PySem PySem.Spec PyProof.Rows L2
section
variable {X : Cx} {mg : Str → Option Value} {call : CallT} {W : WX} {pr : Nat → Bool}
theorem Rs.dit {F H : Hp} {A : AS} {Q : VK} {vs : List (List L2.Key × V)} {ds : List (List L2.Key × D)} {p : Addr} (w : Wd F H A) (r : Rs X.K mg F H A false (.dit true ds) Q) (h : FzT X.K F vs ds) (hp : H p = none) : Q (.ref p) (upd H p (.dT vs)) := by
  refine r.new rfl _ F _ (cup (fun a => a = p) no) (Ext.laid w.no hp) (fun _ _ e => (upd_ne (ne_of_none e hp)).trans e) (.dit (B := no) upd_same (.inl rfl) (fun z => z) Sb.no_l ?_)
  exact FzT.own h
end
end VI

set_option maxHeartbeats 2000000
namespace VI
variable [Tn]
open PySem PySem.Spec PyProof.Rows L2
/-! small stretches hash apart -/
inductive HB where
  | nil | node (l : HB) (k : Int) (r : HB)
def HB.has : HB → Int → Bool
  | .nil, _ => false
  | .node l k r, x => if x = k then true else if x < k then l.has x else r.has x
def HB.ins (x : Int) : HB → Option HB
  | .nil => some (.node .nil x .nil)
  | .node l k r => if x = k then none else if x < k then (HB.ins x l).map fun l => .node l k r else (HB.ins x r).map fun r => .node l k r
def HB.all : List Int → HB → Option HB
  | [], t => some t
  | x :: r, t => (HB.ins x t).bind fun t1 => HB.all r t1
def hs2 (p : Nat × Nat) : Int := reduceHash (Builtin.Tuple.tupleHashOf [hashInt (p.1 : Int), hashInt (p.2 : Int)])
/-! ### key tuples join what is still -/
section
variable {X : Cx} {mg : Str → Option Value} {call : CallT} {W : WX} {pr : Nat → Bool}
end
end VI

set_option maxHeartbeats 2000000
namespace VI
variable [Tn]
open PySem PySem.Spec PyProof.Rows L2
section
variable {X : Cx} {mg : Str → Option Value} {call : CallT} {W : WX} {pr : Nat → Bool}
theorem OwnK.app {K : PySem.W.Frag} {F H : Hp} {key : L2.Key} {l : Addr} {xs : List D} {y : V} {xd : D} (fy : Fz K F y xd) : ∀ {vs : List (L2.Key × V)} {ds : List (L2.Key × D)} {B : AS}, OwnK K mg F H vs ds B → (ds.map (·.1)).Nodup → vGet ds key = some (.lst true xs) → valV vs key = some (.ref l) →
    ∃ us, H l = some (.lst us) ∧ B l ∧ us.length = xs.length ∧ OwnK K mg F (upd H l (.lst (us ++ [y]))) vs (ds.map fun kv => if kv.1 = key then (kv.1, .lst true (xs ++ [xd])) else kv) B
  | _, _, _, .nil, _, h, _ => by simp [vGet] at h
  | _, _, _, .cons (k := k) (v := v) (d := d) (vs := vs) (ds := ds) (A1 := A1) (A2 := A2) o x r a b c, nd, h1, h2 => by
    rw [List.map_cons, List.nodup_cons] at nd
    by_cases hk : k = key
    · have e1 : d = .lst true xs := by simpa [vGet, List.find?_cons, hk] using h1
      rw [valV_pos (p := (k, v)) hk] at h2
      have e2 : v = .ref l := by simpa using h2
      subst e1 e2
      cases x with
      | fz z => exact absurd z.pure (by simp [D.pure])
      | lst q1 q2 q3 q4 q5 =>
        rename_i us B1
        have keep : ∀ {C : AS} a o, ¬ C l → C a → H a = some o → upd H l (.lst (us ++ [y])) a = some o := fun a o n hC h => by rw [upd_ne (fun z => n (by rw [← z]; exact hC))]; exact h
        have il : (ds.map fun kv => if kv.1 = key then (kv.1, D.lst true (xs ++ [xd])) else kv) = ds := by
          have : ∀ kv ∈ ds, (if kv.1 = key then (kv.1, D.lst true (xs ++ [xd])) else kv) = kv := fun kv hm => by
            have hin : kv.1 ∈ ds.map (·.1) := List.mem_map_of_mem hm
            rw [if_neg fun e => nd.1 (by rw [hk, ← e]; exact hin)]
          rw [List.map_congr_left this, List.map_id']
        refine ⟨us, q1, b l q2, q5.len, ?_⟩
        rw [List.map_cons, if_pos hk, il]
        refine .cons (A1 := A1) (A2 := A2) o (.lst (B := B1) upd_same q2 q3 q4 ?_) (OwnK.move (fun _ _ z => z) (fun c u hc hu => keep (C := A2) c u (fun z => a l q2 z) hc hu) r) a b c
        have := OwnL.append (OwnL.move (fun _ _ z => z) (fun c u hc hu => keep (C := B1) c u q3 hc hu) q5) (.cons (A1 := no) (A2 := no) (.fz fy) .nil Dj.no_r Sb.no_l Sb.no_l : OwnL K mg F (upd H l (.lst (us ++ [y]))) [y] [xd] no) Dj.no_r
        rwa [cup_no'] at this
    · have e1 : vGet ((k, d) :: ds) key = vGet ds key := by simp [vGet, List.find?_cons, hk]
      have e2 : valV ((k, v) :: vs) key = valV vs key := valV_neg (p := (k, v)) hk
      rw [e1] at h1
      rw [e2] at h2
      obtain ⟨us, q1, q2, q3, q4⟩ := OwnK.app fy r nd.2 h1 h2
      refine ⟨us, q1, c l q2, q3, ?_⟩
      rw [List.map_cons, if_neg hk]
      refine .cons (A1 := A1) (A2 := A2) o (Own.move (fun _ _ z => z) (fun a' u hc hu => ?_) x) q4 a b c
      rw [upd_ne fun z => a a' hc (by rw [z]; exact q2)]; exact hu
end
end VI

set_option maxHeartbeats 2000000
namespace VI
variable [Tn]
open PySem PySem.Spec PyProof.Rows L2 LamX
section
variable {X : Cx} {mg : Str → Option Value} {call : CallT} {W : WX} {pins : List (Addr × Obj)}
theorem Rd.ext {H H2 : Hp} {a : Addr} {o : HO} (eN : ∀ a u, H a = some u → (∀ z, u ≠ .tbl z) → H2 a = some u) (nt : ∀ z, o ≠ .tbl z) (h : Rd H a o) : Rd H2 a o := by
  rcases h with h | ⟨ob, h⟩
  · exact .inl (eN a _ h nt)
  · exact .inr ⟨ob, eN a _ h fun z e => by cases e⟩
/-! ### in a tuple of the module's own -/
end
end VI

namespace VI
variable [Tn]
open PySem PySem.Spec PyProof.Rows L2
section
variable {c : Ck} {X : Cx} {W : WX} {mg : Str → Option Value} {call : CallT}
structure EOk (X : Cx) (W : WX) (mg : Str → Option Value) (call : CallT) (e : E) (a : Expr) : Prop where
  pe : PE X a (tE X.K mg call e W)
  pt : tstE e = true → PT X a (tT X.K mg call e W)
  pw : tstE e = true → ∀ op q q2 rest pos, a = .BoolOp op (q :: q2 :: rest) pos → PW X a (tT X.K mg call e W)
theorem EOk.plain {e : E} {a : Expr} (hp : plainTest a = true) (h : PE X a (tE X.K mg call e W)) : EOk X W mg call e a :=
  ⟨h, fun _ => pt_ofE hp h, fun _ op q q2 rest pos ea => by subst ea; simp [plainTest] at hp⟩
theorem EOk.r {e : E} {a : Expr} (h : PE X a (tE X.K mg call e W)) (hv : ∀ i, e = .var i → PE X a (tVar i)) : PE X a (tR X.K mg call W e) := by
  unfold tR
  cases hq : varOf e with
  | none => exact h
  | some i => exact hv i (varOf_some hq)
theorem plainIx_of {b : Expr} (h : plainIxB b = true) : PlainIx b := by
  intro o i
  cases b <;> first | rfl | simp [plainIxB] at h
theorem fnName_blt (o : CkOk c X W mg call) (f : Fn) : X.mg (fnName f) = none := o.blt _ (.inl (.inr ⟨f, rfl⟩))
theorem PEs.two {X : Cx} {t : E → TE} {es : List E} {x y : Expr} (h : PEs X t es [x, y]) : ∃ e f, es = [e, f] ∧ noStar x = true ∧ noStar y = true ∧ PE X x (t e) ∧ PE X y (t f) := by
  match es, h with
  | [e, f], h => exact ⟨e, f, rfl, h.1, h.2.2.1, h.2.1, h.2.2.2.1⟩
  | [e], h => exact h.2.2.elim
  | e :: f :: g :: es, h => exact h.2.2.2.2.elim
theorem PEs.one {X : Cx} {t : E → TE} {es : List E} {x : Expr} (h : PEs X t es [x]) : ∃ e, es = [e] ∧ noStar x = true ∧ PE X x (t e) := by
  match es, h with
  | [e], h => exact ⟨e, rfl, h.1, h.2.1⟩
  | e :: f :: es, h => exact h.2.2.elim
theorem PEs.three {X : Cx} {t : E → TE} {es : List E} {x y z : Expr} (h : PEs X t es [x, y, z]) : ∃ e f g, es = [e, f, g] ∧ PE X x (t e) ∧ PE X y (t f) ∧ PE X z (t g) := by
  match es, h with
  | [e, f, g], h => exact ⟨e, f, g, rfl, h.2.1, h.2.2.2.1, h.2.2.2.2.2.1⟩
  | [e], h => exact h.2.2.elim
  | [e, f], h => exact h.2.2.2.2.elim
  | e :: f :: g :: i :: es, h => exact h.2.2.2.2.2.2.elim
theorem const_str {K : PySem.W.Frag} {v : V} {l : List Nat} (h : Const K v (.str l)) : v = .str (ST l) := by
  cases h (fun _ => none)
  rfl
theorem op_ok (o : CkOk c X W mg call) {op : Op} {es : List E} {a : Expr} {as : List Expr} (h : opArgs c op a = some as) (p : PEs X (tR X.K mg call W) es as) : EOk X W mg call (.op op es) a := by
  unfold opArgs at h
  split at h
  · unfold oa0 at h
    split at h
    case h_2 => cases h
    split at h <;> cases h
    rename_i e
    subst e
    obtain ⟨e, f, rfl, _, _, h1, h2⟩ := p.two
    exact .plain rfl (pe_bin h1 h2)
  · unfold oa1 at h
    split at h
    case h_2 => cases h
    split at h <;> cases h
    rename_i e
    simp only [Bool.and_eq_true, decide_eq_true_eq, Bool.not_eq_true'] at e
    obtain ⟨e, hm⟩ := e
    subst e
    obtain ⟨e, f, rfl, _, _, h1, h2⟩ := p.two
    exact ⟨pe_cmpE o.units hm h1 h2, fun _ => pt_cmpE o.units hm h1 h2, fun _ _ _ _ _ _ ea => by cases ea⟩
  · unfold oa3 at h
    split at h
    case h_2 => cases h
    split at h <;> cases h
    rename_i hp
    obtain ⟨e, f, rfl, _, _, h1, h2⟩ := p.two
    exact .plain rfl (pe_ixE (plainIx_of hp) h1 h2)
  · unfold oa5 at h
    split at h
    case h_2 => cases h
    cases h
    obtain ⟨e, f, rfl, _, _, h1, h2⟩ := p.two
    exact .plain rfl (pe_sl10 h1 h2)
  · unfold oa6 at h
    split at h
    case h_2 => cases h
    cases h
    obtain ⟨e, f, rfl, _, _, h1, h2⟩ := p.two
    exact .plain rfl (pe_sl01 h1 h2)
  · unfold oa7 at h
    split at h
    case h_2 => cases h
    cases h
    obtain ⟨e, f, g, rfl, h1, h2, h3⟩ := p.three
    exact .plain rfl (pe_sl11 h1 h2 h3)
  · unfold oa9 at h
    split at h
    case h_2 => cases h
    split at h <;> cases h
    rename_i hc
    simp only [Bool.and_eq_true, decide_eq_true_eq] at hc
    obtain ⟨⟨rfl, hg⟩, hf⟩ := hc
    exact .plain rfl (pe_fn o.calm (by have := o.units; omega) hf (fnName_blt o _) (o.gl hg) p)
  · unfold oa10 at h
    split at h
    case h_2 => cases h
    split at h <;> cases h
    rename_i hc
    simp only [Bool.and_eq_true, decide_eq_true_eq] at hc
    obtain ⟨⟨⟨rfl, hok⟩, rfl⟩, hline⟩ := hc
    obtain ⟨e, rfl, h0, h1⟩ := p.one
    exact .plain rfl (pe_joinE hok hline h0 h1)
  · unfold oaSplit at h
    split at h
    case h_2 => cases h
    split at h <;> cases h
    rename_i hc
    simp only [Bool.and_eq_true, decide_eq_true_eq] at hc
    obtain ⟨⟨⟨⟨⟨rfl, rfl⟩, hline⟩, hb⟩, h1l⟩, hall⟩ := hc
    obtain ⟨e, rfl, _, h1⟩ := p.one
    obtain ⟨c', rfl⟩ := List.length_eq_one_iff.mp h1l
    exact .plain rfl (pe_splitE (by simpa using hall) hline hb h1)
  · unfold oaStrip at h
    split at h
    case h_2 => cases h
    split at h <;> cases h
    rename_i hc
    simp only [Bool.and_eq_true, decide_eq_true_eq, Bool.not_eq_true'] at hc
    obtain ⟨⟨⟨⟨⟨hg, hv⟩, hd⟩, rfl⟩, hline⟩, hb⟩ := hc
    obtain ⟨u, v, q1, q2, q3⟩ := o.gls _ _ hv
    obtain ⟨e, rfl, _, h1⟩ := p.one
    obtain rfl := const_str q3
    exact .plain rfl (pe_stripE hline hb rfl h1 (pe_glob (o.gl hg) q1 q2 hd))
  · unfold oa14 at h
    split at h
    case h_3 => cases h
    · split at h
      case h_2 => cases h
      split at h <;> cases h
      rename_i hc
      simp only [Bool.and_eq_true, decide_eq_true_eq, List.contains_iff_mem] at hc
      obtain ⟨⟨⟨⟨rfl, rfl⟩, hc⟩, g1⟩, g2⟩ := hc
      obtain ⟨e, rfl, h0, h1⟩ := p.one
      exact .plain rfl (pe_isi1 (o.blt _ (.inl (.inl (by simp)))) (o.gl g1) hc (o.gl g2) (o.blt _ (.inr ⟨_, hc, rfl⟩)) h0 h1)
    · split at h <;> cases h
      rename_i hc
      simp only [Bool.and_eq_true, decide_eq_true_eq, List.all_eq_true, List.contains_iff_mem] at hc
      obtain ⟨⟨⟨⟨rfl, hts⟩, hl⟩, g1⟩, g2⟩ := hc
      obtain ⟨e, rfl, h0, h1⟩ := p.one
      exact .plain rfl (pe_isiN (o.blt _ (.inl (.inl (by simp)))) (o.gl g1) hts hl (fun t ht => ⟨o.gl (g2 t ht).1, o.blt _ (.inr ⟨t, (g2 t ht).2, rfl⟩)⟩) h0 h1)
  · cases h
theorem folded_of {e : Expr} (h : notSet e = true) (env : Env) (x : Value) : foldedSetIterable e env x = pure x := by
  cases e <;> first | rfl | simp [notSet] at h
theorem isTup_of {e : Expr} (h : isTupE e = true) : ∃ es k p, e = .Tuple es k p := by
  cases e <;> first | exact ⟨_, _, _, rfl⟩ | simp [isTupE] at h
theorem isNm_of {e : Expr} (h : isNmE e = true) : ∃ x p, e = .Name x p := by
  cases e <;> first | exact ⟨_, _, rfl⟩ | simp [isNmE] at h
theorem oriB_ok {k x : E} {n : Str} (h : oriB c k x n = true) : ∃ i, k = .var i ∧ x = .use i ∧ c.vis i n = true := by
  unfold oriB at h
  split at h
  · simp only [Bool.and_eq_true, decide_eq_true_eq] at h
    obtain ⟨rfl, h⟩ := h
    exact ⟨_, rfl, rfl, h⟩
  · cases h
theorem it_ok (o : CkOk c X W mg call) {k : ItK} {es : List E} {tg iter : Expr} {as : List Expr} (h : itArgs c k tg iter = some as) (p : PEs X (fun e => tE X.K mg call e W) es as) : PI X tg iter (tI X.K mg call W k es) ∧ ∀ x, foldedSetIterable iter X.env x = pure x := by
  unfold itArgs at h
  split at h
  · split at h <;> cases h
    rename_i hn
    obtain ⟨e, rfl, _, h1⟩ := p.one
    exact ⟨pi_seqE h1, fun x => folded_of hn _ x⟩
  · split at h <;> cases h
    rename_i hc
    simp only [Bool.and_eq_true, decide_eq_true_eq] at hc
    obtain ⟨⟨ht, rfl⟩, hg⟩ := hc
    obtain ⟨e, rfl, h0, h1⟩ := p.one
    refine ⟨?_, fun x => rfl⟩
    obtain ⟨_, _, _, rfl⟩ := isTup_of ht
    exact pi_enumE (o.gl hg) (o.blt _ (.inl (.inl (by simp)))) p
  · split at h <;> cases h
    rename_i hc
    simp only [Bool.and_eq_true, decide_eq_true_eq] at hc
    rw [Bool.or_eq_true] at hc
    obtain ⟨⟨ht, rfl⟩, hg⟩ := hc
    obtain ⟨e, f, rfl, _⟩ := p.two
    refine ⟨?_, fun x => rfl⟩
    rcases ht with ht | ht
    · obtain ⟨_, _, _, rfl⟩ := isTup_of ht
      exact pi_zipE (o.gl hg) (o.blt _ (.inl (.inl (by simp)))) p
    · obtain ⟨_, _, rfl⟩ := isNm_of ht
      exact pi_zipNE (o.gl hg) (o.blt _ (.inl (.inl (by simp)))) p
  · split at h <;> cases h
    rename_i hc
    simp only [Bool.and_eq_true, decide_eq_true_eq, Bool.or_eq_true, beq_iff_eq] at hc
    obtain ⟨⟨rfl, hg⟩, hl⟩ := hc
    have hm := o.blt "range" (.inl (.inl (by simp)))
    refine ⟨?_, fun x => rfl⟩
    match as, hl with
    | [x], _ => obtain ⟨e, rfl, _⟩ := p.one; exact pi_rng1E (o.gl hg) hm p
    | [x, y], _ => obtain ⟨e, f, rfl, _⟩ := p.two; exact pi_rng2E (o.gl hg) hm p
    | [x, y, z], _ => obtain ⟨e, f, g, rfl, _⟩ := p.three; exact pi_rng3E (o.gl hg) hm p
  · split at h <;> cases h
    rename_i hn
    obtain ⟨e, rfl, _, h1⟩ := p.one
    exact ⟨pi_dkE h1, fun x => folded_of hn _ x⟩
  · split at h <;> cases h
    rename_i hc
    simp only [Bool.and_eq_true, decide_eq_true_eq] at hc
    obtain ⟨rfl, hl⟩ := hc
    obtain ⟨e, rfl, _, h1⟩ := p.one
    exact ⟨pi_dvE h1 hl, fun x => rfl⟩
  · cases h
theorem unw_one {op : BoolOp} {q : Expr} {pos : Pos} : unw (.BoolOp op [q] pos) = q := rfl
theorem unw_more {op : BoolOp} {q r : Expr} {rest : List Expr} {pos : Pos} : unw (.BoolOp op (q :: r :: rest) pos) = .BoolOp op (q :: r :: rest) pos := rfl
theorem chkC_ok {d : D} {a : Expr} (e : E) (he : ∀ ρ, ev call e ρ = .ok d ρ) (ha : shares e = false) (h : chkC d a = true) : EOk X W mg call e a := by
  unfold chkC at h
  split at h
  · simp only [beq_iff_eq] at h; subst h
    exact .plain rfl (pe_constE e he ha (fun F => .int _) pe_int)
  · simp only [beq_iff_eq] at h; subst h
    exact .plain rfl (pe_constE e he ha (fun F => .bl _) pe_bl)
  · exact .plain rfl (pe_constE e he ha (fun F => .non) pe_non)
  · simp only [Bool.and_eq_true, decide_eq_true_eq] at h
    obtain ⟨rfl, h⟩ := h
    exact .plain rfl (pe_constE e he ha (fun F => .str _ h) pe_str)
  · cases h
theorem eNon_eq {e : E} (h : eNon e = true) : e = .cst .non := by
  unfold eNon at h
  split at h
  · rfl
  · cases h
theorem EOk.of_unw {e : E} {op : BoolOp} {q : Expr} {rest : List Expr} {pos : Pos} (h : EOk X W mg call e (unw (.BoolOp op (q :: rest) pos))) : PE X (.BoolOp op (q :: rest) pos) (tE X.K mg call e W) ∧ (tstE e = true → PW X (.BoolOp op (q :: rest) pos) (tT X.K mg call e W)) := by
  cases rest with
  | nil =>
    rw [unw_one] at h
    refine ⟨pe_oneE h.pe, fun ht => ?_⟩
    cases op with
    | And => exact pw_and1 (h.pt ht)
    | Or => exact pw_or1 (h.pt ht)
  | cons r rest =>
    rw [unw_more] at h
    exact ⟨h.pe, fun ht => h.pw ht op q r rest pos rfl⟩
theorem few_one {b : Expr} (h : noStar b = true) (pos : Pos) (env : Env) : ((backTo pos (starEach [b] env)).all (fun x => !x.1) && (backToKw pos (keywordEach [] env)).all (fun x => x.1.isSome) && decide (([b] : List Expr).length + ([] : List Keyword).length + (if ([] : List Keyword).isEmpty then 0 else 1) < 30)) = true := by
  rw [starEach_cons h]; rfl
theorem type_insert : typeOf (.builtin "list.insert") = pure (.type "method_descriptor") := by show builtinType _ = _; rw [builtinType_eq_fast]; kernel_rfl
theorem few_two {b d : Expr} (h : noStar b = true) (h' : noStar d = true) (pos : Pos) (env : Env) : ((backTo pos (starEach [b, d] env)).all (fun x => !x.1) && (backToKw pos (keywordEach [] env)).all (fun x => x.1.isSome) && decide (([b, d] : List Expr).length + ([] : List Keyword).length + (if ([] : List Keyword).isEmpty then 0 else 1) < 30)) = true := by
  rw [starEach_cons h, starEach_cons h']; rfl
theorem CkOk.blkOk (o : CkOk c X W mg call) {own : List Nat} {sc : Scope} (h : c.blkOk own sc = true) : BlkOk X.N X.env.scope sc (own.map fun i => (c.N.getD i "", i)) ∧ own = (own.map fun i => (c.N.getD i "", i)).map (·.2) := by
  refine ⟨?_, by rw [List.map_map]; exact (List.map_id _).symm⟩
  have b := blkOk_by h
  rw [o.n]
  refine ⟨b.kind, b.uniq, b.ix, fun y hy e => ?_, b.own⟩
  rcases b.free y hy e with k | k
  · exact .inl (o.look _ _ k (by decide))
  · exact o.free _ k
theorem PEs.len {X : Cx} {t : E → TE} : ∀ {es : List E} {as : List Expr}, PEs X t es as → es.length = as.length
  | [], [], _ => rfl
  | e :: es, a :: as, h => by rw [List.length_cons, List.length_cons, PEs.len h.2.2]
  | [], _ :: _, h => h.elim
  | _ :: _, [], h => h.elim
mutual
theorem chkE_ok : ∀ (e : E) (a : Expr) {c : Ck} {X : Cx} {W : WX}, CkOk c X W mg call → chkE c e a = true → EOk X W mg call e a
  | .var i, a, c, X, W, o, h => by
    cases a <;> simp only [chkE, Bool.false_eq_true] at h
    exact .plain rfl (pe_varE (o.var h))
  | .use i, a, c, X, W, o, h => by
    cases a <;> simp only [chkE, Bool.false_eq_true] at h
    exact .plain rfl (pe_useE (o.var h))
  | .take i, a, c, X, W, o, h => by
    cases a <;> simp only [chkE, Bool.false_eq_true] at h
    exact .plain rfl (pe_takeE (o.var h))
  | .lend i, a, c, X, W, o, h => by simp [chkE] at h
  | .cst d, a, c, X, W, o, h => by
    simp only [chkE] at h
    exact chkC_ok _ (fun ρ => by simp only [ev]) rfl h
  | .glob x d, a, c, X, W, o, h => by
    cases a <;> simp only [chkE, Bool.false_eq_true, Bool.and_eq_true, decide_eq_true_eq, Bool.not_eq_true'] at h
    obtain ⟨⟨⟨rfl, hg⟩, hv⟩, hd⟩ := h
    obtain ⟨u, v, h1, h2, h3⟩ := o.gls _ _ hv
    exact .plain rfl (pe_constE _ (fun ρ => by simp only [ev]) rfl h3 (pe_glob (o.gl hg) h1 h2 hd))
  | .op op es, a, c, X, W, o, h => by
    simp only [chkE] at h
    split at h
    · rename_i as ha
      exact op_ok o ha (chkL_ok es as o h).1
    · cases h
  | .chain o1 o2 x y z, a, c, X, W, o, h => by
    simp only [chkE] at h
    split at h
    · simp only [Bool.and_eq_true, decide_eq_true_eq, Bool.not_eq_true'] at h
      obtain ⟨⟨⟨⟨⟨rfl, rfl⟩, hm⟩, h1⟩, h2⟩, h3⟩ := h
      have e1 := (chkE_ok x _ o h1).pe
      have e2 := (chkE_ok y _ o h2).pe
      have e3 := (chkE_ok z _ o h3).pe
      exact ⟨pe_chainE o.units hm e1 e2 e3, fun _ => pt_chainE o.units hm e1 e2 e3, fun _ _ _ _ _ _ ea => by cases ea⟩
    · cases h
  | .chain3 o1 o2 o3 x y z w, a, c, X, W, o, h => by
    simp only [chkE] at h
    split at h
    · simp only [Bool.and_eq_true, decide_eq_true_eq, Bool.not_eq_true'] at h
      obtain ⟨⟨⟨⟨⟨⟨⟨rfl, rfl⟩, rfl⟩, hm⟩, h1⟩, h2⟩, h3⟩, h4⟩ := h
      have e1 := (chkE_ok x _ o h1).pe
      have e2 := (chkE_ok y _ o h2).pe
      have e3 := (chkE_ok z _ o h3).pe
      have e4 := (chkE_ok w _ o h4).pe
      exact ⟨pe_chain3E o.units hm e1 e2 e3 e4, fun _ => pt_chain3E o.units hm e1 e2 e3 e4, fun _ _ _ _ _ _ ea => by cases ea⟩
    · cases h
  | .and x y, a, c, X, W, o, h => by
    simp only [chkE] at h
    split at h
    · simp only [Bool.and_eq_true] at h
      have e1 := chkE_ok x _ o h.1
      have e2 := (chkE_ok y _ o h.2).of_unw
      have pw : tstE (.and x y) = true → PW X _ (tT X.K mg call (.and x y) W) := fun ht => by
        simp only [tstE, Bool.and_eq_true] at ht
        exact pw_andE (e1.pt ht.1) (e2.2 ht.2)
      exact ⟨pe_andE e1.pe e2.1, fun ht => (pw ht).pt, fun ht op q q2 rest pos ea => by cases ea; exact pw ht⟩
    · cases h
  | .or x y, a, c, X, W, o, h => by
    simp only [chkE] at h
    split at h
    · simp only [Bool.and_eq_true] at h
      have e1 := chkE_ok x _ o h.1
      have e2 := (chkE_ok y _ o h.2).of_unw
      have pw : tstE (.or x y) = true → PW X _ (tT X.K mg call (.or x y) W) := fun ht => by
        simp only [tstE, Bool.and_eq_true] at ht
        exact pw_orE (e1.pt ht.1) (e2.2 ht.2)
      exact ⟨pe_orE e1.pe e2.1, fun ht => (pw ht).pt, fun ht op q q2 rest pos ea => by cases ea; exact pw ht⟩
    · cases h
  | .not x, a, c, X, W, o, h => by
    simp only [chkE] at h
    split at h
    · have e1 := chkE_ok x _ o h
      exact ⟨pe_notE e1.pe, fun ht => pt_notE (e1.pt (by simpa only [tstE] using ht)), fun _ _ _ _ _ _ ea => by cases ea⟩
    · cases h
  | .ifx k x y, a, c, X, W, o, h => by
    simp only [chkE] at h
    split at h
    · simp only [Bool.and_eq_true] at h
      exact ⟨pe_ifxE ((chkE_ok k _ o h.1.1.1).pt h.1.1.2) (chkE_ok x _ o h.1.2).pe (chkE_ok y _ o h.2).pe, fun ht => by simp [tstE] at ht, fun ht => by simp [tstE] at ht⟩
    · rename_i n p q pos
      simp only [Bool.and_eq_true] at h
      obtain ⟨h1, h2⟩ := h
      have hy := (chkE_ok y _ o h2).pe
      obtain ⟨i, rfl, rfl, hv⟩ := oriB_ok h1
      exact ⟨pe_oriE (o.var hv) (pe_oneE hy), fun ht => by simp [tstE] at ht, fun ht => by simp [tstE] at ht⟩
    · cases h
  | .tup es, a, c, X, W, o, h => by
    simp only [chkE] at h
    split at h
    · exact .plain rfl (pe_tupE (chkL_ok es _ o h).2)
    · cases h
  | .lst es, a, c, X, W, o, h => by
    simp only [chkE] at h
    split at h
    · exact .plain rfl (pe_lstE (chkL_ok es _ o h).2)
    · cases h
  | .call f es, a, c, X, W, o, h => by
    simp only [chkE] at h
    split at h
    · simp only [Bool.and_eq_true, decide_eq_true_eq, Bool.not_eq_true'] at h
      obtain ⟨⟨⟨⟨rfl, hg⟩, hf⟩, hd⟩, ha⟩ := h
      obtain ⟨m, fa, fd, ps, F, hr, hm, hk, hb⟩ := o.fns _ _ hf
      obtain ⟨h1, h2⟩ := chkA_ok es _ o ha
      exact .plain rfl (pe_callE F hr (o.gl hg) hm hk hb o.takes hd rfl h1 h2)
    · cases h
  | .idx i es, a, c, X, W, o, h => by simp [chkE] at h
  | .cnt i es, a, c, X, W, o, h => by simp [chkE] at h
  | .pop i es, a, c, X, W, o, h => by simp [chkE] at h
  | .mut m i ps es, a, c, X, W, o, h => by
    simp only [chkE, Bool.and_eq_true] at h
    obtain ⟨h0, h⟩ := h
    cases ps with
    | cons _ _ => simp at h0
    | nil =>
    split at h
    · simp only [Bool.and_eq_true, decide_eq_true_eq] at h
      obtain ⟨⟨⟨⟨rfl, hm⟩, hv⟩, hline⟩, hl⟩ := h
      have p := (chkL_ok es _ o hl).2
      obtain ⟨e, rfl, h0, _⟩ := p.one
      cases m with
      | append => exact .plain rfl (pe_mutE (pe_bm F.plainAttrs_list F.slot_list_append F.type_list_append mt_append (o.var hv) p.paC rfl (few_one h0 _ _) hline (starEach_cons h0 [] X.env) rfl))
      | extend => exact .plain rfl (pe_mutE (pe_bm F.plainAttrs_list F.slot_list_extend F.type_list_extend mt_extend (o.var hv) p.paC rfl (few_one h0 _ _) hline (starEach_cons h0 [] X.env) rfl))
      | insert => cases hm
    · simp only [Bool.and_eq_true, decide_eq_true_eq] at h
      obtain ⟨⟨⟨⟨rfl, hm⟩, hv⟩, hline⟩, hl⟩ := h
      have p := (chkL_ok es _ o hl).2
      obtain ⟨e, f, rfl, h0, h0', _⟩ := p.two
      cases m with
      | append => cases hm
      | extend => cases hm
      | insert => exact .plain rfl (pe_mutE (pe_bm F.plainAttrs_list F.slot_list_insert type_insert mt_insertR (o.var hv) p.paC rfl (few_two h0 h0' _ _) hline (starEach_cons h0 _ X.env) (by rw [starEach_cons h0']; rfl)))
    · cases h
  | .dnew t, a, c, X, W, o, h => by simp [chkE] at h
  | .disp ks es, a, c, X, W, o, h => by simp [chkE] at h
  | .lcK i el t cs own, a, c, X, W, o, h => by simp [chkE] at h
  | .lcO i el t cs own, a, c, X, W, o, h => by simp [chkE] at h
  | .lcE i el t cs own, a, c, X, W, o, h => by
    simp only [chkE] at h
    split at h
    · rename_i elt tes tk tp y py x px p2 ifs sc pos
      simp only [Bool.and_eq_true, decide_eq_true_eq] at h
      obtain ⟨⟨⟨⟨⟨⟨hb, rfl⟩, hg⟩, hv⟩, ht⟩, he⟩, hl⟩ := h
      obtain ⟨ok, how⟩ := o.blkOk hb
      have bk := fun s H C cl fp => o.blk ok.kind s H C cl fp
      refine .plain rfl (pe_lcEE how o.calm o.nd ok (pi_ownE (o.gl hg) (o.blt _ (.inl (.inl (by decide)))) (o.var hv) rfl) (fun s H C cl fp => ?_) (fun s H C cl fp => ?_) (fun s H C cl fp => ?_) (fun x => rfl))
      · exact chkT_ok (bk s H C cl fp) t _ ht
      · exact chkLs_ok cs _ (bk s H C cl fp) hl
      · exact (chkE_ok el _ (bk s H C cl fp) he).pe
    · cases h
  | .dupd i e, a, c, X, W, o, h => by simp [chkE] at h
  | .fz e, a, c, X, W, o, h => by simp [chkE] at h
  | .kind e, a, c, X, W, o, h => by
    simp only [chkE] at h
    split at h
    · rename_i y p params body sc lp pos
      simp only [Bool.and_eq_true, decide_eq_true_eq] at h
      obtain ⟨⟨⟨⟨⟨⟨rfl, hg⟩, hk⟩, hl⟩, hp⟩, hq⟩, he⟩ := h
      obtain ⟨lc, _⟩ := o.lam hl
      obtain ⟨kd, k, hr, hm, hf⟩ := o.kin hk
      have ep : params = par0 := by
        unfold par0B at hp
        split at hp
        · rfl
        · cases hp
      subst ep
      exact .plain rfl (pe_kindE o.same lc kd hr (o.gl hg) (o.lamS hq) fun A outer s H E f c' r => (chkE_ok e body (o.lamF hq hm hf A outer s H E f c' r) he).pe)
    · cases h
  | .sortK n j ks, a, c, X, W, o, h => by simp [chkE] at h
  | .sortD e j ks, a, c, X, W, o, h => by simp [chkE] at h
  | .dget2 i es, a, c, X, W, o, h => by simp [chkE] at h
  | .lc el t k es cs own, a, c, X, W, o, h => by
    simp only [chkE] at h
    split at h
    · rename_i elt tg iter ifs sc pos
      simp only [Bool.and_eq_true] at h
      obtain ⟨⟨⟨⟨hb, hi⟩, ht⟩, he⟩, hl⟩ := h
      split at hi
      · rename_i as ha
        obtain ⟨h1, h2⟩ := it_ok o ha (chkL_ok es as o hi).2
        obtain ⟨ok, how⟩ := o.blkOk hb
        have bk := fun s H C cl fp => o.blk ok.kind s H C cl fp
        refine .plain rfl (pe_lcE how o.calm o.nd ok h1 (fun s H C cl fp => ?_) (fun s H C cl fp => ?_) (fun s H C cl fp => ?_) h2)
        · exact chkT_ok (bk s H C cl fp) t _ ht
        · exact chkLs_ok cs _ (bk s H C cl fp) hl
        · exact (chkE_ok el _ (bk s H C cl fp) he).pe
      · cases hi
    · cases h
  | .fat C i f ix, a, c, X, W, o, h => by simp [chkE] at h
  | .fapp C i f e, a, c, X, W, o, h => by simp [chkE] at h
  | .fpop C i f ix k, a, c, X, W, o, h => by simp [chkE] at h
  | .fld C i f, a, c, X, W, o, h => by simp [chkE] at h
  | .new C g es, a, c, X, W, o, h => by simp [chkE] at h
  | .meth C m g i es, a, c, X, W, o, h => by simp [chkE] at h
  | .recv C m g e es, a, c, X, W, o, h => by simp [chkE] at h
  | .dc kx vx t k es cs own, a, c, X, W, o, h => by simp [chkE] at h
  | .dc2 kx vx t k es t1 k1 es1 own own1, a, c, X, W, o, h => by simp [chkE] at h
  | .dsapp i k x, a, c, X, W, o, h => by simp [chkE] at h
  | .dupdT i e, a, c, X, W, o, h => by simp [chkE] at h
theorem chkL_ok : ∀ (es : List E) (as : List Expr) {c : Ck} {X : Cx} {W : WX}, CkOk c X W mg call → chkL c es as = true → PEs X (tR X.K mg call W) es as ∧ PEs X (fun e => tE X.K mg call e W) es as
  | [], [], c, X, W, o, h => ⟨trivial, trivial⟩
  | e :: es, a :: as, c, X, W, o, h => by
    simp only [chkL, Bool.and_eq_true] at h
    obtain ⟨⟨h0, h1⟩, h2⟩ := h
    have e1 := (chkE_ok e a o h1).pe
    obtain ⟨l1, l2⟩ := chkL_ok es as o h2
    refine ⟨⟨h0, EOk.r e1 fun i ei => ?_, l1⟩, h0, e1, l2⟩
    subst ei
    cases a <;> simp only [chkE, Bool.false_eq_true] at h1
    exact o.var h1
  | [], _ :: _, c, X, W, o, h => by simp [chkL] at h
  | _ :: _, [], c, X, W, o, h => by simp [chkL] at h
theorem chkLs_ok : ∀ (es : List E) (as : List Expr) {c : Ck} {X : Cx}, CkOk c X W0 mg call → chkLs c es as = true → PTs X as (tTs X.K mg call es)
  | [], [], c, X, o, h => pts_nil
  | [e], [a], c, X, o, h => by
    simp only [chkLs, Bool.and_eq_true] at h
    exact pts_one ((chkE_ok e a o h.1.1.2).pt h.1.1.1)
  | e :: f :: es, as, c, X, o, h => by cases as <;> simp [chkLs] at h
  | [e], a :: b :: as, c, X, o, h => by simp [chkLs] at h
  | [], _ :: _, c, X, o, h => by simp [chkLs] at h
  | _ :: _, [], c, X, o, h => by simp [chkLs] at h
theorem chkA_ok : ∀ (es : List E) (as : List Expr) {c : Ck} {X : Cx} {W : WX}, CkOk c X W mg call → chkA c es as = true → as.all noStar = true ∧ PA X as (tAs X.K mg call W es)
  | [], [], c, X, W, o, h => ⟨rfl, pa_nil⟩
  | e :: es, a :: as, c, X, W, o, h => by
    simp only [chkA, Bool.and_eq_true] at h
    obtain ⟨⟨h0, h1⟩, h2⟩ := h
    obtain ⟨l1, l2⟩ := chkA_ok es as o h2
    refine ⟨by simp [h0, l1], ?_⟩
    refine pa_cons (t := tAs X.K mg call W es) ?_ l2 (starEach_cons h0 as X.env)
    split at h1
    · rename_i i hi
      cases a <;> simp only [Bool.false_eq_true] at h1
      first | (rw [hi]; exact o.var h1) | exact o.var h1
    · rename_i hi
      first | (rw [hi]; exact (chkE_ok e a o h1).pe) | exact (chkE_ok e a o h1).pe
  | [], _ :: _, c, X, W, o, h => by simp [chkA] at h
  | _ :: _, [], c, X, W, o, h => by simp [chkA] at h
theorem chkD_ok : ∀ (es : List E) (as : List Expr) {c : Ck} {X : Cx} {W : WX}, CkOk c X W mg call → chkD c es as = true → ∃ es0, es = es0 ++ [.cst .non] ∧ as.all noStar = true ∧ PA X as (tAs X.K mg call W es0)
  | [], _, c, X, W, o, h => by simp [chkD] at h
  | [e], [], c, X, W, o, h => by
    simp only [chkD] at h
    exact ⟨[], by rw [eNon_eq h]; rfl, rfl, pa_nil⟩
  | _ :: _ :: _, [], c, X, W, o, h => by simp [chkD] at h
  | e :: es, a :: as, c, X, W, o, h => by
    simp only [chkD, Bool.and_eq_true] at h
    obtain ⟨⟨h0, h1⟩, h2⟩ := h
    obtain ⟨es0, he, l1, l2⟩ := chkD_ok es as o h2
    refine ⟨e :: es0, by rw [he]; rfl, by simp [h0, l1], ?_⟩
    refine pa_cons (t := tAs X.K mg call W es0) ?_ l2 (starEach_cons h0 as X.env)
    split at h1
    · rename_i i hi
      cases a <;> simp only [Bool.false_eq_true] at h1
      first | (rw [hi]; exact o.var h1) | exact o.var h1
    · rename_i hi
      first | (rw [hi]; exact (chkE_ok e a o h1).pe) | exact (chkE_ok e a o h1).pe
end
end
end VI

set_option maxHeartbeats 4000000
namespace VI
variable [Tn]
open PySem PySem.Spec PyProof.Rows L2 LamX PySem.OEX
section
variable {X : Cx}
end
/-! ### a lambda called later -/
def LamW (f : Addr) (o : Obj) : HO := .ext fun h => h.get? f = some o
theorem lamW_at {P : Program} {w : World} {H : Hp} {h : Heap} {f : Addr} {o : Obj} (x : HOk P w H h) (e : H f = some (LamW f o)) : h.get? f = some o := (x f _ e).1
abbrev kobj (X : Cx) (body : Expr) (sc : Scope) (pm : Value) (c' : Addr) (ctv : Value) : Obj := PySem.W.kla_obj "<lambda>" (X.env.qual ++ "<lambda>") par0 body sc (cloFrom X.env.cells sc.names []) pm c' ctv
section
variable {X : Cx} {pins : List (Addr × Obj)} {σ : L2.St} {H HZ : Hp} {s s1 : Shared} {scope : Scope} {ex : List Addr}
end
def LamR (X : Cx) (body : Expr) (sc : Scope) (f c' : Addr) (H : Hp) : Prop := (∃ pm ctv, LamS X.env.scope sc ∧ H f = some (LamW f (kobj X body sc pm c' ctv))) ∨
  ∃ pm ctv x p1 p2 T t, LamSD X sc x ∧ H f = some (LamW f (lamDO (X.env.qual ++ "<lambda>") (parD x p1 p2) body sc (cloFrom X.env.cells sc.names []) pm c' ctv (.ref T))) ∧ H T = some (LamW T (dflO t))
theorem LamR.keep {X : Cx} {body : Expr} {sc : Scope} {f c' : Addr} {H H' : Hp} (r : LamR X body sc f c' H) (k : ∀ (φ : Heap → Prop) b, H b = some (.ext φ) → H' b = some (.ext φ)) : LamR X body sc f c' H' := by
  rcases r with ⟨pm, ctv, L, h⟩ | ⟨pm, ctv, x, p1, p2, T, t, L, h, h2⟩
  · exact .inl ⟨pm, ctv, L, k _ _ h⟩
  · exact .inr ⟨pm, ctv, x, p1, p2, T, t, L, k _ _ h, k _ _ h2⟩
theorem LamR.func {X : Cx} {body : Expr} {sc : Scope} {f c' : Addr} {H : Hp} {P : Program} {w : World} {h : Heap} (r : LamR X body sc f c' H) (x : HOk P w H h) : ∃ fd, h.get? f = some { cls := .type "function", data := .func fd } := by
  rcases r with ⟨pm, ctv, L, h1⟩ | ⟨pm, ctv, x1, p1, p2, T, t, L, h1, h2⟩
  · exact ⟨_, lamW_at x h1⟩
  · exact ⟨_, lamW_at x h1⟩
end VI

set_option maxHeartbeats 4000000
namespace VI
variable [Tn]
open PySem PySem.Spec PyProof.Rows L2 LamX PySem.OEX
section
variable {F F' H H' : Hp} {A A' : AS} {a : Addr} {o u : HO}
theorem Ext.out (e : Ext F H A F' H' A') (hu : H a = some u) (n : ¬ A a) (nt : ∀ ps, u ≠ .tbl ps) (ntu : ∀ xs, u ≠ .tup xs) (hf : F a = none) : F' a = none ∧ ¬ A' a ∧ H' a = some u := by
  refine ⟨?_, fun z => ?_, e.keep a u hu n nt⟩
  · cases q : F' a with
    | none => rfl
    | some x =>
      rcases e.fnew a (by rw [q]; intro z; cases z) with y | y | y | ⟨vs, y⟩
      · exact absurd hf y
      · rw [hu] at y; cases y
      · exact absurd y n
      · rw [hu] at y; cases y; exact absurd rfl (ntu vs)
  · rcases e.anew a z with y | y
    · exact n y
    · rw [hu] at y; cases y
end
section
variable {X : Cx} {mg : Str → Option Value} {call : CallT} {W : WX} {pr : Nat → Bool}
def LamsAt (X : Cx) (T : (Expr → Scope → E → Prop)) (es : List E) (fs : List Addr) (H : Hp) : Prop := ∀ (m : Nat) (f : Addr), fs[m]? = some f → ∃ c' body sc e, es[m]? = some e ∧ T body sc e ∧ LamR X body sc f c' H ∧ H c' = some (CodeO c' (X.env.qual ++ "<lambda>"))
theorem LamsAt.keep {T : (Expr → Scope → E → Prop)} {es : List E} {fs : List Addr} {H H' : Hp} (l : LamsAt X T es fs H) (k : ∀ (φ : Heap → Prop) b, H b = some (.ext φ) → H' b = some (.ext φ)) : LamsAt X T es fs H' := fun m f h => by
  obtain ⟨c', body, sc, e, h1, h2, h3, h4⟩ := l m f h
  exact ⟨c', body, sc, e, h1, h2, h3.keep k, k _ _ h4⟩
end
section
variable {X : Cx} {mg : Str → Option Value} {call : CallT} {W : WX} {pr : Nat → Bool}
structure WkAt (X : Cx) (T : (Expr → Scope → E → Prop)) (es : List E) (F H : Hp) (A : AS) (a : Addr) (fs : List Addr) : Prop where
  lst : H a = some (.lst (fs.map V.ref))
  fr : F a = none
  own : ¬ A a
  lam : LamsAt X T es fs H
theorem WkAt.ext {T : (Expr → Scope → E → Prop)} {es : List E} {F H F' H' : Hp} {A A' : AS} {a : Addr} {fs : List Addr} (k : WkAt X T es F H A a fs) (w : Wd F H A) (e : Ext F H A F' H' A') : WkAt X T es F' H' A' a fs := by
  obtain ⟨h1, h2, h3⟩ := Ext.out e k.lst k.own (fun ps z => by cases z) (fun xs z => by cases z) k.fr
  refine ⟨h3, h1, h2, k.lam.keep fun φ b q => e.keep b _ q (fun z => ?_) fun ps z => by cases z⟩
  obtain ⟨_, u, q2, m⟩ := w.own b z
  rw [q] at q2; cases q2; exact m
end
end VI

set_option maxHeartbeats 4000000
namespace VI
variable [Tn]
open PySem PySem.Spec PyProof.Rows L2 LamX PySem.OEX
section
variable {X : Cx} {mg : Str → Option Value} {call : CallT} {W : WX} {pr : Nat → Bool} {T : (Expr → Scope → E → Prop)} {es : List E} {i : Nat} {rn : Env' → SR}
end
end VI

set_option maxHeartbeats 2000000
namespace VI
variable [Tn]
open PySem PySem.Spec PyProof.Rows L2 LamX PySem.OEX
section
variable {X : Cx} {mg : Str → Option Value} {call : CallT} {W : WX} {pr : Nat → Bool} {T : Expr → Scope → E → Prop} {es : List E} {i : Nat}
/-! ### one more lambda, if a question says so; as many rows as lambdas -/
theorem LamsAt.more {e2 : List E} {fs : List Addr} {H : Hp} (l : LamsAt X T es fs H) : LamsAt X T (es ++ e2) fs H := fun m f h => by
  obtain ⟨c', body, sc, e, h1, h2⟩ := l m f h
  exact ⟨c', body, sc, e, by rw [List.getElem?_append_left (List.getElem?_eq_some_iff.mp h1).1]; exact h1, h2⟩
end
end VI

namespace VI
variable [Tn]
open PySem PySem.Spec PyProof.Rows L2
def notComp : Expr → Bool
  | .ListComp .. => false
  | .SetComp .. => false
  | .DictComp .. => false
  | _ => true
def swB (c : Ck) (tg v : Expr) : Bool := match v with
  | .ListComp _ _ s vp => match tg with
    | .Name t pos => decide (c.names.lookup t = some .local) && (pos.line == vp.line) && !(s.names.any fun (n, k) => n == t && (k == .local || k == .cell))
    | _ => false
  | _ => false
def compOk : Expr → Bool
  | .SetComp .. => false
  | .DictComp .. => false
  | _ => true
def stB : Expr → Expr → Bool
  | .Tuple ts _ _, .Tuple vs _ _ => !(ts.length == 2 || ts.length == 3) || vs.all (foldedForSure 8)
  | _, _ => true
def parN (c : Ck) (line : Nat) : List Nat → List Expr → Bool
  | [], [] => true
  | i :: is, .Name x p :: ts => decide (c.N[i]? = some x) && decide (c.names.lookup x = some .local) && (p.line == line) && parN c line is ts
  | _, _ => false
def namesU (c : Ck) : List Nat → List Expr → Bool
  | [], [] => true
  | i :: is, .Name x _ :: ts => c.sto i x && namesU c is ts
  | _, _ => false
def cellN (c : Ck) : Expr → Bool
  | .Name x _ => decide (c.names.lookup x = some .cell)
  | _ => false
def sMultiU (c : Ck) (pr : Nat → Bool) (is : List Nat) (es : List E) : Stmt → Bool
  | .Assign [.Tuple ts _ _] (.Tuple vs _ _) _ => namesU c is ts && ts.any (cellN c) && is.all (fun i => !pr i) && chkL c es vs && decide (vs.length ≤ 100) && (vs.length == ts.length)
  | _ => false
def sMulti (c : Ck) (pr : Nat → Bool) (is : List Nat) (es : List E) : Stmt → Bool
  | .Assign [.Tuple [.Name x px, .Name y py] _ _] (.Tuple [a, b] _ _) pos => parN c px.line is [.Name x px, .Name y py] && decide (is.Nodup) && is.all (fun i => !pr i) && !(x == y) && !([a, b].all (foldedForSure 8)) && !([a, b].all (constantsAlone 8)) && chkL c es [a, b]
  | .Assign [.Tuple [.Name x px, .Name y py, .Name z pz] _ _] (.Tuple [a, b, d] _ _) pos => parN c px.line is [.Name x px, .Name y py, .Name z pz] && decide (is.Nodup) && is.all (fun i => !pr i) && !(x == y) && !(x == z) && !(y == z) && !([a, b, d].all (foldedForSure 8)) && !([a, b, d].all (constantsAlone 8)) && chkL c es [a, b, d]
  | _ => false
def sStore (c : Ck) (i : Nat) (ps : List E) (ix e : E) : Stmt → Bool
  | .Assign [.Subscript (.Name x _) k _] v _ => ps.isEmpty && notComp v && c.vis i x && plainIxB k && chkE c ix k && chkE c e v
  | .Assign [.Subscript (.Subscript (.Name x _) p _) k _] v _ => (ps.length == 1) && notComp v && c.vis i x && plainIxB k && plainIxB p && chkE c ix k && chkE c e v && chkL c ps [p]
  | _ => false
def kwsB (c : Ck) : List Str → List E → List Keyword → Bool
  | [k1], [e1], [⟨some n1, a1, _⟩] => decide (k1 = n1) && chkE c e1 a1
  | [k1, k2], [e1, e2], [⟨some n1, a1, _⟩, ⟨some n2, a2, _⟩] => decide (k1 = n1) && decide (k2 = n2) && chkE c e1 a1 && chkE c e2 a2
  | _, _, _ => false
def sRaise (c : Ck) (C : Str) (ks : List Str) (es : List E) : Stmt → Bool
  | .Raise (some (.Call (.Name y _) [] kws _)) none _ => decide (C = y) && c.glo y && !(y == ("__debug__" : Str)) && decide (c.exc C = some ks) && kwsB c ks es kws
  | .Raise (some (.Call (.Name y _) [.Constant (.str _) _ _] [] _)) none _ => decide (C = y) && c.glo y && !(y == ("__debug__" : Str)) && decide (c.exc C = some []) && ks.isEmpty && es.isEmpty
  | _ => false
def notK : E → Bool
  | .lcK .. => false
  | .lcO .. => false
  | .fz _ => false
  | _ => true
/-! a list of lambdas that is asked -/
def chkWks (c : Ck) (pr : Nat → Bool) (i : Nat) (ret : Bool) (op : CmpOp) (es : List E) (rhs : E) : List Stmt → Option (List Stmt)
  | _ => none
def chkWkr (c : Ck) (pr : Nat → Bool) (i : Nat) (es : List E) : List Stmt → Option (List Stmt)
  | _ => none
def chkWka (c : Ck) (pr : Nat → Bool) (i : Nat) (es : List E) (rhs e2 : E) : List Stmt → Option (List Stmt)
  | _ => none
def chkWkc (c : Ck) (pr : Nat → Bool) (i : Nat) (op : CmpOp) (es e2 : List E) (k rT rF : E) : List Stmt → Option (List Stmt)
  | _ => none
def isWkc : S → Option (Nat × CmpOp × List E × List E × E × E × E)
  | .wkc i op es e2 k rT rF => some (i, op, es, e2, k, rT, rF)
  | _ => none
def isWkr : S → Option (Nat × List E)
  | .wkr i es => some (i, es)
  | _ => none
def isWks : S → Option (Nat × Bool × CmpOp × List E × E)
  | .wks i ret op es rhs => some (i, ret, op, es, rhs)
  | _ => none
def isDc : E → Bool
  | .dc .. => true
  | _ => false
def sDct (c : Ck) (pr : Nat → Bool) (i : Nat) (e : E) : Stmt → Bool
  | .Assign [.Name y py] (.DictComp kx vx gs s vp) pos => c.sto i y && !pr i && decide (c.names.lookup y = some .local) && (py.line == vp.line) && !(s.names.any fun (n, k) => n == y && (k == .local || k == .cell)) && isDc e && chkE c e (.DictComp kx vx gs s vp)
  | _ => false
def sDctT (c : Ck) (pr : Nat → Bool) : T → E → Stmt → Bool
  | .slot i, e, a => sDct c pr i e a
  | _, _, _ => false
mutual
def chkS (c : Ck) (pr : Nat → Bool) : S → Stmt → Bool
  | .asg t e, a => (match a with
    | .Assign [tg] v _ => chkT c pr t tg && compOk v && stB tg v && chkE c e v && notK e
    | _ => false) || sDctT c pr t e a
  | .multi is es, a => sMulti c pr is es a || sMultiU c pr is es a
  | .aug i o e, _ => false
  | .expr e, a => match a with | .Expr v _ => notComp v && chkE c e v | _ => false
  | .store i ps ix e, a => sStore c i ps ix e a
  | .dstore i k e, _ => false
  | .ifs k x y, a => match a with | .If b as bs _ => tstE k && chkE c k b && chkSs c pr x as && chkSs c pr y bs | _ => false
  | .whl _ k x, _ => false
  | .fors t k es x, a => match a with
    | .For tg iter as [] _ => (match itArgs c k tg iter with | some bs => chkL c es bs | none => false) && chkT c pr t tg && chkSs c pr x as
    | _ => false
  | .forO x o b, _ => false
  | .ret e, a => match a with | .Return (some v) _ => chkE c e v | _ => false
  | .retN, a => match a with | .Return none _ => true | _ => false
  | .pass, a => match a with | .Pass _ => true | _ => false
  | .brk, _ => false
  | .cont, _ => false
  | .frz _, _ => false
  | .raise C ks es, a => sRaise c C ks es a
  | .wks _ _ _ _ _, _ => false
  | .fput C i f e, _ => false
  | .faug C i f op e, _ => false
  | .wkr _ _, _ => false
  | .wkc _ _ _ _ _ _ _, _ => false
  | .fdst _ _ _ _ _ _, _ => false
  | .view i fo ps s, _ => false
  | .bad, _ => true
def chkSs (c : Ck) (pr : Nat → Bool) : List S → List Stmt → Bool
  | [], as => as.isEmpty
  | s :: r, as => match isFrz s with
    | some _ => chkSs c pr r as
    | none => match isWks s with
      | some (i, ret, op, es, rhs) => match chkWks c pr i ret op es rhs as with
        | some as' => chkSs c pr r as'
        | none => match r with
          | .ret e2 :: r' => match chkWka c pr i es rhs e2 as with
            | some as' => !ret && decide (op = .NotEq) && chkSs c pr r' as'
            | none => false
          | _ => false
      | none => match isWkr s with
      | some (i, es) => match chkWkr c pr i es as with
        | some as' => chkSs c pr r as'
        | none => false
      | none => match isWkc s with
      | some (i, op, es, e2, k, rT, rF) => match chkWkc c pr i op es e2 k rT rF as with
        | some as' => chkSs c pr r as'
        | none => false
      | none => match as with
        | a :: as => chkS c pr s a && chkSs c pr r as
        | [] => false
def isFrz : S → Option Nat
  | .frz i => some i
  | _ => none
end
section
variable {c : Ck} {X : Cx} {W : WX} {mg : Str → Option Value} {call : CallT} {pr : Nat → Bool}
theorem swN {v : Expr} {t : Option Expr} {l : Nat} {env : Env} (h : notComp v = true) : swapsWith v t l env = pure false := by
  cases v <;> first | rfl | simp [notComp] at h
theorem swF (o : CkOk c X W mg call) {t : T} {tg v : Expr} {l : Nat} (ht : chkT c pr t tg = true) (hc : compOk v = true) (hs : swB c tg v = false) : swapsWithSole [tg] v l X.env = pure false := by
  show swapsWith v (some tg) l X.env = pure false
  cases v <;> first | (simp [compOk] at hc; done) | skip
  case ListComp elt gs s vp =>
    cases t with
    | slot i =>
      cases tg <;> simp only [chkT, Bool.false_eq_true] at ht
      rename_i x pos
      simp only [Bool.and_eq_true] at ht
      simp only [swB] at hs
      have hb : (X.env.blockKind == .function) = true := by unfold Env.blockKind; rw [o.kind]; rfl
      have hk : (X.env.kindOf x == some .local) = decide (c.names.lookup x = some .local) := by
        have h1 := ht.1
        simp only [Ck.sto, Bool.and_eq_true] at h1
        have h2 := h1.2
        split at h2
        · rename_i e
          have : X.env.kindOf x = some .local := o.look _ _ e (by decide)
          rw [this, e]; rfl
        · rename_i e
          have : X.env.kindOf x = some .cell := o.look _ _ e (by decide)
          rw [this, e]; rfl
        · cases h2
      unfold swapsWith
      simp only [hb, hk, Bool.true_and]
      show (pure (_ && _ && _) : Sem Bool) = pure false
      exact congrArg pure hs
    | tup ts => cases tg <;> first | (simp [chkT] at ht; done) | rfl
  all_goals first | rfl | (cases tg <;> rfl)
theorem stF {tg v : Expr} {env : Env} (ht : noStar tg = true) (h : stB tg v = true) (hn : ∀ ts p, tg ≠ .List ts p) : swappedStores [tg] v env = pure none := by
  cases tg <;> first | rfl | skip
  case List ts p => exact absurd rfl (hn ts p)
  case Tuple ts k p =>
    cases v <;> first | rfl | skip
    rename_i vs k2 p2
    simp only [stB, Bool.or_eq_true, Bool.not_eq_true'] at h
    rcases h with h | h
    · unfold swappedStores
      simp only [h, Bool.not_false, Bool.true_or]
      rfl
    · unfold swappedStores
      simp only [h, if_true]
      split
      · rfl
      · split
        · rfl
        · split
          · rfl
          · rfl
theorem chkT_noList {t : T} {tg : Expr} (ht : chkT c pr t tg = true) : ∀ ts p, tg ≠ .List ts p := fun ts p e => by
  subst e
  cases t <;> simp [chkT] at ht
theorem lc_of {e : E} {elt : Expr} {gs : List Comprehension} {s : Scope} {vp : Pos} (hk : notK e = true) (h : chkE c e (.ListComp elt gs s vp) = true) : (∃ el t k es cs own, e = .lc el t k es cs own) ∨ ∃ i0 el t cs own, e = .lcE i0 el t cs own := by
  cases e with
  | lc el t k es cs own => exact .inl ⟨el, t, k, es, cs, own, rfl⟩
  | cst d => cases d <;> simp [chkE, chkC] at h
  | lcK _ _ _ _ _ => simp [notK] at hk
  | lcO _ _ _ _ _ => simp [notK] at hk
  | fz _ => simp [notK] at hk
  | lcE i0 el t cs own => exact .inr ⟨i0, el, t, cs, own, rfl⟩
  | op o es =>
    simp only [chkE] at h
    have : opArgs c o (.ListComp elt gs s vp) = none := by
      unfold opArgs
      split <;> rfl
    rw [this] at h
    cases h
  | _ => simp [chkE] at h
theorem asg_ok (o : CkOk c X W mg call) {t : T} {e : E} {tg v : Expr} {pos : Pos} (ht : chkT c pr t tg = true) (hc : compOk v = true) (hst : stB tg v = true) (he : chkE c e v = true) (hnk : notK e = true) : PS X (.Assign [tg] v pos) (tS X.K mg W pr (ex call (.asg t e))) := by
  by_cases hs : swB c tg v = true
  · -- a comprehension that is stored within its block
    unfold swB at hs
    split at hs
    · rename_i elt gs s vp
      split at hs
      · rename_i y py
        simp only [Bool.and_eq_true, decide_eq_true_eq, Bool.not_eq_true'] at hs
        obtain ⟨⟨hl, hline⟩, hany⟩ := hs
        have hX := o.look _ _ hl (by decide)
        have hsw := sw_true (elt := elt) (gs := gs) (scope := s) (pos := vp) (py := py) (y := y) (l := pos.line) (env := X.env) o.kind hX hline hany
        cases t with
        | tup ts => simp [chkT] at ht
        | slot i =>
        simp only [chkT, Bool.and_eq_true, Bool.not_eq_true'] at ht
        obtain ⟨hN, _, _⟩ := o.sto ht.1
        rcases lc_of hnk he with ⟨el, t', k, es, cs, own, rfl⟩ | ⟨i0, el, t', cs, own, rfl⟩
        · simp only [chkE] at he
          split at he
          · rename_i elt tg iter ifs sc pos' heq
            cases heq
            simp only [Bool.and_eq_true] at he
            obtain ⟨⟨⟨⟨hb, hi⟩, ht'⟩, he⟩, hl'⟩ := he
            split at hi
            · rename_i as ha
              obtain ⟨h1, h2⟩ := it_ok o ha (chkL_ok es as o hi).2
              obtain ⟨ok, how⟩ := o.blkOk hb
              have bk := fun s H C cl fp => o.blk ok.kind s H C cl fp
              refine psE_setLc how ht.2 o.calm o.nd ok hN hX hsw h1 (fun s H C cl fp => ?_) (fun s H C cl fp => ?_) (fun s H C cl fp => ?_) h2
              · exact chkT_ok (bk s H C cl fp) t' _ ht'
              · exact chkLs_ok cs _ (bk s H C cl fp) hl'
              · exact (chkE_ok el _ (bk s H C cl fp) he).pe
            · cases hi
          · cases he
        · simp only [chkE] at he
          split at he
          · rename_i elt tes tk tp y2 py2 x px p2 ifs sc pos' heq
            cases heq
            simp only [Bool.and_eq_true, decide_eq_true_eq] at he
            obtain ⟨⟨⟨⟨⟨⟨hb, rfl⟩, hg⟩, hv⟩, ht'⟩, he⟩, hl'⟩ := he
            obtain ⟨ok, how⟩ := o.blkOk hb
            have bk := fun s H C cl fp => o.blk ok.kind s H C cl fp
            refine psE_setLcE how ht.2 o.calm o.nd ok hN hX hsw (pi_ownE (o.gl hg) (o.blt _ (.inl (.inl (by decide)))) (o.var hv) rfl) (fun s H C cl fp => ?_) (fun s H C cl fp => ?_) (fun s H C cl fp => ?_) (fun x => rfl)
            · exact chkT_ok (bk s H C cl fp) t' _ ht'
            · exact chkLs_ok cs _ (bk s H C cl fp) hl'
            · exact (chkE_ok el _ (bk s H C cl fp) he).pe
          · cases he
      · cases hs
    · cases hs
  · have hs : swB c tg v = false := by simpa using hs
    exact psE_asg (ps_asg (chkE_ok e v o he).pe (chkT_ok o t tg ht) (swF o ht hc hs) (stF (chkT_noStar ht) hst (chkT_noList ht)) (by rw [noStarEach (chkT_noStar ht)]; rfl))
theorem asgD_ok (o : CkOk c X W mg call) {i : Nat} {e : E} {a : Stmt} (h : sDct c pr i e a = true) : PS X a (tS X.K mg W pr (ex call (.asg (.slot i) e))) := by
  unfold sDct at h
  split at h
  case h_2 => cases h
  rename_i y py kx vx gs s vp pos
  simp only [Bool.and_eq_true, decide_eq_true_eq, Bool.not_eq_true'] at h
  obtain ⟨⟨⟨⟨⟨⟨hs, hpr⟩, hy⟩, hline⟩, hany⟩, hd⟩, he⟩ := h
  have hX := o.look _ _ hy (by decide)
  obtain ⟨hN, _, _⟩ := o.sto hs
  unfold isDc at hd
  split at hd
  case h_2 => cases hd
  rename_i k v t it es cs own
  simp [chkE] at he
end
end VI

namespace VI
variable [Tn]
open PySem PySem.Spec PyProof.Rows L2
section
variable {c : Ck} {X : Cx} {W : WX} {mg : Str → Option Value} {call : CallT} {pr : Nat → Bool}
theorem raise_ok (o : CkOk c X W mg call) {C : Str} {ks : List Str} {es : List E} {a : Stmt} (h : sRaise c C ks es a = true) : PS X a (tS X.K mg W pr (ex call (.raise C ks es))) := by
  unfold sRaise at h
  split at h
  · rename_i y p kws p2 pos
    simp only [Bool.and_eq_true, decide_eq_true_eq, Bool.not_eq_true'] at h
    obtain ⟨⟨⟨⟨rfl, hg⟩, hd⟩, hx⟩, hk⟩ := h
    have z := o.exc C ks hx
    unfold kwsB at hk
    split at hk
    · simp only [Bool.and_eq_true, decide_eq_true_eq] at hk
      obtain ⟨rfl, h1⟩ := hk
      exact psE_raise o.same o.calm o.takes (o.gl hg) hd z (by simp) (pk_cons (chkE_ok _ _ o h1).pe pk_nil) rfl rfl rfl
    · simp only [Bool.and_eq_true, decide_eq_true_eq] at hk
      obtain ⟨⟨⟨rfl, rfl⟩, h1⟩, h2⟩ := hk
      exact psE_raise o.same o.calm o.takes (o.gl hg) hd z (by simp) (pk_cons (chkE_ok _ _ o h1).pe (pk_cons (chkE_ok _ _ o h2).pe pk_nil)) rfl rfl rfl
    · cases hk
  · rename_i y p m j p1 p2 pos
    simp only [Bool.and_eq_true, decide_eq_true_eq, Bool.not_eq_true', List.isEmpty_iff] at h
    obtain ⟨⟨⟨⟨⟨rfl, hg⟩, hd⟩, hx⟩, rfl⟩, rfl⟩ := h
    exact psE_raise0 o.same o.calm o.takes (o.gl hg) hd (o.exc _ _ hx)
  · cases h
theorem wks_ok (o : CkOk c X W mg call) {i : Nat} {ret : Bool} {op : CmpOp} {es : List E} {rhs : E} {as rest : List Stmt} {r : List S} (h : chkWks c pr i ret op es rhs as = some rest) (hr : PSs X rest (tS X.K mg W pr (exs call r))) :
    PSs X as (tS X.K mg W pr (exs call (.wks i ret op es rhs :: r))) := by simp [chkWks] at h
theorem wka_ok (o : CkOk c X W mg call) {i : Nat} {es : List E} {rhs e2 : E} {as rest : List Stmt} {r : List S} (h : chkWka c pr i es rhs e2 as = some rest) (hr : PSs X rest (tS X.K mg W pr (exs call r))) :
    PSs X as (tS X.K mg W pr (exs call (.wks i false .NotEq es rhs :: .ret e2 :: r))) := by simp [chkWka] at h
theorem wkc_ok (o : CkOk c X W mg call) {i : Nat} {op : CmpOp} {es e2 : List E} {k rT rF : E} {as rest : List Stmt} {r : List S} (h : chkWkc c pr i op es e2 k rT rF as = some rest) (hr : PSs X rest (tS X.K mg W pr (exs call r))) :
    PSs X as (tS X.K mg W pr (exs call (.wkc i op es e2 k rT rF :: r))) := by simp [chkWkc] at h
theorem wkr_ok (o : CkOk c X W mg call) {i : Nat} {es : List E} {as rest : List Stmt} {r : List S} (h : chkWkr c pr i es as = some rest) (hr : PSs X rest (tS X.K mg W pr (exs call r))) :
    PSs X as (tS X.K mg W pr (exs call (.wkr i es :: r))) := by simp [chkWkr] at h
theorem assign_sub {o k : Expr} {pos : Pos} {env : Env} (hk : plainIxB k = true) : ∀ v, assign (.Subscript o k pos) env v = (do
      let ov ← holding [v] (eval o env)
      let iv ← holding [v, ov] (eval k env)
      standAt pos
      holding [v, ov, iv] (setItem ov iv v)
      release [v, ov, iv] []) := by
  intro v
  cases k <;> first | rfl | simp [plainIxB] at hk
theorem swN' {v tg : Expr} {l : Nat} {env : Env} (h : notComp v = true) : swapsWithSole [tg] v l env = pure false := swN h
theorem store_ok' (o : CkOk c X W mg call) {i : Nat} {ps : List E} {ix e : E} {a : Stmt} (h : sStore c i ps ix e a = true) : PS X a (tS X.K mg W pr (ex call (.store i ps ix e))) := by
  unfold sStore at h
  split at h
  · simp only [Bool.and_eq_true, List.isEmpty_iff] at h
    obtain ⟨⟨⟨⟨⟨rfl, hn⟩, hv⟩, hk⟩, hx⟩, he⟩ := h
    exact psE_store0 (ps_asg (chkE_ok e _ o he).pe (pg_sub (o.var hv) (chkE_ok ix _ o hx).pe set_list (assign_sub hk)) (swN' hn) rfl rfl)
  · simp only [Bool.and_eq_true, beq_iff_eq] at h
    obtain ⟨⟨⟨⟨⟨⟨⟨hl, hn⟩, hv⟩, hk⟩, hp⟩, hx⟩, he⟩, hps⟩ := h
    match ps, hl with
    | [p], _ =>
    have := (chkL_ok [p] _ o hps).1
    exact psE_store1 (ps_asg (chkE_ok e _ o he).pe (pg_sub (pe_ix ix_list (o.var hv) this.2.1 (plainIx_of hp)) (chkE_ok ix _ o hx).pe set_list (assign_sub hk)) (swN' hn) rfl rfl)
  · cases h
theorem par_facts (o : CkOk c X W mg call) {line : Nat} : ∀ {is : List Nat} {ts : List Expr}, parN c line is ts = true → is.length = ts.length ∧ ∀ (k : Nat) (i : Nat) (x : Str) (p : Pos), is[k]? = some i → ts[k]? = some (Expr.Name x p) → X.N[i]? = some x ∧ X.env.scope.names.lookup x = some .local ∧ p.line = line
  | [], [], _ => ⟨rfl, fun k i x p h => by simp at h⟩
  | i :: is, t :: ts, h => by
    cases t <;> simp only [parN, Bool.false_eq_true] at h
    simp only [Bool.and_eq_true, decide_eq_true_eq, beq_iff_eq] at h
    obtain ⟨⟨⟨h1, h2⟩, h3⟩, h4⟩ := h
    obtain ⟨l, r⟩ := par_facts o h4
    refine ⟨by simp [l], fun k j x p hi ht => ?_⟩
    cases k with
    | zero =>
      simp at hi ht
      obtain ⟨rfl, rfl⟩ := ht
      subst hi
      exact ⟨by rw [o.n]; exact h1, o.look _ _ h2 (by decide), h3⟩
    | succ k => exact r k j x p (by simpa using hi) (by simpa using ht)
  | [], _ :: _, h => by simp [parN] at h
  | _ :: _, [], h => by simp [parN] at h
theorem blockF (o : CkOk c X W mg call) : (X.env.blockKind == .function) = true := by unfold Env.blockKind; rw [o.kind]; rfl
theorem sw2 {x y : Str} {px py pt pt2 : Pos} {kt k2 : Nat} {a b : Expr} {env : Env} (hb : (env.blockKind == .function) = true) (kx : (env.kindOf x == some .local) = true) (ky : (env.kindOf y == some .local) = true) (hl : py.line = px.line) (hxy : (x == y) = false)
    (hs : noStar a = true ∧ noStar b = true) (hf : [a, b].all (foldedForSure 8) = false) (hc : [a, b].all (constantsAlone 8) = false) : swappedStores [.Tuple [.Name x px, .Name y py] kt pt] (.Tuple [a, b] k2 pt2) env = pure (some [x, y]) := by
  have hyx : (y == x) = false := by
    rw [← hxy, Bool.eq_iff_iff]
    simp only [beq_iff_eq]
    exact ⟨Eq.symm, Eq.symm⟩
  have he : [x, y].eraseDups.length = 2 := by
    simp [List.eraseDups_cons, hyx]
  have kx := beq_iff_eq.mp kx
  have ky := beq_iff_eq.mp ky
  unfold swappedStores
  simp only [hf, hc, List.any_cons, List.any_nil, bne, hb]
  simp [Expr.pos]
  rw [if_neg (by obtain ⟨h1, h2⟩ := hs; rintro (h | h) <;> (split at h <;> first | (simp [noStar] at h1; done) | (simp [noStar] at h2; done) | cases h))]
  simp [kx, ky, hl, he, List.filterMap_cons]
theorem beq_symm_false {x y : Str} (h : (x == y) = false) : (y == x) = false := by
  rw [← h, Bool.eq_iff_iff]
  simp only [beq_iff_eq]
  exact ⟨Eq.symm, Eq.symm⟩
theorem sw3 {x y z : Str} {px py pz pt pt2 : Pos} {kt k2 : Nat} {a b d : Expr} {env : Env} (hb : (env.blockKind == .function) = true) (kx : (env.kindOf x == some .local) = true) (ky : (env.kindOf y == some .local) = true) (kz : (env.kindOf z == some .local) = true) (hl : py.line = px.line) (hl2 : pz.line = px.line) (hxy : (x == y) = false) (hxz : (x == z) = false) (hyz : (y == z) = false)
    (hs : noStar a = true ∧ noStar b = true ∧ noStar d = true) (hf : [a, b, d].all (foldedForSure 8) = false) (hc : [a, b, d].all (constantsAlone 8) = false) : swappedStores [.Tuple [.Name x px, .Name y py, .Name z pz] kt pt] (.Tuple [a, b, d] k2 pt2) env = pure (some [x, y, z]) := by
  have he : [x, y, z].eraseDups.length = 3 := by
    simp [List.eraseDups_cons, beq_symm_false hxy, beq_symm_false hxz, beq_symm_false hyz]
  have kx := beq_iff_eq.mp kx
  have ky := beq_iff_eq.mp ky
  have kz := beq_iff_eq.mp kz
  unfold swappedStores
  simp only [hf, hc, List.any_cons, List.any_nil, bne, hb]
  simp [Expr.pos]
  rw [if_neg (by obtain ⟨h1, h2, h3⟩ := hs; rintro (h | h | h) <;> (split at h <;> first | (simp [noStar] at h1; done) | (simp [noStar] at h2; done) | (simp [noStar] at h3; done) | cases h))]
  simp [kx, ky, kz, hl, hl2, he, List.filterMap_cons]
theorem tCs_mono : ∀ {es : List E} {σ : SG} {H : Hp} {G G' : List V → Hp → Prop}, (∀ vs H, G vs H → G' vs H) → tCs X.K mg call W es σ H G → tCs X.K mg call W es σ H G'
  | [], σ, H, G, G', h, t => h _ _ t
  | e :: es, σ, H, G, G', h, t => by
    obtain ⟨F, A, ρ, w, s, p⟩ := t
    exact ⟨F, A, ρ, w, s, p.imp fun v H1 q => tCs_mono (fun vs H2 => h _ _) q⟩
theorem multi_ok (o : CkOk c X W mg call) {is : List Nat} {es : List E} {a : Stmt} (h : sMulti c pr is es a = true) : PS X a (tS X.K mg W pr (ex call (.multi is es))) := by
  unfold sMulti at h
  split at h
  · rename_i x px y py _ _ a b _ _ pos
    simp only [Bool.and_eq_true, decide_eq_true_eq, Bool.not_eq_true', List.all_eq_true] at h
    obtain ⟨⟨⟨⟨⟨⟨hN, hnd⟩, hpr⟩, hxy⟩, hf⟩, hca⟩, hl⟩ := h
    obtain ⟨len, pf⟩ := par_facts o hN
    match is, len with
    | [i, j], _ =>
    obtain ⟨a1, a2, a3⟩ := pf 0 i x px rfl rfl
    obtain ⟨b1, b2, b3⟩ := pf 1 j y py rfl rfl
    have hij : i ≠ j := by simpa using hnd
    have p := (chkL_ok es _ o hl).2
    refine psE_multi hpr (PS.weak (ps_par o.calm o.nd a1 b1 hij a2 b2 p.paC ?_ rfl) fun D σ H h => ?_)
    · exact sw2 (blockF o) (by show (X.env.scope.names.lookup x == some .local) = true; rw [a2]; rfl) (by show (X.env.scope.names.lookup y == some .local) = true; rw [b2]; rfl) b3 hxy (by have := p.star; simpa using this) hf hca
    · refine tCs_mono (fun vs H1 hq => ?_) h
      match vs, hq with
      | [v, w], hq => exact ⟨v, w, rfl, hq.2⟩
      | [], hq => cases hq.1
      | [_], hq => cases hq.1
      | _ :: _ :: _ :: _, hq => cases hq.1
  · rename_i x px y py z pz _ _ a b d _ _ pos
    simp only [Bool.and_eq_true, decide_eq_true_eq, Bool.not_eq_true', List.all_eq_true] at h
    obtain ⟨⟨⟨⟨⟨⟨⟨⟨hN, hnd⟩, hpr⟩, hxy⟩, hxz⟩, hyz⟩, hf⟩, hca⟩, hl⟩ := h
    obtain ⟨len, pf⟩ := par_facts o hN
    match is, len with
    | [i, j, l], _ =>
    obtain ⟨a1, a2, a3⟩ := pf 0 i x px rfl rfl
    obtain ⟨b1, b2, b3⟩ := pf 1 j y py rfl rfl
    obtain ⟨d1, d2, d3⟩ := pf 2 l z pz rfl rfl
    have hij : i ≠ j ∧ i ≠ l ∧ j ≠ l := by simp at hnd; exact ⟨hnd.1.1, hnd.1.2, hnd.2⟩
    have p := (chkL_ok es _ o hl).2
    refine psE_multi hpr (PS.weak (ps_par3 o.calm o.nd a1 b1 d1 hij.1 hij.2.1 hij.2.2 a2 b2 d2 p.paC ?_ rfl) fun D σ H h => ?_)
    · exact sw3 (blockF o) (by show (X.env.scope.names.lookup x == some .local) = true; rw [a2]; rfl) (by show (X.env.scope.names.lookup y == some .local) = true; rw [b2]; rfl) (by show (X.env.scope.names.lookup z == some .local) = true; rw [d2]; rfl) b3 d3 hxy hxz hyz (by have := p.star; simpa using this) hf hca
    · refine tCs_mono (fun vs H1 hq => ?_) h
      match vs, hq with
      | [u, v, w], hq => exact ⟨u, v, w, rfl, hq.2⟩
      | [], hq => cases hq.1
      | [_], hq => cases hq.1
      | [_, _], hq => cases hq.1
      | _ :: _ :: _ :: _ :: _, hq => cases hq.1
  · cases h
def gN : List Nat → TGs
  | [] => gNil
  | i :: is => gCons (gName i) (gN is)
theorem gN_ok : ∀ {is : List Nat} {vs : List V} {σ : SG} {H : Hp} {Q : SG → Hp → Prop}, vs.length = is.length → Q ((is.zip vs).foldl (fun σ p => σ.set p.1 (some p.2)) σ) H → gN is vs σ H Q
  | [], [], _, _, _, _, q => ⟨rfl, q⟩
  | i :: is, v :: vs, _, _, _, h, q => ⟨v, vs, rfl, gN_ok (by simpa using h) q⟩
  | [], _ :: _, _, _, _, h, _ => by simp at h
  | _ :: _, [], _, _, _, h, _ => by simp at h
theorem gN_pgs (o : CkOk c X W mg call) : ∀ {is : List Nat} {ts : List Expr}, namesU c is ts = true → PGs X ts (gN is) ∧ (assignEach ts X.env).length = is.length ∧ (assignEach ts X.env).findIdx? (·.1) = none
  | [], [], _ => ⟨pgs_nil, rfl, rfl⟩
  | i :: is, t :: ts, h => by
    cases t <;> simp only [namesU, Bool.and_eq_true, Bool.false_eq_true] at h
    obtain ⟨h1, h2, h3⟩ := o.sto h.1
    obtain ⟨k1, k2, k3⟩ := gN_pgs o h.2
    refine ⟨pgs_cons (pg_name o.nd h1 h2 h3) k1, ?_, ?_⟩
    · rw [noStarEach rfl]; simp [k2]
    · rw [noStarEach rfl, List.findIdx?_cons]; simp [k3]
  | [], _ :: _, h => by simp [namesU] at h
  | _ :: _, [], h => by simp [namesU] at h
theorem namesU_len {c : Ck} : ∀ {is : List Nat} {ts : List Expr}, namesU c is ts = true → is.length = ts.length
  | [], [], _ => rfl
  | i :: is, t :: ts, h => by
    cases t <;> simp only [namesU, Bool.and_eq_true, Bool.false_eq_true] at h
    have := namesU_len h.2
    simp [this]
  | [], _ :: _, h => by simp [namesU] at h
  | _ :: _, [], h => by simp [namesU] at h
theorem filterMap_lt {α β : Type} {f : α → Option β} : ∀ {xs : List α}, (∃ x ∈ xs, f x = none) → (xs.filterMap f).length < xs.length
  | [], ⟨x, h, _⟩ => by cases h
  | y :: ys, ⟨x, h, hx⟩ => by
    have hle : ∀ zs : List α, (zs.filterMap f).length ≤ zs.length := fun zs => List.length_filterMap_le f zs
    rcases List.mem_cons.mp h with rfl | h
    · rw [List.filterMap_cons_none hx]
      have := hle ys
      simp only [List.length_cons]; omega
    · have ih := filterMap_lt (xs := ys) ⟨x, h, hx⟩
      cases hy : f y with
      | none => rw [List.filterMap_cons_none hy]; simp only [List.length_cons]; omega
      | some b => rw [List.filterMap_cons_some hy]; simp only [List.length_cons]; omega
theorem swU {ts vs : List Expr} {kt k2 : Nat} {pt pt2 : Pos} {env : Env} (h : ∃ x p, Expr.Name x p ∈ ts ∧ env.kindOf x = some .cell) : swappedStores [.Tuple ts kt pt] (.Tuple vs k2 pt2) env = pure none := by
  obtain ⟨x, p, hm, hk⟩ := h
  unfold swappedStores
  dsimp only
  split
  · rfl
  · split
    · rfl
    · split
      · rfl
      · rename_i h3
        exfalso
        simp only [Bool.or_eq_true, bne_iff_ne, ne_eq, not_or, Decidable.not_not] at h3
        have := filterMap_lt (f := fun (e : Expr) => match e with
          | Expr.Name id pos => if env.kindOf id == some .local && pos.line == (ts.head?.map (·.pos.line)).getD 0 then some id else none
          | _ => none) ⟨Expr.Name x p, hm, by simp [hk]⟩
        have h4 := h3.1
        exact absurd h4 (Nat.ne_of_lt this)
theorem ps_multiU (o : CkOk c X W mg call) {is : List Nat} {ts vs : List Expr} {ta : TA} {kt k2 : Nat} {pt pt2 pos : Pos} (hn : namesU c is ts = true) (hcell : ∃ x p, Expr.Name x p ∈ ts ∧ X.env.kindOf x = some .cell) (ha : PA X vs ta) (hl : is.length ≤ sizeLine) :
    PS X (.Assign [.Tuple ts kt pt] (.Tuple vs k2 pt2) pos) (fun D σ H => ta σ H fun us H1 => us.length = is.length ∧ D.nx ((is.zip us).foldl (fun σ p => σ.set p.1 (some p.2)) σ) H1) := by
  obtain ⟨g1, g2, g3⟩ := gN_pgs o hn
  refine ⟨fun pins s σ H D I h => ?_⟩
  refine wpAny_Assign_stores (Tuple_ (thn (ha.run _ pins s σ H _ I h) fun us s1 ⟨vs', H1, I1, r1, hlen, q1⟩ => ?_)) rfl (swU hcell)
  have hul : us.length = is.length := by rw [← r1.length]; exact hlen
  refine wpAny_newObj_type ?_ (by show us.toArray.size ≤ sizeLine; simp; omega)
  have I2 : Inv X pins σ H1 { s1 with heap := s1.heap.push { cls := .type "tuple", data := .seq us.toArray } } := I1.kept (t' := s1.toks) fun b o e => Heap.get?_push_of_some _ e
  rw [show (assignEach [Expr.Tuple ts kt pt] X.env).map (·.2) = [assign (.Tuple ts kt pt) X.env] from rfl]
  refine assign_Tuple_tuple (I.ok.hd o.calm) (IsTup.new s1.heap _) (by rw [g2]; simp [hul]) g3 fun h' hx => ?_
  have I3 := I2.kept (h' := h') (t' := s1.toks) fun b o e => hx b o (Nat.ne_of_lt (Heap.lt_size e)) e
  have run := g1.run pins _ σ H1 vs' us _ I3 r1 (gN_ok hlen q1)
  exact thn run fun _ s2 q => q
mutual
theorem chkS_ok (hp : PassesOwn (model X.prog X.w) X.A X.env X.xe) : ∀ (s : S) (a : Stmt) {pr : Nat → Bool} {W : WX}, CkOk c X W mg call → chkS c pr s a = true → PS X a (tS X.K mg W pr (ex call s))
  | .asg t e, a, pr, W, o, h => by
    simp only [chkS, Bool.or_eq_true] at h
    rcases h with h | h
    · split at h
      · simp only [Bool.and_eq_true] at h
        exact asg_ok o h.1.1.1.1 h.1.1.1.2 h.1.1.2 h.1.2 h.2
      · cases h
    · unfold sDctT at h
      split at h
      · exact asgD_ok o h
      · cases h
  | .multi is es, a, pr, W, o, h => by
    simp only [chkS, Bool.or_eq_true] at h
    rcases h with h | h
    · exact multi_ok o h
    · unfold sMultiU at h
      split at h
      · simp only [Bool.and_eq_true, decide_eq_true_eq, Bool.not_eq_true', List.all_eq_true, List.any_eq_true, beq_iff_eq] at h
        obtain ⟨⟨⟨⟨⟨hN, ⟨e, he1, he2⟩⟩, hpr⟩, hl⟩, h100⟩, hlen⟩ := h
        have p := (chkL_ok es _ o hl).2
        refine psE_multi hpr (ps_multiU o hN ?_ p.paC ?_)
        · cases e <;> simp only [cellN, decide_eq_true_eq, Bool.false_eq_true] at he2
          exact ⟨_, _, he1, o.look _ _ he2 (by decide)⟩
        · have := namesU_len hN
          have h1 : (100 : Nat) ≤ sizeLine := by decide
          omega
      · cases h
  | .aug i op e, a, pr, W, o, h => by simp [chkS] at h
  | .expr e, a, pr, W, o, h => by
    simp only [chkS] at h
    split at h
    · simp only [Bool.and_eq_true] at h
      exact psE_expr (swN h.1) (chkE_ok e _ o h.2).pe
    · cases h
  | .store i ps ix e, a, pr, W, o, h => store_ok' o (by simpa only [chkS] using h)
  | .dstore i k e, a, pr, W, o, h => by simp [chkS] at h
  | .ifs k x y, a, pr, W, o, h => by
    simp only [chkS] at h
    split at h
    · simp only [Bool.and_eq_true] at h
      exact psE_ifs ((chkE_ok k _ o h.1.1.2).pt h.1.1.1) (chkSs_ok hp x _ o h.1.2) (chkSs_ok hp y _ o h.2)
    · cases h
  | .whl n k x, a, pr, W, o, h => by simp [chkS] at h
  | .fors t k es x, a, pr, W, o, h => by
    simp only [chkS] at h
    split at h
    · simp only [Bool.and_eq_true] at h
      obtain ⟨⟨hi, ht⟩, hs⟩ := h
      split at hi
      · rename_i bs hb
        obtain ⟨h1, h2⟩ := it_ok o hb (chkL_ok es bs o hi).2
        exact psE_for (ps_for hp o.calm h1 (chkT_ok o t _ ht) (chkSs_ok hp x _ o hs) h2)
      · cases hi
    · cases h
  | .forO x i b, a, pr, W, o, h => by simp [chkS] at h
  | .ret e, a, pr, W, o, h => by
    simp only [chkS] at h
    split at h
    · exact psE_ret (chkE_ok e _ o h).pe
    · cases h
  | .retN, a, pr, W, o, h => by
    simp only [chkS] at h
    split at h
    · exact psE_retN
    · cases h
  | .pass, a, pr, W, o, h => by
    simp only [chkS] at h
    split at h
    · exact psE_pass
    · cases h
  | .brk, a, pr, W, o, h => by simp [chkS] at h
  | .cont, a, pr, W, o, h => by simp [chkS] at h
  | .frz i, a, pr, W, o, h => by simp [chkS] at h
  | .wks _ _ _ _ _, a, pr, W, o, h => by simp [chkS] at h
  | .raise C ks es, a, pr, W, o, h => raise_ok o (by simpa only [chkS] using h)
  | .fput C i f e, a, pr, W, o, h => by simp [chkS] at h
  | .faug C i f op e, a, pr, W, o, h => by simp [chkS] at h
  | .wkr _ _, a, pr, W, o, h => by simp [chkS] at h
  | .wkc _ _ _ _ _ _ _, a, pr, W, o, h => by simp [chkS] at h
  | .fdst _ _ _ _ _ _, a, pr, W, o, h => by simp [chkS] at h
  | .view i fo ps s, a, pr, W, o, h => by simp [chkS] at h
  | .bad, a, pr, W, o, h => psE_bad
theorem chkSs_ok (hp : PassesOwn (model X.prog X.w) X.A X.env X.xe) : ∀ (s : List S) (as : List Stmt) {pr : Nat → Bool} {W : WX}, CkOk c X W mg call → chkSs c pr s as = true → PSs X as (tS X.K mg W pr (exs call s))
  | [], as, pr, W, o, h => by
    simp only [chkSs, List.isEmpty_iff] at h
    subst h
    exact pssE_nil
  | s :: r, as, pr, W, o, h => by
    rw [chkSs.eq_def] at h
    dsimp only at h
    cases hz : isFrz s with
    | some i =>
      rw [hz] at h
      have : s = .frz i := by
        cases s <;> simp [isFrz] at hz
        rw [hz]
      subst this
      exact pssE_frz (chkSs_ok hp r as o h)
    | none =>
      rw [hz] at h
      simp only at h
      cases hw : isWks s with
      | some q =>
        obtain ⟨i, ret, op, es, rhs⟩ := q
        rw [hw] at h
        simp only at h
        have : s = .wks i ret op es rhs := by
          cases s <;> simp [isWks] at hw
          obtain ⟨rfl, rfl, rfl, rfl, rfl⟩ := hw
          rfl
        subst this
        cases hq : chkWks c pr i ret op es rhs as with
        | none =>
          rw [hq] at h
          dsimp only at h
          split at h
          case h_2 => cases h
          rename_i e2 r'
          split at h
          case h_2 => cases h
          rename_i as' hq2
          simp only [Bool.and_eq_true, Bool.not_eq_true', decide_eq_true_eq] at h
          obtain ⟨⟨rfl, rfl⟩, h⟩ := h
          exact wka_ok o hq2 (chkSs_ok hp r' as' o h)
        | some as' =>
          rw [hq] at h
          exact wks_ok o hq (chkSs_ok hp r as' o h)
      | none =>
      rw [hw] at h
      simp only at h
      cases hr : isWkr s with
      | some q =>
        obtain ⟨i, es⟩ := q
        rw [hr] at h
        simp only at h
        have : s = .wkr i es := by
          cases s <;> simp [isWkr] at hr
          obtain ⟨rfl, rfl⟩ := hr
          rfl
        subst this
        cases hq : chkWkr c pr i es as with
        | none => rw [hq] at h; cases h
        | some as' =>
          rw [hq] at h
          exact wkr_ok o hq (chkSs_ok hp r as' o h)
      | none =>
      rw [hr] at h
      simp only at h
      cases hc : isWkc s with
      | some q =>
        obtain ⟨i, op, es, e2, k, rT, rF⟩ := q
        rw [hc] at h
        simp only at h
        have : s = .wkc i op es e2 k rT rF := by
          cases s <;> simp [isWkc] at hc
          obtain ⟨rfl, rfl, rfl, rfl, rfl, rfl, rfl⟩ := hc
          rfl
        subst this
        cases hq : chkWkc c pr i op es e2 k rT rF as with
        | none => rw [hq] at h; cases h
        | some as' =>
          rw [hq] at h
          exact wkc_ok o hq (chkSs_ok hp r as' o h)
      | none =>
      rw [hc] at h
      cases as with
      | nil => cases h
      | cons a as =>
        simp only [Bool.and_eq_true] at h
        exact pssE_cons (chkS_ok hp s a o h.1) (chkSs_ok hp r as o h.2)
end
end
/-! ### defs -/
structure DefT where
  st : Stmt
  N : List Str
  fd : FD
  lam : Bool
abbrev Tbl := List (Str × DefT)
class Xs where
  exs : Str → Option (List Str)
  kd : Bool
  cls : List (Str × List Str) := []
  met : List (Str × Str × Str) := []
  tup : List (Str × List (List Nat)) := []
  kwo : List (Str × Str) := []
variable [Xs]
def Tbl.fds (t : Tbl) : Str → Option FD := fun f => (t.lookup f).map (·.fd)
def Tbl.ck (t : Tbl) (gls : Str → D → Bool) (d : DefT) : Ck := ⟨d.N, (defScope d.st).names, fun f => match Xs.met.lookup f with
  | some _ => none
  | none => (t.lookup f).map (·.fd.np), gls, d.lam, Xs.exs, d.lam && Xs.kd, fun C => Xs.cls.lookup C, fun f => match Xs.met.lookup f with
  | some (C, m) => (t.lookup f).map fun d => (C, m, d.fd.np)
  | none => none, fun g => Xs.tup.lookup g, fun f => Xs.kwo.lookup f⟩
def scopeB (N P : List Str) (sc : Scope) : Bool := (match sc.kind with | .function => true | _ => false) && !sc.isCoroutine && !sc.isGenerator && decide N.Nodup && decide (N.take P.length = P) && P.all (fun x => match sc.names.lookup x with | some .local => true | some .cell => true | _ => false) && sc.names.all (fun y => match y.2 with | .free => false | _ => true)
theorem scope_of {N P : List Str} {sc : Scope} (h : scopeB N P sc = true) : FnScope N P sc := by
  simp only [scopeB, Bool.and_eq_true, decide_eq_true_eq, Bool.not_eq_true', List.all_eq_true] at h
  obtain ⟨⟨⟨⟨⟨⟨h1, h2⟩, h3⟩, h4⟩, h5⟩, h6⟩, h7⟩ := h
  refine ⟨?_, h2, h3, h4, h5, fun x hx => ?_, fun y hy e => ?_⟩
  · split at h1
    · assumption
    · cases h1
  · have := h6 x hx
    split at this
    · exact .inl (by assumption)
    · exact .inr (by assumption)
    · cases this
  · have := h7 y hy
    rw [e] at this; cases this
def okDef (t : Tbl) (gls : Str → D → Bool) (d : DefT) : Bool :=
  scopeB d.N (d.N.take d.fd.np) (defScope d.st) && (d.fd.ns == d.N.length) && decide (d.fd.np ≤ d.N.length) && (d.fd.io.length == d.fd.np) && chkSs (t.ck gls d) (fun i => d.fd.io.getD i false) d.fd.body (defBody d.st)
section
variable {P : Program} {w : World} {K : PySem.W.Frag} {mg : Str → Option Value} {base : Heap}
structure Facts (K : PySem.W.Frag) (mg : Str → Option Value) (t : Tbl) (gls : Str → D → Bool) : Prop where
  blt : ∀ x, (x ∈ (["isinstance", "range", "enumerate", "zip", "list"] : List Str) ∨ ∃ f, x = fnName f) ∨ (∃ t ∈ cNames, x = Str.ofString t) → mg x = none
  gls : ∀ x d, gls x d = true → ∃ u v, mg x = some u ∧ RelV v u ∧ Const K v d
  fns : ∀ f d, t.lookup f = some d → Xs.met.lookup f = none → ∃ fa fd, L2.Fun K f f d.st fa fd ∧ mg f = some (.ref fa) ∧ Binds K fd (d.N.take d.fd.np) []
  mets : ∀ f d C m, t.lookup f = some d → Xs.met.lookup f = some (C, m) → d.lam = false ∧ ∃ Ca fa fd, L2.Fun K m f d.st fa fd ∧ mg C = some (.ref Ca) ∧ Cls K Ca ∧ (m = "__init__" → Mk K Ca fa) ∧ (m ≠ "__init__" → Meth K Ca m fa) ∧ Binds K fd (d.N.take d.fd.np) (kwD (Xs.kwo.lookup f))
  tups : ∀ g ws, Xs.tup.lookup g = some ws → ∃ a, mg g = some (.ref a) ∧ TupK K a ws
  clss : ∀ C fs, Xs.cls.lookup C = some fs → ∃ Ca, mg C = some (.ref Ca) ∧ Cls K Ca ∧ ∀ f ∈ fs, NoAttr K Ca f
theorem slots_start {F H : Hp} : ∀ {vs : List V} {ds : List D} {A : AS} (n : Nat), OwnL K mg F H vs ds A → Slots K mg F H (vs.map some ++ List.replicate n none) (ds.map some ++ List.replicate n none) A
  | [], [], A, n, _ => by
    induction n with
    | zero => exact .nil
    | succ n ih => exact .skip ih
  | _ :: _, _ :: _, A, n, .cons o r d s1 s2 => .cons o (slots_start n r) d s1 s2
theorem outs_ok {F H : Hp} : ∀ {io : List Bool} {σ : SG} {ρ : Env'} {A : AS} {vs : List V}, Slots K mg F H σ ρ A → io.length = vs.length → (∀ (i : Nat) v, vs[i]? = some v → io[i]? = some true → σ[i]? = some (some v)) → Slots K mg F H (vs.map some) (outsOf ρ io) A
  | [], σ, ρ, A, vs, s, hl, h => by
    cases vs with
    | nil => cases ρ <;> exact .nil
    | cons _ _ => simp at hl
  | b :: io, σ, ρ, A, vs, s, hl, h => by
    cases vs with
    | nil => simp at hl
    | cons v vs =>
      have tail : ∀ {σ : SG}, (∀ (i : Nat) w, vs[i]? = some w → io[i]? = some true → σ[i]? = some (some w)) → ∀ {ρ : Env'} {A : AS}, Slots K mg F H σ ρ A → Slots K mg F H (vs.map some) (outsOf ρ io) A := fun k ρ A s => outs_ok s (by simpa using hl) k
      cases s with
      | nil => exact .skip (tail (σ := []) (fun i w h1 h2 => by simpa using h (i + 1) w (by simpa using h1) (by simpa using h2)) .nil)
      | skip s =>
        simp only [outsOf, ite_self]
        exact .skip (tail (fun i w h1 h2 => by simpa using h (i + 1) w (by simpa using h1) (by simpa using h2)) s)
      | cons o s d s1 s2 =>
        have k := tail (fun i w h1 h2 => by simpa using h (i + 1) w (by simpa using h1) (by simpa using h2)) s
        simp only [outsOf]
        cases b with
        | false => exact .skip (k.sub s2)
        | true =>
          have := h 0 v rfl rfl
          simp at this
          subst this
          exact .cons o k d s1 s2
def LamF (mg : Str → Option Value) (base : Heap) (f : Str) (fd : FuncData) : Prop := ∃ c P, fd.code = .ref c ∧ Tn.tn P (f ++ (".<locals>." : Str) ++ ("<lambda>" : Str)) ∧ LamX.TabB base mg c P
theorem fun_run {x qual : Str} {st : Stmt} {f : Addr} {fd : FuncData} {N ps : List Str} {k : Nat} {sp : Sp} (F : L2.Fun K x qual st f fd) (S : FnScope N ps (defScope st)) (len : ∀ vs H Q E, sp vs H Q E → vs.length = ps.length)
    (hb : ∀ (cdv : Value), fd.code = cdv → ∀ (A : Around) (outer : List Env) (s : Shared) (H : Hp) (vs : List V) (Q : VK) (E : XK), Room k (A.deeper (envOfC qual (defScope st) s.heap.objs.size f cdv)) → sp vs H Q E →
      ∃ t, PSs (cxOf (L2.CX P w) P w K mg base N qual (defScope st) f cdv A outer s H E) (defBody st) t ∧ t { nx := fun _ H' => Q .non H', rt := Q } (start N vs) H) : FnOk P w K mg base (L2.CX P w) (k + 1) f fd ps sp := by
  obtain ⟨oc, od, kV, doc, pm, an, cdv, ct, osl, rfl, lk, hcd⟩ := F.ex
  exact fn_of lk hcd S len fun A outer s H vs Q E hr z => hb cdv rfl A outer s H vs Q E hr z
def lv (n : Nat) : Nat := 4 * n + 7
def RzF (P : Program) (w : World) (K : PySem.W.Frag) (mg : Str → Option Value) (base : Heap) (C : Str) (ks : List Str) : Prop :=
  (ks = [] ∧ ∃ (Ca : Addr) (bmB : List Value) (B newId initId : String), ExcBaseFacts B newId initId bmB ∧ PySem.W.excIn K Ca bmB newId = true ∧ mg C = some (.ref Ca) ∧ PySem.W.keepIn K (.ref Ca) = true ∧ PySem.W.subIn K (.ref Ca) (.type "BaseException") = some true ∧ PySem.W.typeIn K (.ref Ca) = some (.type "type")) ∨
  (ks ≠ [] ∧ ∃ (Ca fI : Addr) (fd : FuncData) (g : List Value → List Value → List Value) (gV : List V → List V → List V), mg C = some (.ref Ca) ∧ OexC K Ca ∧ PySem.W.findIn K (.ref Ca) "__init__" = some (some (.ref fI)) ∧ PySem.W.typeIn K (.ref fI) = some (.type "function") ∧
    FnOk P w K mg base (L2.CX P w) 1 fI fd ("self" :: ks) (spIni K ks) ∧ KBn K fd ("self" :: ks) 1 ks g gV ∧ (∀ r zs, gV [r] zs = r :: zs) ∧ ∀ f ∈ ks, PySem.W.findIn K (.ref Ca) f = some none)
theorem RzF.at (X : Cx) {C : Str} {ks : List Str} (z : RzF X.prog X.w X.K X.mg X.base C ks) (hr : Room 2 X.A) : RzC X C ks := by
  rcases z with ⟨e, Ca, bmB, B, newId, initId, h1, h2, h3, h4, h5, h6⟩ | ⟨e, Ca, fI, fd, g, gV, h1, h2, h3, h4, h5, h6, h7, h8⟩
  · exact .inl ⟨e, Ca, bmB, B, newId, initId, h1, h2, h3, h4, raises_own h5 h6⟩
  · exact .inr ⟨e, Ca, fI, fd, 1, g, gV, h1, h2, h3, h4, h5, hr, h6, h7, h8⟩
theorem table_ok {t : Tbl} {gls : Str → D → Bool} (fx : Facts K mg t gls) (hlam : ∀ f d, t.lookup f = some d → d.lam = true → ∀ fa fd, mg f = some (.ref fa) → L2.Fun K f f d.st fa fd → LamF mg base f fd) (hexc : ∀ C ks, Xs.exs C = some ks → RzF P w K mg base C ks) (hkind : Xs.kd = true → KindK K mg) (hok : ∀ f d, t.lookup f = some d → okDef t gls d = true) : ∀ (n : Nat) (f : Str) (d : DefT), t.lookup f = some d → ∀ x fa fd, L2.Fun K x f d.st fa fd → (d.lam = true → LamF mg base f fd) → FnOk P w K mg base (L2.CX P w) (lv n) fa fd (d.N.take d.fd.np) (spC K mg (run t.fds n) f d.fd.np) := by
  intro n
  induction n with
  | zero =>
    intro f d hf x fa fd F _
    have bad : ∀ {vs H Q E}, spC K mg (run t.fds 0) f d.fd.np vs H Q E → False := fun {vs H Q E} h => by
      obtain ⟨_, F, A, ds, _, _, p⟩ := h
      simp only [run] at p
      exact p
    exact ⟨fun vs H Q E h => (bad h).elim, fun A outer s H args us vs Q E hr e0 hb r hsp => (bad hsp).elim⟩
  | succ n ih =>
    intro f d hf x fa fd FN hlf
    have ok := hok f d hf
    simp only [okDef, Bool.and_eq_true, decide_eq_true_eq, beq_iff_eq] at ok
    obtain ⟨⟨⟨⟨o1, o2⟩, o3⟩, o4⟩, o5⟩ := ok
    have S := scope_of o1
    refine fun_run (k := 4 * n + 10) FN S (fun vs H Q E h => by rw [h.1, List.length_take]; omega) fun cdv hcode A outer s H vs Q E hr h => ?_
    obtain ⟨hl, F, A0, ds, w0, ol, p⟩ := h
    have lds : ds.length = d.fd.np := by rw [← ol.len, hl]
    have cko : CkOk (t.ck gls d) (cxOf (L2.CX P w) P w K mg base d.N f (defScope d.st) fa cdv A outer s H E) (fun cls dx _ H => E cls dx H) mg (run t.fds n) :=
      { n := rfl, nd := S.nd, kind := S.kind, look := fun x k h _ => h, free := fun x h => .inr h, fn := fun x _ => rfl, calm := rfl
        units := by have := hr.un; show (A.deeper _).units + 65 < _; omega
        blt := fx.blt, gls := fx.gls
        fns := fun g m hg => by
          simp only [Tbl.ck] at hg
          split at hg
          · cases hg
          rename_i hn
          rw [Option.map_eq_some_iff] at hg
          obtain ⟨d2, h1, rfl⟩ := hg
          obtain ⟨fa2, fd2, F2, m2, b2⟩ := fx.fns g d2 h1 hn
          exact ⟨lv n, fa2, fd2, _, ih g d2 h1 _ fa2 fd2 F2 (fun hl => hlam g d2 h1 hl fa2 fd2 m2 F2), hr.mono (Nat.le_add_right (4 * n + 7) 3), m2, F2.kp, b2⟩
        clss := fx.clss
        gtp := fx.tups
        mets := fun g C m k hg => by
          simp only [Tbl.ck] at hg
          split at hg
          case h_2 => cases hg
          rename_i C' m' hn
          rw [Option.map_eq_some_iff] at hg
          obtain ⟨d2, h1, h2⟩ := hg
          cases h2
          obtain ⟨hl, Ca, fa2, fd2, F2, m2, hc, hk, hm, b2⟩ := fx.mets g d2 C m h1 hn
          exact ⟨lv n, Ca, fa2, fd2, _, ih g d2 h1 _ fa2 fd2 F2 (fun z => by rw [hl] at z; cases z), hr.mono (by show 4 * n + 7 + 1 ≤ 4 * n + 10; omega), m2, hc, hk, hm, b2⟩
        takes := takes_of rfl rfl rfl rfl
        lam := fun hl => by
          obtain ⟨c, P', e1, e2, e3⟩ := hlf hl
          exact ⟨⟨c, P', hcode.symm.trans e1, e2, e3⟩, hr.mono (by omega)⟩
        exc := fun C ks hx => RzF.at _ (hexc C ks hx) (hr.mono (by omega))
        kin := fun hk => by
          simp only [Tbl.ck, Bool.and_eq_true] at hk
          refine ⟨hkind hk.2, lv n + 1, hr, fun g C m k hg => ?_, fun g m hg => ?_⟩
          · simp only [Tbl.ck] at hg
            split at hg
            case h_2 => cases hg
            rename_i C' m' hn
            rw [Option.map_eq_some_iff] at hg
            obtain ⟨d2, h1, h2⟩ := hg
            cases h2
            obtain ⟨hl, Ca, fa2, fd2, F2, m2, hc, hk, hm, b2⟩ := fx.mets g d2 C m h1 hn
            exact ⟨lv n, Ca, fa2, fd2, _, Nat.le_refl _, ih g d2 h1 _ fa2 fd2 F2 (fun z => by rw [hl] at z; cases z), m2, hc, hk, hm, b2⟩
          simp only [Tbl.ck] at hg
          split at hg
          · cases hg
          rename_i hn
          rw [Option.map_eq_some_iff] at hg
          obtain ⟨d2, h1, rfl⟩ := hg
          obtain ⟨fa2, fd2, F2, m2, b2⟩ := fx.fns g d2 h1 hn
          exact ⟨lv n, fa2, fd2, _, Nat.le_succ _, ih g d2 h1 _ fa2 fd2 F2 (fun hl => hlam g d2 h1 hl fa2 fd2 m2 F2), m2, F2.kp, b2⟩
        same := rfl }
    refine ⟨_, chkSs_ok (passes_of rfl) _ _ cko o5, ?_⟩
    have hst : L2.start d.N vs = vs.map some ++ List.replicate (d.fd.ns - ds.length) none := by
      unfold L2.start; rw [o2, hl, lds]
    refine ⟨F, A0, ds.map some ++ List.replicate (d.fd.ns - ds.length) none, w0, by rw [hst]; exact slots_start _ ol, ?_⟩
    simp only [run, Tbl.fds, hf, Option.map_some, lds, if_true] at p
    rw [lds]
    have outs : ∀ {σ' : SG} {ρ : Env'} {F' H' : Hp} {A' : AS}, Slots K mg F' H' σ' ρ A' → SK (fun i => d.fd.io.getD i false) (L2.start d.N vs) σ' → Slots K mg F' H' (vs.map some) (outsOf ρ d.fd.io) A' := fun {σ' ρ F' H' A'} s k => by
      refine outs_ok s (by rw [o4, hl]) fun i v h1 h2 => ?_
      rw [k i (by simp [h2]), hst]
      have hi : i < vs.length := (List.getElem?_eq_some_iff.mp h1).1
      rw [List.getElem?_append_left (by simpa using hi), List.getElem?_map, h1]
      rfl
    cases hr : exs (run t.fds n) d.fd.body (ds.map some ++ List.replicate (d.fd.ns - d.fd.np) none) with
    | nx ρ =>
      rw [hr] at p
      exact fun σ' F' H' A' x s k => p .non F' H' A' no (by rw [cup_no']; exact x) (outs s k) (.fz .non) Dj.no_r
    | ret dd ρ =>
      rw [hr] at p
      exact fun v σ' F' H' A' B x s k o dj => p v F' H' A' B x (outs s k) o dj
    | err x ρ =>
      rw [hr] at p
      exact fun σ' k cls dx F' H' A' e s y => p cls dx F' H' A' e (outs s k) y
    | brk ρ => rw [hr] at p; exact p.elim
    | cont ρ => rw [hr] at p; exact p.elim
    | bad => rw [hr] at p; exact p.elim
def spLaw (K : PySem.W.Frag) (m : Nat) : Sp := fun vs H Q _ => ∃ (a : Addr) (ns : List Int), vs = [.ref a] ∧ SqL K H a (ns.map V.int) ∧ ns.length ≤ m ∧ (∀ P q, Tn.tn P q → H P = some (.tbl #[])) ∧ ∀ H', Q (.bl true) H'
def noTbl (H : Hp) : Hp := fun a => match H a with
  | some (.tbl _) => none
  | o => o
theorem noTbl_of {H : Hp} {a : Addr} {u : HO} (h : H a = some u) (n : ∀ ps, u ≠ .tbl ps) : noTbl H a = some u := by
  unfold noTbl
  rw [h]
  cases u <;> first | rfl | exact (n _ rfl).elim
theorem noTbl_same {H : Hp} : Same (noTbl H) H := fun a u e => by
  unfold noTbl at e
  cases h : H a with
  | none => rw [h] at e; cases e
  | some o => rw [h] at e; cases o <;> first | exact e | cases e
theorem noTbl_not {H : Hp} (a : Addr) (ps : Array Value) : noTbl H a ≠ some (.tbl ps) := fun e => by
  unfold noTbl at e
  cases h : H a with
  | none => rw [h] at e; cases e
  | some o => rw [h] at e; cases o <;> cases e
theorem law_ok {t : Tbl} {gls : Str → D → Bool} (fx : Facts K mg t gls) (hlam : ∀ f d, t.lookup f = some d → d.lam = true → ∀ fa fd, mg f = some (.ref fa) → L2.Fun K f f d.st fa fd → LamF mg base f fd) (hexc : ∀ C ks, Xs.exs C = some ks → RzF P w K mg base C ks) (hkind : Xs.kd = true → KindK K mg) (hok : ∀ f d, t.lookup f = some d → okDef t gls d = true) {n m : Nat} {f : Str} {d : DefT} (hf : t.lookup f = some d) (h1 : d.fd.np = 1) {fa : Addr} {fd : FuncData} (hmg : mg f = some (.ref fa)) (F : L2.Fun K f f d.st fa fd)
    (hrun : ∀ ns : List Int, ns.length ≤ m → ∃ outs, run t.fds n f [.scr ns] = .ok (.bl true) outs) : FnOk P w K mg base (L2.CX P w) (lv n) fa fd (d.N.take d.fd.np) (spLaw K m) := by
  refine (table_ok fx hlam hexc hkind hok n f d hf _ fa fd F (fun hl => hlam f d hf hl fa fd hmg F)).imp fun vs H Q E h => ?_
  obtain ⟨a, ns, rfl, hs, hl, ht, q⟩ := h
  obtain ⟨outs, hr⟩ := hrun ns hl
  have hs' : SqL K (noTbl H) a (ns.map V.int) := by
    rcases hs with (h | ⟨o, h⟩) | h
    · exact .inl (.inl (noTbl_of h fun _ z => nomatch z))
    · exact .inl (.inr ⟨o, noTbl_of h fun _ z => nomatch z⟩)
    · exact .inr h
  refine ⟨by rw [h1]; rfl, noTbl H, no, [.scr ns], ⟨noTbl_same, fun _ h => h.elim, fun P q t => .nil (ht P q t), noTbl_not⟩, .cons (.fz (.scr hs')) .nil Dj.no_r Sb.rfl' Sb.rfl', ?_⟩
  rw [hr]
  intro v F' H' A' B e s o dj
  rw [o.bl]
  exact q H'
end
abbrev noXs : Xs := { exs := fun _ => none, kd := false }
abbrev noTn : Tn := ⟨[], fun _ h => by simp at h⟩
end VI

namespace VI
instance (priority := low) dfltTn : Tn := noTn
instance (priority := low) dfltXs : Xs := noXs
open PySem PySem.Spec PyProof.Rows L2
inductive GV where
  | int (i : Int) | str (l : List Nat)
def GV.v : GV → V
  | .int i => .int i
  | .str l => .str ⟨l.toArray⟩
def GV.is : GV → D → Bool
  | .int i, .int j => i == j
  | .str l, .str k => decide (l = k) && okCs l
  | _, _ => false
def glB (cs : List (Str × GV)) : Str → D → Bool := fun x d => match cs.lookup x with
  | some v => v.is d
  | none => false
theorem glB_ok {K : PySem.W.Frag} {mg : Str → Option Value} {cs : List (Str × GV)} (h : ∀ x v, cs.lookup x = some v → ∃ u, mg x = some u ∧ RelV v.v u) : ∀ x d, glB cs x d = true → ∃ u v, mg x = some u ∧ RelV v u ∧ Const K v d := fun x d hd => by
  unfold glB at hd
  split at hd
  · rename_i v hv
    obtain ⟨u, h1, h2⟩ := h x v hv
    refine ⟨u, v.v, h1, h2, ?_⟩
    cases v with
    | int i =>
      cases d <;> simp only [GV.is, Bool.false_eq_true] at hd
      rw [beq_iff_eq.mp hd]
      exact fun F => .int _
    | str l =>
      cases d <;> simp only [GV.is, Bool.false_eq_true] at hd
      simp only [Bool.and_eq_true, decide_eq_true_eq] at hd
      rw [← hd.1]
      exact fun F => .str l hd.2
  · cases hd
end VI
namespace VI
open PySem PySem.Spec PyProof.Rows L2
def bltL : List Str := ["isinstance", "range", "enumerate", "zip", "list", "len", "abs", "max", "min", "sum", "sorted", "tuple", "int", "str", "all", "any", "dict", "set", "bool"]
theorem blt_ok {mg : Str → Option Value} (h : ∀ x ∈ bltL, mg x = none) : ∀ x, (x ∈ (["isinstance", "range", "enumerate", "zip", "list"] : List Str) ∨ ∃ f, x = fnName f) ∨ (∃ t ∈ cNames, x = Str.ofString t) → mg x = none := fun x hx => by
  refine h x ?_
  rcases hx with (hx | ⟨f, rfl⟩) | ⟨t, ht, rfl⟩
  · simp only [List.mem_cons, List.not_mem_nil, or_false] at hx
    rcases hx with rfl | rfl | rfl | rfl | rfl <;> decide +kernel
  · cases f <;> decide +kernel
  · simp only [cNames, List.mem_cons, List.not_mem_nil, or_false] at ht
    rcases ht with rfl | rfl | rfl | rfl | rfl | rfl <;> decide +kernel
theorem lk_nil {α : Type} {Pp : Str → α → Prop} : ∀ f d, List.lookup f ([] : List (Str × α)) = some d → Pp f d := fun f d h => by simp at h
theorem lk_cons {α : Type} {Pp : Str → α → Prop} {f0 : Str} {d0 : α} {r : List (Str × α)} (h : Pp f0 d0) (hr : ∀ f d, List.lookup f r = some d → Pp f d) : ∀ f d, List.lookup f ((f0, d0) :: r) = some d → Pp f d := fun f d hf => by
  rw [List.lookup_cons] at hf
  cases hb : f == f0 with
  | true => rw [hb] at hf; cases hf; rw [beq_iff_eq.mp hb]; exact h
  | false => rw [hb] at hf; exact hr f d hf
theorem cx_false {P : Program} {w : World} {outer : List Env} {H : Hp} {s : Shared} {u : Value} {s' : Shared} (h : L2.CX P w outer H s (fun _ _ _ => False) u s') : False := by
  obtain ⟨_, _, _, _, _, _, _, _, _, _, _, _, z⟩ := h
  exact z
end VI
namespace VI
open PySem PySem.Spec PyProof.Rows L2
theorem hok_of [Xs] {t : Tbl} {gls : Str → D → Bool} (h : (t.all fun p => okDef t gls p.2) = true) : ∀ f d, t.lookup f = some d → okDef t gls d = true := fun f d hf =>
  List.all_eq_true.mp h (f, d) (PySem.mem_of_lookup hf)
end VI

namespace VI
open PySem L2
def finR (io : List Bool) : SR → FR
  | .ret d ρ => .ok d (outsOf ρ io)
  | .nx ρ => .ok .non (outsOf ρ io)
  | .err x ρ => .err x (outsOf ρ io)
  | _ => .bad
theorem run_eq {t : Str → Option FD} {n : Nat} {f : Str} {fd : FD} {ds : List D} (h : t f = some fd) (hl : ds.length = fd.np) :
    run t (n + 1) f ds = finR fd.io (exs (run t n) fd.body (ds.map some ++ List.replicate (fd.ns - ds.length) none)) := by
  simp only [run, h, hl, if_true]
  cases exs (run t n) fd.body (ds.map some ++ List.replicate (fd.ns - fd.np) none) <;> rfl
theorem sIx_none' (n d : Nat) : HT.sIx n d none = d := HT.sIx_none _ _
theorem sIx_nat' (n d k : Nat) : HT.sIx n d (some (k : Int)) = min k n := HT.sIx_nat n d k
theorem cut_to {α : Type} (xs : List α) (k : Nat) : cutD xs none (some (k : Int)) = xs.take k := by
  unfold cutD
  rw [sIx_none', sIx_nat']
  simp
theorem cut_from {α : Type} (xs : List α) (k : Nat) : cutD xs (some (k : Int)) none = xs.drop k := by
  unfold cutD
  rw [sIx_none', sIx_nat']
  rw [List.take_of_length_le (by simp)]
  by_cases h : k ≤ xs.length
  · rw [Nat.min_eq_left h]
  · rw [Nat.min_eq_right (by omega), List.drop_length, List.drop_of_length_le (by omega)]
theorem cut_mid {α : Type} (xs : List α) (k l : Nat) (h : l ≤ xs.length) : cutD xs (some (k : Int)) (some (l : Int)) = (xs.drop k).take (l - k) := by
  unfold cutD
  rw [sIx_nat', sIx_nat', Nat.min_eq_left h]
  by_cases hk : k ≤ xs.length
  · rw [Nat.min_eq_left hk]
  · rw [Nat.min_eq_right (by omega), List.drop_length, List.drop_of_length_le (by omega)]; simp
theorem ixN_nat {n k : Nat} (h : k < n) : ixN n (k : Int) = some k := by
  unfold ixN
  split <;> first | (simp_all; done) | skip
  all_goals (simp_all <;> omega)
theorem atD_nat {α : Type} {xs : List α} {k : Nat} (h : k < xs.length) : atI xs (k : Int) = xs[k]? := by
  unfold atI
  rw [ixN_nat h]; rfl
theorem pure_ints : ∀ ns : List Int, pureL (ns.map .int) = true
  | [] => rfl
  | n :: r => by simp [pureL, D.pure, pure_ints r]
end VI

namespace VI
open PySem L2
section
variable {call : CallT}
structure WR {α : Type} (r : R α) (Q : α → Env' → Prop) : Prop where
  ex : ∃ a ρ, r = .ok a ρ ∧ Q a ρ
structure WO (o : Option D) (Q : D → Prop) : Prop where
  ex : ∃ d, o = some d ∧ Q d
structure KS where
  nx : Env' → Prop
  rt : D → Env' → Prop
  bk : Env' → Prop := fun _ => False
  ct : Env' → Prop := fun _ => False
  er : Ex → Env' → Prop := fun _ _ => False
def WXd (r : SR) (k : KS) : Prop := match r with
  | .nx ρ => k.nx ρ
  | .ret d ρ => k.rt d ρ
  | .brk ρ => k.bk ρ
  | .cont ρ => k.ct ρ
  | .err x ρ => k.er x ρ
  | .bad => False
structure WX (r : SR) (k : KS) : Prop where
  out : WXd r k
theorem WR.imp {α : Type} {r : R α} {Q Q' : α → Env' → Prop} (h : WR r Q) (f : ∀ a ρ, Q a ρ → Q' a ρ) : WR r Q' := let ⟨⟨a, ρ, e, q⟩⟩ := h; ⟨a, ρ, e, f a ρ q⟩
variable {ρ : Env'} {Q : D → Env' → Prop} {QL : List D → Env' → Prop} {k : KS}
/-! expressions -/
theorem W_var {i : Nat} {d : D} (h : ρ[i]? = some (some d)) (q : Q d ρ) : WR (ev call (.var i) ρ) Q := ⟨d, ρ, by simp only [ev, h], q⟩
theorem W_use {i : Nat} {d : D} (h : ρ[i]? = some (some d)) (c : d.can = true) (q : Q d.frz (ρ.set i (some d.frz))) : WR (ev call (.use i) ρ) Q := ⟨d.frz, _, by simp only [ev, h, D.can_cand c, if_true], q⟩
theorem W_useC {i : Nat} {d : D} (h : ρ[i]? = some (some d)) (c : d.cand = true) (q : Q d.frz (ρ.set i (some d.frz))) : WR (ev call (.use i) ρ) Q := ⟨d.frz, _, by simp only [ev, h, c, if_true], q⟩
theorem W_take {i : Nat} {d : D} (h : ρ[i]? = some (some d)) (q : Q d (ρ.set i none)) : WR (ev call (.take i) ρ) Q := ⟨d, _, by simp only [ev, h], q⟩
theorem W_cst {d : D} (q : Q d ρ) : WR (ev call (.cst d) ρ) Q := ⟨d, ρ, by simp only [ev], q⟩
theorem W_glob {x : Str} {d : D} (q : Q d ρ) : WR (ev call (.glob x d) ρ) Q := ⟨d, ρ, by simp only [ev], q⟩
theorem W_op {o : Op} {es : List E} (h : WR (evR call es ρ) fun ds ρ' => WO (opD o ds) fun d => (o != .ix || d.pure || sharesL es) = true ∧ Q d ρ') : WR (ev call (.op o es) ρ) Q := by
  obtain ⟨ds, ρ', e, d, h1, h2, q⟩ := h
  exact ⟨d, ρ', by simp only [ev, e, R.bind, h1, h2, if_true], q⟩
theorem W_rnil (q : QL [] ρ) : WR (evR call [] ρ) QL := ⟨[], ρ, by simp only [evR], q⟩
theorem W_rvar {i : Nat} {d0 : D} {es : List E} (h : ρ[i]? = some (some d0)) (q : WR (evR call es ρ) fun ds ρ2 => ∃ d, ρ2[i]? = some (some d) ∧ QL (d :: ds) ρ2) : WR (evR call (.var i :: es) ρ) QL := by
  obtain ⟨ds, ρ2, e, d, h2, q⟩ := q
  exact ⟨d :: ds, ρ2, by simp only [evR, varOf, h, e, R.bind, h2], q⟩
theorem W_rcons {e : E} {es : List E} (hv : varOf e = none) (q : WR (ev call e ρ) fun d ρ1 => WR (evR call es ρ1) fun ds ρ2 => (!shares e || d.pure || quietL es) = true ∧ QL (d :: ds) ρ2) : WR (evR call (e :: es) ρ) QL := by
  obtain ⟨d, ρ1, e1, ds, ρ2, e2, c, q⟩ := q
  exact ⟨d :: ds, ρ2, by simp only [evR, hv, e1, R.bind, e2, c, if_true], q⟩
theorem W_cnil (q : QL [] ρ) : WR (evC call [] ρ) QL := ⟨[], ρ, by simp only [evC], q⟩
theorem W_ccons {e : E} {es : List E} (q : WR (ev call e ρ) fun d ρ1 => WR (evC call es ρ1) fun ds ρ2 => (!shares e || d.pure) = true ∧ QL (d :: ds) ρ2) : WR (evC call (e :: es) ρ) QL := by
  obtain ⟨d, ρ1, e1, ds, ρ2, e2, c, q⟩ := q
  exact ⟨d :: ds, ρ2, by simp only [evC, e1, R.bind, e2, c, if_true], q⟩
theorem W_anil {QA : List Ar → Env' → Prop} (q : QA [] ρ) : WR (evA call [] ρ) QA := ⟨[], ρ, by simp only [evA], q⟩
theorem W_alend {QA : List Ar → Env' → Prop} {i : Nat} {d0 : D} {es : List E} (h : ρ[i]? = some (some d0)) (q : WR (evA call es ρ) fun ds ρ2 => QA (.lnt i :: ds) ρ2) : WR (evA call (.lend i :: es) ρ) QA := by
  obtain ⟨ds, ρ2, e, q⟩ := q
  exact ⟨_, ρ2, by simp only [evA, lendOf, h, e, R.bind], q⟩
theorem W_acons {QA : List Ar → Env' → Prop} {e : E} {es : List E} (hv : lendOf e = none) (q : WR (ev call e ρ) fun d ρ1 => WR (evA call es ρ1) fun ds ρ2 => (!shares e || d.pure) = true ∧ QA (.val d :: ds) ρ2) : WR (evA call (e :: es) ρ) QA := by
  obtain ⟨d, ρ1, e1, ds, ρ2, e2, c, q⟩ := q
  exact ⟨_, ρ2, by simp only [evA, hv, e1, R.bind, e2, c, if_true], q⟩
theorem W_call {f : Str} {as : List E} (q : WR (evA call as ρ) fun rs ρ1 => ∃ ds ρ2, fetch rs ρ1 = some (ds, ρ2) ∧ ∃ d outs, call f ds = .ok d outs ∧ Q d (back rs outs ρ2)) : WR (ev call (.call f as) ρ) Q := by
  obtain ⟨rs, ρ1, e1, ds, ρ2, e2, d, outs, e3, q⟩ := q
  exact ⟨d, _, by simp only [ev, e1, R.bind, e2, e3], q⟩
theorem W_chain {o1 o2 : CmpOp} {a b c : E} (q : WR (ev call a ρ) fun x ρ1 => WR (ev call b ρ1) fun y ρ2 => (x.pure && y.pure) = true ∧ ∃ t, cmpB o1 x y = some t ∧ (t = true → WR (ev call c ρ2) fun z ρ3 => z.pure = true ∧ WO (cmpO o2 y z) fun d => Q d ρ3) ∧ (t = false → Q (.bl false) ρ2)) : WR (ev call (.chain o1 o2 a b c) ρ) Q := by
  obtain ⟨x, ρ1, e1, y, ρ2, e2, hp, t, ht, h1, h2⟩ := q
  cases t with
  | true =>
    obtain ⟨z, ρ3, e3, hz, d, hd, q⟩ := h1 rfl
    exact ⟨d, ρ3, by simp only [ev, e1, R.bind, e2, hp, if_true, ht, e3, hz, hd, R.of], q⟩
  | false => exact ⟨_, ρ2, by simp only [ev, e1, R.bind, e2, hp, if_true, ht], h2 rfl⟩
theorem W_chain3 {o1 o2 o3 : CmpOp} {a b c d : E} (q : WR (ev call a ρ) fun x ρ1 => WR (ev call b ρ1) fun y ρ2 => (x.pure && y.pure) = true ∧ ∃ t, cmpB o1 x y = some t ∧ (t = true → WR (ev call c ρ2) fun z ρ3 => z.pure = true ∧ ∃ u, cmpB o2 y z = some u ∧ (u = true → WR (ev call d ρ3) fun w ρ4 => w.pure = true ∧ WO (cmpO o3 z w) fun d => Q d ρ4) ∧ (u = false → Q (.bl false) ρ3)) ∧ (t = false → Q (.bl false) ρ2)) : WR (ev call (.chain3 o1 o2 o3 a b c d) ρ) Q := by
  obtain ⟨x, ρ1, e1, y, ρ2, e2, hp, t, ht, h1, h2⟩ := q
  cases t with
  | true =>
    obtain ⟨z, ρ3, e3, hz, u, hu, h3, h4⟩ := h1 rfl
    cases u with
    | true =>
      obtain ⟨w, ρ4, e4, hw, d, hd, q⟩ := h3 rfl
      exact ⟨d, ρ4, by simp only [ev, e1, R.bind, e2, hp, if_true, ht, e3, hz, hu, e4, hw, hd, R.of], q⟩
    | false => exact ⟨_, ρ3, by simp only [ev, e1, R.bind, e2, hp, if_true, ht, e3, hz, hu], h4 rfl⟩
  | false => exact ⟨_, ρ2, by simp only [ev, e1, R.bind, e2, hp, if_true, ht], h2 rfl⟩
theorem W_and {a b : E} (q : WR (ev call a ρ) fun x ρ1 => ∃ t, x = .bl t ∧ (t = true → WR (ev call b ρ1) fun y ρ2 => ∃ u, y = .bl u ∧ Q (.bl u) ρ2) ∧ (t = false → Q (.bl false) ρ1)) : WR (ev call (.and a b) ρ) Q := by
  obtain ⟨x, ρ1, e1, t, rfl, h1, h2⟩ := q
  cases t with
  | true =>
    obtain ⟨y, ρ2, e2, u, rfl, q⟩ := h1 rfl
    exact ⟨_, ρ2, by simp only [ev, e1, R.bind, e2], q⟩
  | false => exact ⟨_, ρ1, by simp only [ev, e1, R.bind], h2 rfl⟩
theorem W_or {a b : E} (q : WR (ev call a ρ) fun x ρ1 => ∃ t, x = .bl t ∧ (t = false → WR (ev call b ρ1) fun y ρ2 => ∃ u, y = .bl u ∧ Q (.bl u) ρ2) ∧ (t = true → Q (.bl true) ρ1)) : WR (ev call (.or a b) ρ) Q := by
  obtain ⟨x, ρ1, e1, t, rfl, h1, h2⟩ := q
  cases t with
  | false =>
    obtain ⟨y, ρ2, e2, u, rfl, q⟩ := h1 rfl
    exact ⟨_, ρ2, by simp only [ev, e1, R.bind, e2], q⟩
  | true => exact ⟨_, ρ1, by simp only [ev, e1, R.bind], h2 rfl⟩
theorem W_not {a : E} (q : WR (ev call a ρ) fun x ρ1 => ∃ t, x = .bl t ∧ Q (.bl (!t)) ρ1) : WR (ev call (.not a) ρ) Q := by
  obtain ⟨x, ρ1, e1, t, rfl, q⟩ := q
  exact ⟨_, ρ1, by simp only [ev, e1, R.bind], q⟩
theorem W_ifx {c a b : E} (q : WR (ev call c ρ) fun x ρ1 => ∃ t, truD x = some t ∧ (t = true → WR (ev call a ρ1) fun y ρ2 => (!shares a || y.pure) = true ∧ Q y ρ2) ∧ (t = false → WR (ev call b ρ1) fun y ρ2 => (!shares b || y.pure) = true ∧ Q y ρ2)) : WR (ev call (.ifx c a b) ρ) Q := by
  obtain ⟨x, ρ1, e1, t, ht, h1, h2⟩ := q
  cases t with
  | true =>
    obtain ⟨y, ρ2, e2, c, q⟩ := h1 rfl
    exact ⟨y, ρ2, by simp only [ev, e1, R.bind, ht, e2, c, if_true], q⟩
  | false =>
    obtain ⟨y, ρ2, e2, c, q⟩ := h2 rfl
    exact ⟨y, ρ2, by simp only [ev, e1, R.bind, ht, e2, c, if_true], q⟩
theorem W_tup {es : List E} (q : WR (evC call es ρ) fun ds ρ' => (pureL ds && decide (ds.length ≤ lim)) = true ∧ Q (.tup ds) ρ') : WR (ev call (.tup es) ρ) Q := by
  obtain ⟨ds, ρ', e, c, q⟩ := q
  exact ⟨_, ρ', by simp only [ev, e, R.bind, c, if_true], q⟩
theorem W_lst {es : List E} (q : WR (evC call es ρ) fun ds ρ' => ds.length ≤ lim ∧ Q (.lst true ds) ρ') : WR (ev call (.lst es) ρ) Q := by
  obtain ⟨ds, ρ', e, c, q⟩ := q
  exact ⟨_, ρ', by simp only [ev, e, R.bind, c, if_true], q⟩
theorem W_mut0 {o : Mo} {i : Nat} {as : List E} {xs : List D} (h : ρ[i]? = some (some (.lst true xs))) (q : WR (evC call as ρ) fun ds ρ2 => ∃ d, ρ2[i]? = some (some d) ∧ ∃ d' r, moD o d ds = some (d', r) ∧ Q r (ρ2.set i (some d'))) : WR (ev call (.mut o i [] as) ρ) Q := by
  obtain ⟨ds, ρ2, e, d, h2, d', r, hm, q⟩ := q
  exact ⟨r, _, by simp [ev, evR, R.bind, intsO, h, isPath, e, h2, atPath, hm], q⟩
theorem W_idx {i : Nat} {as : List E} {m : Bool} {xs : List D} (h : ρ[i]? = some (some (.lst m xs))) (q : WR (evC call as ρ) fun ds ρ2 => ∃ d, ρ2[i]? = some (some d) ∧ WO (idxO d ds) fun r => Q r ρ2) : WR (ev call (.idx i as) ρ) Q := by
  obtain ⟨ds, ρ2, e, d, h2, r, hr, q⟩ := q
  exact ⟨r, ρ2, by simp only [ev, h, isLst, if_true, e, R.bind, h2, hr, R.of], q⟩
theorem W_cnt {i : Nat} {as : List E} {m : Bool} {xs : List D} (h : ρ[i]? = some (some (.lst m xs))) (q : WR (evC call as ρ) fun ds ρ2 => ∃ d, ρ2[i]? = some (some d) ∧ WO (cntO d ds) fun r => Q r ρ2) : WR (ev call (.cnt i as) ρ) Q := by
  obtain ⟨ds, ρ2, e, d, h2, r, hr, q⟩ := q
  exact ⟨r, ρ2, by simp only [ev, h, isLst, if_true, e, R.bind, h2, hr, R.of], q⟩
theorem W_pop {i : Nat} {as : List E} {m : Bool} {xs : List D} (h : ρ[i]? = some (some (.lst m xs))) (q : WR (evC call as ρ) fun ds ρ2 => ∃ d, ρ2[i]? = some (some d) ∧ ∃ d' r, popO d ds = some (d', r) ∧ Q r (ρ2.set i (some d'))) : WR (ev call (.pop i as) ρ) Q := by
  obtain ⟨ds, ρ2, e, d, h2, d', r, hr, q⟩ := q
  exact ⟨r, _, by simp only [ev, h, isLst, if_true, e, R.bind, h2, hr], q⟩
theorem W_lc {el : E} {t : T} {kk : ItK} {es cs : List E} {own : List Nat} (q : WR (evC call es ρ) fun ds ρ1 => canL ds = true ∧ ∃ xs, itD kk (frzL ds) = some xs ∧ WR (lcLoop (lcF call el t cs) own xs [] (wipeD ρ1 own)) fun acc ρ2 => Q (.lst true acc) ρ2) : WR (ev call (.lc el t kk es cs own) ρ) Q := by
  obtain ⟨ds, ρ1, e1, c, xs, hx, acc, ρ2, e2, q⟩ := q
  refine ⟨_, ρ2, ?_, q⟩
  simp only [ev, e1, R.bind, c, if_true, hx]
  show ((lcLoop (lcF call el t cs) own xs [] (wipeD ρ1 own)).bind fun acc ρ2 => R.ok (D.lst true acc) ρ2) = R.ok (D.lst true acc) ρ2
  rw [e2]; rfl
theorem W_lcloop {f : D → Env' → R (Option D)} {own : List Nat} {xs : List D} {QA : List D → Env' → Prop} {ρ0 : Env'} (J : Nat → List D → Env' → Prop) (h0 : J 0 [] ρ0)
    (hs : ∀ i x acc ρ, xs[i]? = some x → acc.length ≤ i → J i acc ρ → WR (f x ρ) fun o ρ1 => match o with | some d => J (i + 1) (acc ++ [d]) (wipeD ρ1 own) | none => J (i + 1) acc (wipeD ρ1 own)) (hl : xs.length ≤ lim)
    (hd : ∀ acc ρ, acc.length ≤ xs.length → J xs.length acc ρ → QA acc ρ) : WR (lcLoop f own xs [] ρ0) QA := by
  have go : ∀ (ys : List D) (i : Nat) (acc : List D) (ρ : Env'), xs.drop i = ys → i ≤ xs.length → acc.length ≤ i → J i acc ρ → WR (lcLoop f own ys acc ρ) QA := by
    intro ys
    induction ys with
    | nil =>
      intro i acc ρ hy hi ha hj
      have : i = xs.length := by
        have := congrArg List.length hy
        simp at this; omega
      subst this
      exact ⟨acc, ρ, by simp only [lcLoop], hd acc ρ ha hj⟩
    | cons y ys ih =>
      intro i acc ρ hy hi ha hj
      have hlt : i < xs.length := by
        have := congrArg List.length hy
        simp at this; omega
      have hx : xs[i]? = some y ∧ xs.drop (i + 1) = ys := by
        rw [List.drop_eq_getElem_cons hlt] at hy
        cases hy
        exact ⟨List.getElem?_eq_getElem hlt, rfl⟩
      obtain ⟨o, ρ1, e, q⟩ := hs i y acc ρ hx.1 ha hj
      cases o with
      | some d =>
        obtain ⟨a, ρ2, e2, q2⟩ := ih (i + 1) (acc ++ [d]) _ hx.2 hlt (by simp; omega) q
        exact ⟨a, ρ2, by simp only [lcLoop, e, show acc.length < lim from by omega, if_true, e2], q2⟩
      | none =>
        obtain ⟨a, ρ2, e2, q2⟩ := ih (i + 1) acc _ hx.2 hlt (by omega) q
        exact ⟨a, ρ2, by simp only [lcLoop, e, e2], q2⟩
  exact go xs 0 [] ρ0 rfl (Nat.zero_le _) (Nat.zero_le _) h0
theorem W_lcF {el : E} {t : T} {x : D} {ρ' : Env'} {QO : Option D → Env' → Prop} (hp : t.put x ρ = some ρ') (q : WR (ev call el ρ') fun d ρ3 => (!shares el || d.pure) = true ∧ QO (some d) ρ3) : WR (lcF call el t [] x ρ) QO := by
  obtain ⟨d, ρ3, e, c, q⟩ := q
  exact ⟨some d, ρ3, by simp only [lcF, hp, lcTests, R.bind, if_true, e, c], q⟩
theorem W_lcF1 {el c : E} {t : T} {x : D} {ρ' : Env'} {QO : Option D → Env' → Prop} (hp : t.put x ρ = some ρ') (q : WR (ev call c ρ') fun b ρ2 => ∃ u, truD b = some u ∧ (u = true → WR (ev call el ρ2) fun d ρ3 => (!shares el || d.pure) = true ∧ QO (some d) ρ3) ∧ (u = false → QO none ρ2)) : WR (lcF call el t [c] x ρ) QO := by
  obtain ⟨b, ρ2, e, u, hu, h1, h2⟩ := q
  cases u with
  | true =>
    obtain ⟨d, ρ3, e3, cc, q⟩ := h1 rfl
    exact ⟨some d, ρ3, by simp only [lcF, hp, lcTests, e, R.bind, hu, R.of, if_true, e3, cc], q⟩
  | false => exact ⟨none, ρ2, by simp [lcF, hp, lcTests, e, R.bind, hu, R.of], h2 rfl⟩
/-! operations -/
theorem O_any {o : Option D} {Qd : D → Prop} {d : D} (h : o = some d) (q : Qd d) : WO o Qd := ⟨d, h, q⟩
variable {Qd : D → Prop}
theorem O_mod {i j : Int} (h : 0 < j) (q : Qd (.int (i % j))) : WO (opD (.bin .Mod) [.int i, .int j]) Qd := ⟨_, by simp only [opD, binO, modO, h, if_true], q⟩
theorem O_divW {i j : Int} (h : 0 < j ∧ j < 18446744073709551616) (q : Qd (.int (i / j))) : WO (opD (.bin .FloorDiv) [.int i, .int j]) Qd := ⟨_, by simp only [opD, binO, divO]; rw [if_pos h], q⟩
theorem O_div {i j : Int} (h : 0 < j ∧ j < 1073741824) (q : Qd (.int (i / j))) : WO (opD (.bin .FloorDiv) [.int i, .int j]) Qd := O_divW ⟨h.1, by omega⟩ q
theorem O_mulR {i j : Int} (h : -(2 ^ 64) < j ∧ j < 2 ^ 64) (q : Qd (.int (i * j))) : WO (opD (.bin .Mult) [.int i, .int j]) Qd := ⟨_, by simp only [opD, binO, mulO]; rw [if_pos]; simp only [Bool.or_eq_true, decide_eq_true_eq]; exact .inr h, q⟩
theorem O_addS {x y : List Nat} (h : x.length + y.length ≤ lim) (q : Qd (.str (x ++ y))) : WO (opD (.bin .Add) [.str x, .str y]) Qd := ⟨_, by simp only [opD, binO, addO, h, if_true], q⟩
theorem O_addL {m m' : Bool} {x y : List D} (h1 : pureL x = true) (h2 : pureL y = true) (h : x.length + y.length ≤ lim) (q : Qd (.lst true (x ++ y))) : WO (opD (.bin .Add) [.lst m x, .lst m' y]) Qd := ⟨_, by simp only [opD, binO, addO, h1, h2, h, decide_true, Bool.and_self, if_true], q⟩
theorem O_ixL {m : Bool} {xs : List D} {i : Int} {d : D} (h : atI xs i = some d) (q : Qd d) : WO (opD .ix [.lst m xs, .int i]) Qd := ⟨d, by simp only [opD]; exact h, q⟩
theorem O_ixT {xs : List D} {i : Int} {d : D} (h : atI xs i = some d) (q : Qd d) : WO (opD .ix [.tup xs, .int i]) Qd := ⟨d, by simp only [opD]; exact h, q⟩
theorem O_ixS {x : List Nat} {i : Int} {c : Nat} (hl : x.length ≤ lim) (h : atI x i = some c) (q : Qd (.str [c])) : WO (opD .ix [.str x, .int i]) Qd := ⟨_, by simp only [opD, hl, if_true, atD, h, Option.map_some], q⟩
theorem O_lenS {x : List Nat} (hl : x.length ≤ lim) (q : Qd (.int x.length)) : WO (opD (.fn .len) [.str x]) Qd := ⟨_, by simp only [opD, fnO, lenO, hl, if_true], q⟩
theorem O_slToS {x : List Nat} {k : Nat} (hl : x.length ≤ lim) (q : Qd (.str (x.take k))) : WO (opD (.sl false true) [.str x, .int (k : Int)]) Qd := ⟨_, by simp only [opD, slO, hl, if_true, cut_to], q⟩
theorem O_slFromS {x : List Nat} {k : Nat} (hl : x.length ≤ lim) (q : Qd (.str (x.drop k))) : WO (opD (.sl true false) [.str x, .int (k : Int)]) Qd := ⟨_, by simp only [opD, slO, hl, if_true, cut_from], q⟩
theorem O_slMidS {x : List Nat} {k l : Nat} (hl : x.length ≤ lim) (h : l ≤ x.length) (q : Qd (.str ((x.drop k).take (l - k)))) : WO (opD (.sl true true) [.str x, .int (k : Int), .int (l : Int)]) Qd := ⟨_, by simp only [opD, slO, hl, if_true, cut_mid _ _ _ h], q⟩
theorem O_slToL {m : Bool} {x : List D} {k : Nat} (hp : pureL x = true) (q : Qd (.lst true (x.take k))) : WO (opD (.sl false true) [.lst m x, .int (k : Int)]) Qd := ⟨_, by simp only [opD, slO, hp, if_true, cut_to], q⟩
theorem O_slFromL {m : Bool} {x : List D} {k : Nat} (hp : pureL x = true) (q : Qd (.lst true (x.drop k))) : WO (opD (.sl true false) [.lst m x, .int (k : Int)]) Qd := ⟨_, by simp only [opD, slO, hp, if_true, cut_from], q⟩
/-! statements -/
theorem X_nil (q : k.nx ρ) : WX (exs call [] ρ) k := ⟨by simpa only [exs, WXd] using q⟩
theorem X_cons {s : S} {r : List S} (q : WX (ex call s ρ) { k with nx := fun ρ' => WX (exs call r ρ') k }) : WX (exs call (s :: r) ρ) k := by
  simp only [exs]
  cases h : ex call s ρ with
  | nx ρ' => rw [h] at q; exact q.out
  | ret d ρ' => rw [h] at q; exact ⟨q.out⟩
  | brk ρ' => rw [h] at q; exact ⟨q.out⟩
  | cont ρ' => rw [h] at q; exact ⟨q.out⟩
  | err x ρ' => rw [h] at q; exact ⟨q.out⟩
  | bad => rw [h] at q; exact q.out.elim
theorem X_asg {t : T} {e : E} (q : WR (ev call e ρ) fun d ρ1 => (!shares e || d.pure) = true ∧ ∃ ρ2, t.put d ρ1 = some ρ2 ∧ k.nx ρ2) : WX (ex call (.asg t e) ρ) k := by
  obtain ⟨d, ρ1, e1, c, ρ2, hp, q⟩ := q
  simp only [ex, e1, R.sbind, c, if_true, hp]; exact ⟨q⟩
theorem X_multi {is : List Nat} {es : List E} (q : WR (evC call es ρ) fun ds ρ1 => ∃ ρ2, putAll is ds ρ1 = some ρ2 ∧ k.nx ρ2) : WX (ex call (.multi is es) ρ) k := by
  obtain ⟨ds, ρ1, e1, ρ2, hp, q⟩ := q
  simp only [ex, e1, R.sbind, hp]; exact ⟨q⟩
theorem X_aug {i : Nat} {o : Operator} {e : E} {d0 : D} (h0 : ρ[i]? = some (some d0)) (q : WR (ev call e ρ) fun d ρ1 => ∃ x, ρ1[i]? = some (some x) ∧ flat2 x = true ∧ WO (binO o x d) fun y => k.nx (ρ1.set i (some y))) : WX (ex call (.aug i o e) ρ) k := by
  obtain ⟨d, ρ1, e1, x, h1, hf, y, hy, q⟩ := q
  simp only [ex, h0, e1, R.sbind, h1, hf, if_true, hy]; exact ⟨q⟩
theorem X_expr {e : E} (q : WR (ev call e ρ) fun _ ρ1 => k.nx ρ1) : WX (ex call (.expr e) ρ) k := by
  obtain ⟨d, ρ1, e1, q⟩ := q
  simp only [ex, e1, R.sbind]; exact ⟨q⟩
theorem X_store {i : Nat} {ps : List E} {ix e : E} (q : WR (ev call e ρ) fun d ρ1 => ∃ x, ρ1[i]? = some (some x) ∧ ((!shares e || d.pure) && quietL ps && quiet ix) = true ∧ WR (evR call ps ρ1) fun is ρ2 => ∃ js, intsO is = some js ∧ isPath js x = true ∧ WR (ev call ix ρ2) fun kk ρ3 => ∃ j, kk = .int j ∧ ∃ x' r, atPath (setO j d) js x = some (x', r) ∧ k.nx (ρ3.set i (some x'))) : WX (ex call (.store i ps ix e) ρ) k := by
  obtain ⟨d, ρ1, e1, x, h1, c, is, ρ2, e2, js, hj, hp, kk, ρ3, e3, j, rfl, x', r, hs, q⟩ := q
  simp only [ex, e1, R.sbind, h1, c, if_true, e2, hj, hp, e3, hs]; exact ⟨q⟩
theorem X_ifs {c : E} {a b : List S} (q : WR (ev call c ρ) fun d ρ1 => ∃ t, truD d = some t ∧ (t = true → WX (exs call a ρ1) k) ∧ (t = false → WX (exs call b ρ1) k)) : WX (ex call (.ifs c a b) ρ) k := by
  obtain ⟨d, ρ1, e1, t, ht, h1, h2⟩ := q
  simp only [ex, e1, R.sbind, ht]
  cases t with
  | true => exact h1 rfl
  | false => exact h2 rfl
theorem X_ret {e : E} (q : WR (ev call e ρ) fun d ρ1 => (!shares e || d.pure) = true ∧ k.rt d ρ1) : WX (ex call (.ret e) ρ) k := by
  obtain ⟨d, ρ1, e1, c, q⟩ := q
  simp only [ex, e1, R.sbind, c, if_true]; exact ⟨q⟩
theorem X_for {t : T} {kk : ItK} {es : List E} {b : List S} (q : WR (evC call es ρ) fun ds ρ1 => canL ds = true ∧ ∃ xs, itD kk (frzL ds) = some xs ∧ ∃ J : Nat → Env' → Prop, J 0 ρ1 ∧ (∀ i x ρ, xs[i]? = some x → J i ρ → ∃ ρ', t.put x ρ = some ρ' ∧ WX (exs call b ρ') { k with nx := J (i + 1), ct := J (i + 1), bk := k.nx }) ∧ ∀ ρ, J xs.length ρ → k.nx ρ) : WX (ex call (.fors t kk es b) ρ) k := by
  obtain ⟨ds, ρ1, e1, c, xs, hx, J, h0, hs, hd⟩ := q
  simp only [ex, e1, R.sbind, c, if_true, hx]
  have go : ∀ (ys : List D) (i : Nat) (ρ : Env'), xs.drop i = ys → i ≤ xs.length → J i ρ → WX (forLoop (fun x ρ => match t.put x ρ with
      | some ρ' => exs call b ρ'
      | none => .bad) ys ρ) k := by
    intro ys
    induction ys with
    | nil =>
      intro i ρ hy hi hj
      have : i = xs.length := by
        have := congrArg List.length hy
        simp at this; omega
      subst this
      simp only [forLoop]; exact ⟨hd ρ hj⟩
    | cons y ys ih =>
      intro i ρ hy hi hj
      have hlt : i < xs.length := by
        have := congrArg List.length hy
        simp at this; omega
      have hx : xs[i]? = some y ∧ xs.drop (i + 1) = ys := by
        rw [List.drop_eq_getElem_cons hlt] at hy
        cases hy
        exact ⟨List.getElem?_eq_getElem hlt, rfl⟩
      obtain ⟨ρ', hp, w⟩ := hs i y ρ hx.1 hj
      simp only [forLoop, hp]
      cases hb : exs call b ρ' with
      | nx ρ2 => rw [hb] at w; exact ih (i + 1) ρ2 hx.2 hlt w.out
      | cont ρ2 => rw [hb] at w; exact ih (i + 1) ρ2 hx.2 hlt w.out
      | brk ρ2 => rw [hb] at w; exact ⟨w.out⟩
      | ret d ρ2 => rw [hb] at w; exact ⟨w.out⟩
      | err x ρ2 => rw [hb] at w; exact ⟨w.out⟩
      | bad => rw [hb] at w; exact w.out.elim
  exact go xs 0 ρ1 rfl (Nat.zero_le _) h0
end
theorem and_le {a b : Nat} {q : Prop} (h : a ≤ b) (hq : q) : a ≤ b ∧ q := ⟨h, hq⟩
theorem and_bt {b : Bool} {q : Prop} (h : b = true) (hq : q) : b = true ∧ q := ⟨h, hq⟩
theorem F_run {t : Str → Option FD} {n : Nat} {f : Str} {fd : FD} {ds : List D} {Q : D → List (Option D) → Prop} (h : t f = some fd) (hl : ds.length = fd.np)
    (q : WX (exs (run t n) fd.body (ds.map some ++ List.replicate (fd.ns - ds.length) none)) { nx := fun ρ => Q .non (outsOf ρ fd.io), rt := fun d ρ => Q d (outsOf ρ fd.io) }) : ∃ d outs, run t (n + 1) f ds = .ok d outs ∧ Q d outs := by
  rw [run_eq h hl]
  cases hr : exs (run t n) fd.body (ds.map some ++ List.replicate (fd.ns - ds.length) none) with
  | nx ρ => rw [hr] at q; exact ⟨_, _, rfl, q.out⟩
  | ret d ρ => rw [hr] at q; exact ⟨_, _, rfl, q.out⟩
  | brk ρ => rw [hr] at q; exact q.out.elim
  | cont ρ => rw [hr] at q; exact q.out.elim
  | err x ρ => rw [hr] at q; exact False.elim q.out
  | bad => rw [hr] at q; exact q.out.elim
theorem F_err {t : Str → Option FD} {n : Nat} {f : Str} {fd : FD} {ds : List D} {Q : Ex → List (Option D) → Prop} (h : t f = some fd) (hl : ds.length = fd.np)
    (q : WX (exs (run t n) fd.body (ds.map some ++ List.replicate (fd.ns - ds.length) none)) { nx := fun _ => False, rt := fun _ _ => False, er := fun x ρ => Q x (outsOf ρ fd.io) }) : ∃ x outs, run t (n + 1) f ds = .err x outs ∧ Q x outs := by
  rw [run_eq h hl]
  cases hr : exs (run t n) fd.body (ds.map some ++ List.replicate (fd.ns - ds.length) none) with
  | nx ρ => rw [hr] at q; exact False.elim q.out
  | ret d ρ => rw [hr] at q; exact False.elim q.out
  | brk ρ => rw [hr] at q; exact False.elim q.out
  | cont ρ => rw [hr] at q; exact False.elim q.out
  | err x ρ => rw [hr] at q; exact ⟨_, _, rfl, q.out⟩
  | bad => rw [hr] at q; exact False.elim q.out
section
variable {call : CallT} {ρ : Env'} {k : KS}
def kOf : FR → Option (D × List (Option D))
  | .ok _ outs => some (.tup [.str [], .int 0], outs)
  | .err x outs => (kindO x).map fun d => (d, outs)
  | .bad => none
theorem W_kindC {f : Str} {as : List E} {Q : D → Env' → Prop} (q : WR (evA call as ρ) fun rs ρ1 => ∃ ds ρ2, fetch rs ρ1 = some (ds, ρ2) ∧ ∃ d outs, kOf (call f ds) = some (d, outs) ∧ Q d (back rs outs ρ2)) : WR (ev call (.kind (.call f as)) ρ) Q := by
  obtain ⟨rs, ρ1, e1, ds, ρ2, e2, d, outs, e3, q⟩ := q
  refine ⟨d, back rs outs ρ2, ?_, q⟩
  simp only [ev, e1, R.bind, e2]
  cases hc : call f ds with
  | ok d0 o => rw [hc] at e3; simp only [kOf] at e3; cases e3; rfl
  | err x o =>
    rw [hc] at e3
    simp only [kOf, Option.map_eq_some_iff] at e3
    obtain ⟨d1, hk, e4⟩ := e3
    cases e4
    simp only [kindR, hk, R.of]
  | bad => rw [hc] at e3; cases e3
theorem W_knil {QL : List D → Env' → Prop} (q : QL [] ρ) : WR (evK call [] ρ) QL := ⟨[], ρ, by simp only [evK], q⟩
theorem W_kcons {e : E} {es : List E} {QL : List D → Env' → Prop} (q : WR (ev call (.kind e) ρ) fun d ρ1 => WR (evK call es ρ1) fun ds ρ2 => QL (d :: ds) ρ2) : WR (evK call (e :: es) ρ) QL := by
  obtain ⟨d, ρ1, e1, ds, ρ2, e2, q⟩ := q
  simp only [ev] at e1
  exact ⟨_, ρ2, by simp only [evK, e1, R.bind, e2], q⟩
theorem X_raise {C : Str} {ks : List Str} {es : List E} (q : WR (evC call es ρ) fun ds ρ1 => pureL ds = true ∧ ks.length = ds.length ∧ k.er (C, (ks.zip ds).reverse) ρ1) : WX (ex call (.raise C ks es) ρ) k := by
  obtain ⟨ds, ρ1, e1, hp, hl, q⟩ := q
  simp only [ex, e1, R.sbind, hp, hl, decide_true, Bool.and_self, if_true]; exact ⟨q⟩
theorem X_wks {i : Nat} {ret : Bool} {op : CmpOp} {es : List E} {rhs : E} (q : WR (evK call es (ρ.set i none)) fun ds ρ1 => WR (ev call rhs ρ1) fun r ρ2 => WO (opD (.cmp op) [.lst true ds, r]) fun d => ∃ b, d = .bl b ∧ (ret = true → k.rt (.bl b) ρ2) ∧ (ret = false → (b = true → k.rt (.bl false) ρ2) ∧ (b = false → k.nx ρ2))) : WX (ex call (.wks i ret op es rhs) ρ) k := by
  obtain ⟨ds, ρ1, e1, r, ρ2, e2, d, e3, b, rfl, h1, h2⟩ := q
  have e3 : cmpO op (.lst true ds) r = some (.bl b) := e3
  simp only [ex, e1, e2, R.sbind, e3]
  cases ret with
  | true => exact ⟨h1 rfl⟩
  | false =>
    obtain ⟨h3, h4⟩ := h2 rfl
    cases b with
    | true => exact ⟨h3 rfl⟩
    | false => exact ⟨h4 rfl⟩
end
end VI

namespace VI
open PySem L2
section
variable {call : CallT} {ρ : Env'} {Q : D → Env' → Prop}
end
inductive Ed where
  | cut (a n : Nat) | put (a : Nat) (w : List Nat)
def Ed.d : Ed → D
  | .cut a n => .tup [.str [99, 117, 116], .int (a : Int), .int (n : Int)]
  | .put a w => .tup [.str [112, 117, 116], .int (a : Int), .str w]
def gd (s : List Nat) : Prop := ∀ c ∈ s, 32 ≤ c ∧ c ≤ 126
def Ed.ok : Ed → List Nat → Prop
  | .cut a n, s => 1 ≤ n ∧ a + n ≤ s.length
  | .put a w, s => a ≤ s.length ∧ w ≠ [] ∧ s.length + w.length ≤ 80 ∧ gd w
def Ed.app : Ed → List Nat → List Nat
  | .cut a n, s => s.take a ++ s.drop (a + n)
  | .put a w, s => s.take a ++ w ++ s.drop a
def Ed.inv : Ed → List Nat → Ed
  | .cut a n, s => .put a ((s.drop a).take n)
  | .put a w, s => .cut a w.length
def invs : List Ed → List Nat → List Ed
  | [], _ => []
  | e :: es, s => invs es (e.app s) ++ [e.inv s]
theorem pure_ed (e : Ed) : e.d.pure = true := by cases e <;> simp [Ed.d, D.pure, pureL]
theorem pure_es : ∀ es : List Ed, pureL (es.map Ed.d) = true
  | [] => rfl
  | e :: es => by simp only [List.map_cons, pureL, pure_ed, pure_es es, Bool.and_self]
theorem pure_strs : ∀ es : List (List Nat), pureL (es.map D.str) = true
  | [] => rfl
  | e :: es => by simp only [List.map_cons, pureL, D.pure, pure_strs es, Bool.and_self]
theorem gd_app {a b : List Nat} (h : gd a) (h' : gd b) : gd (a ++ b) := fun c hc => (List.mem_append.mp hc).elim (h c) (h' c)
theorem invs_len : ∀ (es : List Ed) (s : List Nat), (invs es s).length = es.length
  | [], _ => rfl
  | e :: es, s => by simp [invs, invs_len es]
theorem strs_one : ∀ cs : List Nat, strsO (cs.map fun c => D.str [c]) = some (cs.map fun c => [c])
  | [] => rfl
  | c :: cs => by simp [strsO, strs_one cs]
theorem join_one : ∀ cs : List Nat, joinS [] (cs.map fun c => [c]) = cs
  | [] => rfl
  | [c] => rfl
  | c :: d :: cs => by
    have := join_one (d :: cs)
    simp only [List.map_cons, joinS] at this ⊢
    rw [this]; rfl
theorem sum_one : ∀ cs : List Nat, ((cs.map fun c => [c]).map (·.length)).sum = cs.length
  | [] => rfl
  | c :: cs => by simp only [List.map_cons, List.sum_cons, sum_one cs, List.length_cons, List.length_nil]; omega
theorem rng_nat (k : Nat) (h : k ≤ 1000) : itD .rng (frzL [.int (k : Int)]) = some (rngO 0 k) := by
  have h1 : frzL [D.int (k : Int)] = [D.int (k : Int)] := by simp [frzL, D.frz]
  rw [h1]
  have h2 : in62 (k : Int) = true := by
    unfold in62
    simp only [Bool.and_eq_true, decide_eq_true_eq]
    omega
  simp only [itD, rngs, h2, if_true]
theorem I_rng {k : Nat} {P : List D → Prop} (h : k ≤ 1000) (q : P (rngO 0 (k : Int))) : ∃ xs, itD .rng (frzL [.int (k : Int)]) = some xs ∧ P xs := ⟨_, rng_nat k h, q⟩
theorem I_rngC {k : Nat} {P : List D → Prop} (h : Nat.ble k 1000 = true) (q : P (rngO 0 (OfNat.ofNat k))) : ∃ xs, itD .rng (frzL [.int (OfNat.ofNat k)]) = some xs ∧ P xs := ⟨_, rng_nat k (Nat.le_of_ble_eq_true h), q⟩
end VI
namespace VI
open PySem L2
theorem O_slFromS2 {x : List Nat} {a n : Nat} {Qd : D → Prop} (hl : x.length ≤ lim) (q : Qd (.str (x.drop (a + n)))) : WO (opD (.sl true false) [.str x, .int ((a : Int) + (n : Int))]) Qd := by
  have : (a : Int) + (n : Int) = ((a + n : Nat) : Int) := by omega
  rw [this]; exact O_slFromS hl q
theorem O_slMidS2 {x : List Nat} {a n : Nat} {Qd : D → Prop} (hl : x.length ≤ lim) (h : a + n ≤ x.length) (q : Qd (.str ((x.drop a).take n))) : WO (opD (.sl true true) [.str x, .int (a : Int), .int ((a : Int) + (n : Int))]) Qd := by
  have : (a : Int) + (n : Int) = ((a + n : Nat) : Int) := by omega
  rw [this]
  refine O_slMidS hl h ?_
  rw [Nat.add_sub_cancel_left]; exact q
theorem I_app {xs : List D} {d : D} {P : D → D → Prop} (h : xs.length < lim) (q : P (.lst true (xs ++ [d])) .non) : ∃ d' r, moD .append (.lst true xs) [d] = some (d', r) ∧ P d' r := ⟨_, _, by simp only [moD, h, if_true], q⟩
theorem O_slToS2 {x : List Nat} {n : Nat} {Qd : D → Prop} (hl : x.length ≤ lim) (q : Qd (.str (x.take (1 + n)))) : WO (opD (.sl false true) [.str x, .int ((1 : Int) + (n : Int))]) Qd := by
  have : (1 : Int) + (n : Int) = ((1 + n : Nat) : Int) := by omega
  rw [this]; exact O_slToS hl q
theorem lt1p (a b : Nat) : ([a] < [b]) = (a < b) := by
  rw [eq_iff_iff]
  simp [List.cons_lt_cons_iff]
end VI

namespace VI
def lcs : List Nat → List Nat → Nat
  | [], _ => 0
  | _ :: _, [] => 0
  | x :: xs, y :: ys => if x = y then lcs xs ys + 1 else Nat.max (lcs xs (y :: ys)) (lcs (x :: xs) ys)
termination_by a b => a.length + b.length
def far (a b : List Nat) : Nat := a.length + b.length - 2 * lcs a b
end VI
namespace VI
open PySem L2
def isCut : Ed → Bool
  | .cut _ _ => true
  | .put _ _ => false
def nC (es : List Ed) : Nat := es.countP isCut
end VI

namespace VI
open PySem L2
def rowD (B : Nat) (g : Nat → Int) : D := .lst true ((List.range B).map fun j => .int (g j))
def tabD (A B : Nat) (f : Nat → Nat → Int) : D := .lst true ((List.range A).map fun i => rowD B (f i))
def updF (f : Nat → Nat → Int) (a b : Nat) (v : Int) : Nat → Nat → Int := fun i j => if i = a ∧ j = b then v else f i j
theorem map_rng_at {α : Type} {n i : Nat} {g : Nat → α} (h : i < n) : atI ((List.range n).map g) (i : Int) = some (g i) := by
  rw [atD_nat (by simpa using h), List.getElem?_map, List.getElem?_range h]; rfl
theorem set_rng {α : Type} {n i : Nat} {g : Nat → α} {v : α} : ((List.range n).map g).set i v = (List.range n).map fun j => if j = i then v else g j := by
  apply List.ext_getElem?
  intro j
  rw [List.getElem?_set]
  by_cases hj : i = j
  · subst hj
    by_cases hn : i < n
    · simp [hn]
    · simp [hn]
  · simp only [if_neg hj, List.getElem?_map]
    by_cases hn : j < n
    · rw [List.getElem?_range hn]; simp [show j ≠ i from fun z => hj z.symm]
    · rw [List.getElem?_eq_none (by simpa using hn)]; rfl
section
variable {Qd : D → Prop}
theorem O_ixTab {A B i : Nat} {f : Nat → Nat → Int} (h : i < A) (q : Qd (rowD B (f i))) : WO (opD .ix [tabD A B f, .int (i : Int)]) Qd := O_ixL (map_rng_at h) q
theorem O_ixTab1 {A B i : Nat} {f : Nat → Nat → Int} (h : i + 1 < A) (q : Qd (rowD B (f (i + 1)))) : WO (opD .ix [tabD A B f, .int ((i : Int) + 1)]) Qd := O_ixTab h q
theorem O_ixRow {B j : Nat} {g : Nat → Int} (h : j < B) (q : Qd (.int (g j))) : WO (opD .ix [rowD B g, .int (j : Int)]) Qd := O_ixL (map_rng_at h) q
theorem O_ixRow1 {B j : Nat} {g : Nat → Int} (h : j + 1 < B) (q : Qd (.int (g (j + 1)))) : WO (opD .ix [rowD B g, .int ((j : Int) + 1)]) Qd := O_ixRow h q
end
theorem setAt_rng {n i : Nat} {g : Nat → D} {v : D} (h : i < n) : setAt ((List.range n).map g) (i : Int) v = some ((List.range n).map fun j => if j = i then v else g j) := by
  unfold setAt
  rw [List.length_map, List.length_range, ixN_nat h, Option.map_some, set_rng]
theorem tab_path {A B i : Nat} {f : Nat → Nat → Int} (h : i < A) : isPath [(i : Int)] (tabD A B f) = true := by
  unfold tabD
  simp only [isPath, atD, map_rng_at h, rowD]
theorem tab_set {A B i j : Nat} {f : Nat → Nat → Int} {v : Int} (hi : i < A) (hj : j < B) : atPath (setO (j : Int) (.int v)) [(i : Int)] (tabD A B f) = some (tabD A B (updF f i j v), .non) := by
  have e1 : setO (j : Int) (.int v) (rowD B (f i)) = some (rowD B (updF f i j v i), .non) := by
    unfold rowD
    simp only [setO, setAt_rng hj, Option.map_some]
    congr 4
    funext k
    unfold updF
    by_cases hk : k = j <;> simp [hk]
  unfold tabD
  simp only [atPath, atD, map_rng_at hi, Option.bind_some]
  rw [e1]
  simp only [Option.bind_some, setAt_rng hi, Option.map_some]
  congr 4
  funext k
  by_cases hk : k = i
  · subst hk; simp
  · simp only [if_neg hk]
    congr 1
    funext z
    unfold updF; simp [hk]
theorem I_rngD {k : Nat} {P : List D → Prop} (h : k ≤ 1000) (q : P ((List.range k).map fun i => D.int ((k : Int) - 1 - (i : Nat)))) : ∃ xs, itD .rng (frzL [.int ((k : Int) - 1), .int (-1), .int (-1)]) = some xs ∧ P xs := by
  refine ⟨_, ?_, q⟩
  have h1 : frzL [D.int ((k : Int) - 1), .int (-1), .int (-1)] = [D.int ((k : Int) - 1), .int (-1), .int (-1)] := by simp [frzL, D.frz]
  rw [h1]
  have h2 : in62 ((k : Int) - 1) = true := by
    unfold in62
    simp only [Bool.and_eq_true, decide_eq_true_eq]
    omega
  have h3 : in62 (-1) = true := by decide
  have h4 : ((k : Int) - 1 - -1).toNat = k := by omega
  simp only [itD, rngs, h2, h3, Bool.and_self, if_true, h4]
theorem flat_one {x : D} : ∀ n : Nat, (List.replicate n [x]).flatten = (List.range n).map fun _ => x
  | 0 => rfl
  | n + 1 => by rw [List.replicate_succ', List.flatten_append, flat_one n, List.range_succ, List.map_append]; rfl
theorem O_mul0 {m : Bool} {k : Nat} {Qd : D → Prop} (h : k ≤ 1000) (q : Qd (rowD (k + 1) fun _ => 0)) : WO (opD (.bin .Mult) [.lst m [.int 0], .int ((k : Int) + 1)]) Qd := by
  refine ⟨_, ?_, q⟩
  have h1 : (pureL [D.int 0] && decide (-(2 ^ 63) ≤ (k : Int) + 1) && decide ((k : Int) + 1 < 2 ^ 63) && decide ([D.int 0].length * ((k : Int) + 1).toNat ≤ lim)) = true := by
    simp only [Bool.and_eq_true, decide_eq_true_eq]
    refine ⟨⟨⟨by simp [pureL, D.pure], by omega⟩, by omega⟩, ?_⟩
    simp [lim]; omega
  have h2 : ((k : Int) + 1).toNat = k + 1 := by omega
  have h3 := flat_one (x := D.int 0) (k + 1)
  unfold rowD
  rw [h2] at h1
  simp only [opD, binO, mulO, h2, h3, h1, if_true]
theorem I_rng1 {k : Nat} {P : List D → Prop} (h : k < 1000) (q : P (rngO 0 ((k + 1 : Nat) : Int))) : ∃ xs, itD .rng (frzL [.int ((k : Int) + 1)]) = some xs ∧ P xs := ⟨_, rng_nat (k + 1) h, q⟩
section
variable {call : CallT} {ρ : Env'} {k : KS}
theorem I_ext {xs : List D} {m : Bool} {ys : List D} {P : D → D → Prop} (hp : pureL ys = true) (h : xs.length + ys.length ≤ lim) (q : P (.lst true (xs ++ ys)) .non) : ∃ d' r, moD .extend (.lst true xs) [.lst m ys] = some (d', r) ∧ P d' r := ⟨_, _, by simp only [moD, hp, h, decide_true, Bool.and_self, if_true], q⟩
end
section
theorem O_tupE {m : Bool} {es : List Ed} {Qd : D → Prop} (q : Qd (.tup (es.map Ed.d))) : WO (opD (.fn .tuple) [.lst m (es.map Ed.d)]) Qd := ⟨_, by simp only [opD, fnO, tupleO, pure_es, if_true], q⟩
theorem O_listE {m : Bool} {es : List Ed} {Qd : D → Prop} (q : Qd (.lst true (es.map Ed.d))) : WO (opD (.fn .list) [.lst m (es.map Ed.d)]) Qd := ⟨_, by simp only [opD, fnO, listO, pure_es, if_true], q⟩
theorem O_slToE {m : Bool} {es : List Ed} {k : Nat} {Qd : D → Prop} (q : Qd (.lst true ((es.take k).map Ed.d))) : WO (opD (.sl false true) [.lst m (es.map Ed.d), .int (k : Int)]) Qd :=
  O_slToL (pure_es es) (by rw [← List.map_take]; exact q)
theorem O_slFromE {m : Bool} {es : List Ed} {k : Nat} {Qd : D → Prop} (q : Qd (.lst true ((es.drop k).map Ed.d))) : WO (opD (.sl true false) [.lst m (es.map Ed.d), .int (k : Int)]) Qd :=
  O_slFromL (pure_es es) (by rw [← List.map_drop]; exact q)
theorem deq_ed (e : Ed) : deq e.d e.d = true := by cases e <;> simp [Ed.d, deq, deqL]
theorem deq_es : ∀ es : List Ed, deqL (es.map Ed.d) (es.map Ed.d) = true
  | [] => rfl
  | e :: es => by simp only [List.map_cons, deqL, deq_ed, deq_es es, Bool.and_self]
theorem okD_es (m : Bool) (es : List Ed) : okD deep (.lst m (es.map Ed.d)) = true := by
  unfold deep
  simp only [okD, List.all_eq_true]
  intro x hx
  obtain ⟨e, _, rfl⟩ := List.mem_map.mp hx
  cases e <;> simp [Ed.d, okD]
theorem O_neE {m m' : Bool} {es : List Ed} {Qd : D → Prop} (q : Qd (.bl false)) : WO (opD (.cmp .NotEq) [.lst m (es.map Ed.d), .lst m' (es.map Ed.d)]) Qd :=
  ⟨.bl false, by simp only [opD, cmpO, cmpB, eqO, okD_es, Bool.and_self, if_true, deq, deq_es, Option.map_some, Bool.not_true], q⟩
def rowM (m : Bool) (B : Nat) (g : Nat → Int) : D := .lst m ((List.range B).map fun j => .int (g j))
theorem O_ixRM {m : Bool} {B j : Nat} {g : Nat → Int} {Qd : D → Prop} (h : j < B) (q : Qd (.int (g j))) : WO (opD .ix [rowM m B g, .int (j : Int)]) Qd := O_ixL (map_rng_at h) q
theorem O_ixRM1 {m : Bool} {B j : Nat} {g : Nat → Int} {Qd : D → Prop} (h : j + 1 < B) (q : Qd (.int (g (j + 1)))) : WO (opD .ix [rowM m B g, .int ((j : Int) + 1)]) Qd := O_ixRM h q
theorem O_lrng1 {k : Nat} {Qd : D → Prop} (h : k < 1000) (q : Qd (rowM true (k + 1) fun j => 0 + (j : Int))) : WO (opD .lrng [.int ((k : Int) + 1)]) Qd := by
  refine ⟨_, ?_, q⟩
  have h2 : in62 ((k : Int) + 1) = true := by
    unfold in62
    simp only [Bool.and_eq_true, decide_eq_true_eq]
    omega
  have h3 : ((k : Int) + 1 - 0).toNat = k + 1 := by omega
  have h4 : (rngO 0 ((k : Int) + 1)).length ≤ lim := by unfold rngO lim; rw [h3]; simp; omega
  simp only [opD, rngs, h2, if_true, Option.bind_some, h4]
  unfold rngO rowM
  rw [h3]
theorem rngO_at {k i : Nat} {x : D} (h : (rngO 0 (k : Int))[i]? = some x) : i < k ∧ x = .int (i : Int) := by
  unfold rngO at h
  rw [List.getElem?_map] at h
  have : ((k : Int) - 0).toNat = k := by omega
  rw [this] at h
  by_cases hi : i < k
  · rw [List.getElem?_range hi] at h
    refine ⟨hi, ?_⟩
    simp only [Option.map_some, Option.some.injEq] at h
    rw [← h]
    congr 1
    omega
  · rw [List.getElem?_eq_none (by simpa using hi)] at h; cases h
end
end VI

namespace VI
open PySem L2
structure Mk where
  hand : List Nat
  layer : List Nat
  first : Nat
  past : Nat
  word : List Nat
def Mk.d (m : Mk) : D := .tup [.str m.hand, .str m.layer, .int (m.first : Int), .int (m.past : Int), .str m.word]
abbrev abc : List Nat := [97, 98, 99, 100, 101, 102, 103, 104, 105, 106, 107, 108, 109, 110, 111, 112, 113, 114, 115, 116, 117, 118, 119, 120, 121, 122]
def nm (s : List Nat) : Prop := 1 ≤ s.length ∧ s.length ≤ 6 ∧ ∀ c ∈ s, c ∈ abc
def Mk.ok (m : Mk) (n : Nat) : Prop := nm m.hand ∧ nm m.layer ∧ nm m.word ∧ m.first < m.past ∧ m.past ≤ n
theorem pure_mk (m : Mk) : m.d.pure = true := by simp [Mk.d, D.pure, pureL]
theorem pure_ms : ∀ ms : List Mk, pureL (ms.map Mk.d) = true
  | [] => rfl
  | m :: ms => by simp only [List.map_cons, pureL, pure_mk, pure_ms ms, Bool.and_self]
def seqL (b : Option Bool) (xs : List D) : D := match b with
  | some m => .lst m xs
  | none => .tup xs
def frzB (b : Option Bool) : Option Bool := b.map fun _ => false
theorem walk_seqL (b : Option Bool) (xs : List D) : walkD (seqL b xs) = some xs := by cases b <;> rfl
theorem can_seqL {xs : List D} (hp : pureL xs = true) (b : Option Bool) : (seqL b xs).can = true := by
  cases b with
  | some m => simp only [seqL, D.can]; exact pureL_can hp
  | none => exact D.pure_can (by simp only [seqL, D.pure]; exact hp)
theorem frz_seqL {xs : List D} (hp : pureL xs = true) (b : Option Bool) : (seqL b xs).frz = seqL (frzB b) xs := by
  cases b with
  | some m => simp only [seqL, D.frz, frzL_of_pure hp, frzB, Option.map]
  | none => exact D.frz_of_pure (by simp only [seqL, D.pure]; exact hp)
theorem frzB2 (b : Option Bool) : frzB (frzB b) = frzB b := by cases b <;> rfl
section
variable {call : CallT} {ρ : Env'} {Q : D → Env' → Prop}
theorem W_useQ {i : Nat} {b : Option Bool} {xs : List D} (h : ρ[i]? = some (some (seqL b xs))) (hp : pureL xs = true) (q : Q (seqL (frzB b) xs) (ρ.set i (some (seqL (frzB b) xs)))) : WR (ev call (.use i) ρ) Q := by
  refine W_use h (can_seqL hp b) ?_
  rw [frz_seqL hp]; exact q
end
theorem I_seq {b : Option Bool} {xs : List D} {P : List D → Prop} (hp : pureL xs = true) (q : P xs) : canL [seqL (frzB b) xs] = true ∧ ∃ ys, itD .seq (frzL [seqL (frzB b) xs]) = some ys ∧ P ys := by
  refine ⟨by simp only [canL, can_seqL hp, Bool.and_self], xs, ?_, q⟩
  simp only [frzL, frz_seqL hp, itD, walk_seqL]
theorem I_enum {b : Option Bool} {xs : List D} {P : List D → Prop} (hp : pureL xs = true) (q : P (enumD 0 xs)) : canL [seqL (frzB b) xs] = true ∧ ∃ ys, itD .enum (frzL [seqL (frzB b) xs]) = some ys ∧ P ys := by
  refine ⟨by simp only [canL, can_seqL hp, Bool.and_self], enumD 0 xs, ?_, q⟩
  simp only [frzL, frz_seqL hp, itD, walk_seqL, Option.map_some]
/-! ### led over -/
def oD : Option Mk → D
  | none => .non
  | some m => m.d
theorem pure_oD (o : Option Mk) : (oD o).pure = true := by
  cases o with
  | none => rfl
  | some m => exact pure_mk m
theorem pure_os : ∀ ms : List (Option Mk), pureL (ms.map oD) = true
  | [] => rfl
  | m :: ms => by simp only [List.map_cons, pureL, pure_oD, pure_os ms, Bool.and_self]
theorem deq_mk (m : Mk) : deq m.d m.d = true := by simp [Mk.d, deq, deqL]
theorem deq_ms : ∀ ms : List Mk, deqL (ms.map Mk.d) (ms.map Mk.d) = true
  | [] => rfl
  | m :: ms => by simp only [List.map_cons, deqL, deq_mk, deq_ms ms, Bool.and_self]
theorem okD_ms (m : Bool) (ms : List Mk) : okD deep (.lst m (ms.map Mk.d)) = true := by
  unfold deep
  simp only [okD, List.all_eq_true]
  intro x hx
  obtain ⟨e, _, rfl⟩ := List.mem_map.mp hx
  simp [Mk.d, okD]
theorem O_neM {m m' : Bool} {ms : List Mk} {Qd : D → Prop} (q : Qd (.bl false)) : WO (opD (.cmp .NotEq) [.lst m (ms.map Mk.d), .lst m' (ms.map Mk.d)]) Qd :=
  ⟨.bl false, by simp only [opD, cmpO, cmpB, eqO, okD_ms, Bool.and_self, if_true, deq, deq_ms, Option.map_some, Bool.not_true], q⟩
theorem bls_rep : ∀ k : Nat, blsO (List.replicate k (D.bl true)) = some (List.replicate k true)
  | 0 => rfl
  | k + 1 => by rw [List.replicate_succ, List.replicate_succ]; simp only [blsO, bls_rep k, Option.map_some]
theorem O_allT {m : Bool} {k : Nat} {Qd : D → Prop} (q : Qd (.bl true)) : WO (opD (.fn .all) [.lst m (List.replicate k (.bl true))]) Qd :=
  ⟨_, by simp only [opD, fnO, allO, bls_rep, Option.map_some]; rw [show (List.replicate k true).all id = true by simp], q⟩
def pD : Option (Nat × Nat) → D
  | none => .non
  | some q => .tup [.int (q.1 : Int), .int (q.2 : Int)]
theorem pure_pD (o : Option (Nat × Nat)) : (pD o).pure = true := by cases o <;> rfl
end VI

namespace VI
open PySem L2
def nat' (ks : List Nat) : List D := ks.map fun k : Nat => D.int (k : Int)
theorem pure_nats : ∀ ks : List Nat, pureL (nat' ks) = true
  | [] => rfl
  | k :: ks => by simp only [nat', List.map_cons, pureL, D.pure, Bool.true_and]; exact pure_nats ks
theorem flat_non : ∀ n : Nat, (List.replicate n [D.non]).flatten = List.replicate n D.non
  | 0 => rfl
  | n + 1 => by rw [List.replicate_succ, List.flatten_cons, flat_non n]; rfl
theorem O_mulN {m : Bool} {k : Nat} {Qd : D → Prop} (h : k ≤ 1000) (q : Qd (.lst true (List.replicate k .non))) : WO (opD (.bin .Mult) [.lst m [.non], .int (k : Int)]) Qd := by
  refine ⟨_, ?_, q⟩
  have h2 : ((k : Int)).toNat = k := by omega
  have h1 : (pureL [D.non] && decide (-(2 ^ 63) ≤ (k : Int)) && decide ((k : Int) < 2 ^ 63) && decide ([D.non].length * k ≤ lim)) = true := by
    simp only [Bool.and_eq_true, decide_eq_true_eq]
    refine ⟨⟨⟨by simp [pureL, D.pure], by omega⟩, by omega⟩, ?_⟩
    simp [lim]; omega
  have h3 := flat_non k
  simp only [opD, binO, mulO, h2, h3, h1, if_true]
theorem nat_len (ks : List Nat) : (nat' ks).length = ks.length := by simp [nat']
end VI

namespace VI
open PySem L2
def small (es : List Ed) (k : Nat) : Prop := ∀ a w, Ed.put a w ∈ es → w.length ≤ k
/-! edits behind -/
def Ed.sh (k : Nat) : Ed → Ed
  | .cut a n => .cut (a + k) n
  | .put a w => .put (a + k) w
theorem O_neR {m m' : Bool} {xs : List D} {Qd : D → Prop} (h1 : ∀ x ∈ xs, okD 11 x = true) (h2 : ∀ x ∈ xs, deq x x = true) (q : Qd (.bl false)) : WO (opD (.cmp .NotEq) [.lst m xs, .lst m' xs]) Qd := by
  have e1 : ∀ m, okD deep (.lst m xs) = true := fun m => by
    unfold deep
    simp only [okD, List.all_eq_true]
    exact h1
  have e2 : ∀ ys : List D, (∀ x ∈ ys, deq x x = true) → deqL ys ys = true := by
    intro ys
    induction ys with
    | nil => intro _; rfl
    | cons y ys ih => intro h; simp only [deqL, h y List.mem_cons_self, ih fun x hx => h x (List.mem_cons_of_mem _ hx), Bool.and_self]
  exact ⟨.bl false, by simp only [opD, cmpO, cmpB, eqO, e1, Bool.and_self, if_true, deq, e2 xs h2, Option.map_some, Bool.not_true], q⟩
def sgD (m : Mk) : D := .tup [.str m.hand, .str m.layer, .str m.word]
theorem O_neG {m m' : Bool} {ms : List Mk} {Qd : D → Prop} (q : Qd (.bl false)) : WO (opD (.cmp .NotEq) [.lst m (ms.map sgD), .lst m' (ms.map sgD)]) Qd := by
  refine O_neR ?_ ?_ q
  · intro x hx
    obtain ⟨e, _, rfl⟩ := List.mem_map.mp hx
    simp [sgD, okD]
  · intro x hx
    obtain ⟨e, _, rfl⟩ := List.mem_map.mp hx
    simp [sgD, deq, deqL]
theorem inO_non : ∀ ms : List Mk, inO .non (ms.map Mk.d) = false
  | [] => rfl
  | m :: ms => by
    simp only [List.map_cons, inO, inO_non ms, Bool.or_false]
    simp [Mk.d, deq]
theorem O_inNon {m : Bool} {ms : List Mk} {Qd : D → Prop} (q : Qd (.bl false)) : WO (opD (.cmp .In) [.non, .lst m (ms.map Mk.d)]) Qd := by
  have h : ((okD deep D.non) && (ms.map Mk.d).all (okD deep)) = true := by
    unfold deep
    simp only [okD, Bool.true_and, List.all_eq_true]
    intro x hx
    obtain ⟨e, _, rfl⟩ := List.mem_map.mp hx
    simp [Mk.d, okD]
  exact ⟨.bl false, by simp only [opD, cmpO, cmpB, memO, h, if_true, inO_non, Option.map_some], q⟩
end VI

namespace VI
open PySem L2
def crossP (f p g q : Nat) : Prop := (f < g ∧ g < p ∧ p < q) ∨ (g < f ∧ f < q ∧ q < p)
instance (f p g q : Nat) : Decidable (crossP f p g q) := by unfold crossP; infer_instance
theorem O_eqP {a b c d : Int} {Qd : D → Prop} (q : Qd (.bl (decide (a = c ∧ b = d)))) : WO (opD (.cmp .Eq) [.tup [.int a, .int b], .tup [.int c, .int d]]) Qd := by
  refine ⟨_, ?_, q⟩
  simp only [opD, cmpO, cmpB, eqO, okD, deep, List.all_cons, List.all_nil, Bool.and_self, if_true, deq, deqL, Bool.and_true, Option.map_some]
  congr 2
  by_cases h1 : a = c <;> by_cases h2 : b = d <;> simp [h1, h2]
/-! pairs in turn -/
def pairD (p : Nat × Nat) : D := .tup [.int (p.1 : Int), .int (p.2 : Int)]
theorem pure_prs : ∀ ps : List (Nat × Nat), pureL (ps.map pairD) = true
  | [] => rfl
  | p :: ps => by
    have := pure_prs ps
    simp only [List.map_cons, pureL, this, Bool.and_true]
    rfl
theorem I_rng2 {i n : Nat} {P : List D → Prop} (h1 : i ≤ 1000) (h2 : n ≤ 1000) (q : P (rngO ((i : Int) + 1) (n : Int))) : ∃ xs, itD .rng (frzL [.int ((i : Int) + 1), .int (n : Int)]) = some xs ∧ P xs := by
  refine ⟨_, ?_, q⟩
  have e1 : frzL [D.int ((i : Int) + 1), .int (n : Int)] = [D.int ((i : Int) + 1), .int (n : Int)] := by simp [frzL, D.frz]
  rw [e1]
  have e2 : in62 ((i : Int) + 1) = true := by
    unfold in62
    simp only [Bool.and_eq_true, decide_eq_true_eq]
    omega
  have e3 : in62 (n : Int) = true := by
    unfold in62
    simp only [Bool.and_eq_true, decide_eq_true_eq]
    omega
  simp only [itD, rngs, e2, e3, Bool.and_self, if_true]
def spF (ms : List Mk) (i : Nat) : Nat := (ms[i]?.map (·.first)).getD 0
def spP (ms : List Mk) (i : Nat) : Nat := (ms[i]?.map (·.past)).getD 0
theorem O_lenQ {b : Option Bool} {xs : List D} {Qd : D → Prop} (q : Qd (.int (xs.length : Int))) : WO (opD (.fn .len) [seqL b xs]) Qd := by
  cases b with
  | some m => exact ⟨_, rfl, q⟩
  | none => exact ⟨_, rfl, q⟩
end VI

namespace VI
open PySem L2
/-! trees -/
def tD : Option Nat → D
  | none => .non
  | some j => .int (j : Int)
theorem O_sl24 {a b c d e : D} {Qd : D → Prop} (q : Qd (.tup [c, d])) : WO (opD (.sl true true) [.tup [a, b, c, d, e], .int 2, .int 4]) Qd := ⟨_, rfl, q⟩
end VI

namespace VI
open PySem L2
theorem inO_pr (a b : Nat) : ∀ ps : List (Nat × Nat), inO (.tup [.int (a : Int), .int (b : Int)]) (ps.map pairD) = decide ((a, b) ∈ ps)
  | [] => rfl
  | p :: ps => by
    have ih := inO_pr a b ps
    obtain ⟨c, d⟩ := p
    simp only [List.map_cons, inO, ih, pairD, deq, deqL, Bool.and_true]
    by_cases h1 : c = a
    · by_cases h2 : d = b
      · subst h1 h2; simp
      · have : ¬ b = d := fun z => h2 z.symm
        have h3 : ¬ (d : Int) = (b : Int) := by omega
        subst h1; simp [h3, this]
    · have : ¬ a = c := fun z => h1 z.symm
      have h3 : ¬ (c : Int) = (a : Int) := by omega
      simp [h3, this]
theorem O_notInP {a b : Nat} {m : Bool} {ps : List (Nat × Nat)} {Qd : D → Prop} (q : Qd (.bl (!decide ((a, b) ∈ ps)))) : WO (opD (.cmp .NotIn) [.tup [.int (a : Int), .int (b : Int)], .lst m (ps.map pairD)]) Qd := by
  have h1 : okD deep (.tup [.int (a : Int), .int (b : Int)]) = true := rfl
  have h2 : (ps.map pairD).all (okD deep) = true := by
    rw [List.all_eq_true]
    intro x hx
    obtain ⟨p, _, rfl⟩ := List.mem_map.mp hx
    rfl
  exact ⟨_, by simp only [opD, cmpO, cmpB, memO, h1, h2, Bool.and_self, if_true, inO_pr, Option.map_some], q⟩
theorem inO_nat (u : Nat) : ∀ ks : List Nat, inO (.int (u : Int)) (nat' ks) = decide (u ∈ ks)
  | [] => rfl
  | k :: ks => by
    have ih := inO_nat u ks
    simp only [nat', List.map_cons, inO] at ih ⊢
    rw [ih]
    by_cases h : k = u
    · subst h; simp [deq]
    · have : ¬ u = k := fun z => h z.symm
      have h2 : ¬ (k : Int) = (u : Int) := by omega
      simp [deq, h2, this]
theorem O_notInI {u : Nat} {m : Bool} {ks : List Nat} {Qd : D → Prop} (q : Qd (.bl (!decide (u ∈ ks)))) : WO (opD (.cmp .NotIn) [.int (u : Int), .lst m (nat' ks)]) Qd := by
  have h1 : okD deep (.int (u : Int)) = true := rfl
  have h2 : (nat' ks).all (okD deep) = true := by
    rw [List.all_eq_true]
    intro x hx
    obtain ⟨p, _, rfl⟩ := List.mem_map.mp hx
    rfl
  exact ⟨_, by simp only [opD, cmpO, cmpB, memO, h1, h2, Bool.and_self, if_true, inO_nat, Option.map_some], q⟩
theorem intsO_nat : ∀ ks : List Nat, intsO (nat' ks) = some (ks.map fun k : Nat => (k : Int))
  | [] => rfl
  | k :: ks => by
    have := intsO_nat ks
    simp only [nat', List.map_cons, intsO] at this ⊢
    rw [this]; rfl
def rkF (ms : List Mk) (i : Nat) : Nat := (spP ms i - spF ms i) * 100 + (99 - i)
def cnt (ms : List Mk) (i : Nat) : Nat := ((List.range ms.length).filter fun j => decide (rkF ms i < rkF ms j)).length
theorem pure_tD (o : Option Nat) : (tD o).pure = true := by cases o <;> rfl
end VI

namespace VI
open PySem L2
def rg (f p : Nat) : List Nat := List.range' f (p - f)
theorem rg_len (f p : Nat) : (rg f p).length = p - f := by simp [rg]
theorem deqL_nat : ∀ a b : List Nat, deqL (nat' a) (nat' b) = decide (a = b)
  | [], [] => rfl
  | [], b :: bs => by simp [nat', deqL]
  | a :: as, [] => by simp [nat', deqL]
  | a :: as, b :: bs => by
    have ih := deqL_nat as bs
    simp only [nat', List.map_cons, deqL, deq] at ih ⊢
    rw [ih]
    by_cases h : a = b
    · subst h; simp
    · have : ¬ (a : Int) = (b : Int) := by omega
      simp [h, this]
theorem okD_nat (m : Bool) (a : List Nat) : okD deep (.lst m (nat' a)) = true := by
  unfold deep
  simp only [okD, List.all_eq_true]
  intro x hx
  obtain ⟨p, _, rfl⟩ := List.mem_map.mp hx
  rfl
theorem O_eqN {m m' : Bool} {a b : List Nat} {Qd : D → Prop} (q : Qd (.bl (decide (a = b)))) : WO (opD (.cmp .Eq) [.lst m (nat' a), .lst m' (nat' b)]) Qd :=
  ⟨_, by simp only [opD, cmpO, cmpB, eqO, okD_nat, Bool.and_self, if_true, deq, deqL_nat, Option.map_some], q⟩
theorem O_eqN0 {m m' : Bool} {a : List Nat} {Qd : D → Prop} (q : Qd (.bl (decide (a = [])))) : WO (opD (.cmp .Eq) [.lst m (nat' a), .lst m' []]) Qd := O_eqN (b := []) q
theorem O_inI {u : Nat} {m : Bool} {ks : List Nat} {Qd : D → Prop} (q : Qd (.bl (decide (u ∈ ks)))) : WO (opD (.cmp .In) [.int (u : Int), .lst m (nat' ks)]) Qd := by
  have h1 : okD deep (.int (u : Int)) = true := rfl
  have h2 : (nat' ks).all (okD deep) = true := by
    rw [List.all_eq_true]
    intro x hx
    obtain ⟨p, _, rfl⟩ := List.mem_map.mp hx
    rfl
  exact ⟨_, by simp only [opD, cmpO, cmpB, memO, h1, h2, Bool.and_self, if_true, inO_nat, Option.map_some], q⟩
theorem O_lrng2 {f p : Nat} {Qd : D → Prop} (h1 : f ≤ 1000) (h2 : p ≤ 1000) (q : Qd (.lst true (nat' (rg f p)))) : WO (opD .lrng [.int (f : Int), .int (p : Int)]) Qd := by
  have e2 : in62 (f : Int) = true := by
    unfold in62
    simp only [Bool.and_eq_true, decide_eq_true_eq]
    omega
  have e3 : in62 (p : Int) = true := by
    unfold in62
    simp only [Bool.and_eq_true, decide_eq_true_eq]
    omega
  have e4 : rngO (f : Int) (p : Int) = nat' (rg f p) := by
    unfold rngO nat' rg
    have : ((p : Int) - (f : Int)).toNat = p - f := by omega
    rw [this, List.range'_eq_map_range, List.map_map]
    apply List.map_congr_left
    intro k _
    show D.int ((f : Int) + (k : Int)) = D.int ((f + k : Nat) : Int)
    congr 1
  have e5 : (nat' (rg f p)).length ≤ lim := by rw [nat_len, rg_len]; unfold lim; omega
  exact ⟨_, by simp only [opD, rngs, e2, e3, Bool.and_self, if_true, Option.bind_some, e4, e5], q⟩
end VI

namespace VI
open PySem L2
section
variable {call : CallT} {ρ : Env'} {Q : D → Env' → Prop} {k : KS}
def kk (T : List (List Nat × D)) : List (Key × D) := T.map fun p => (.inr (ST p.1), p.2)
def sGet (T : List (List Nat × D)) (k : List Nat) : Option D := (T.find? fun p => decide (p.1 = k)).map (·.2)
def sPut (T : List (List Nat × D)) (k : List Nat) (d : D) : List (List Nat × D) :=
  if (T.any fun p => decide (p.1 = k)) = true then T.map (fun p => if p.1 = k then (p.1, d) else p) else T ++ [(k, d)]
def sMrg (T U : List (List Nat × D)) : List (List Nat × D) := U.foldl (fun acc p => sPut acc p.1 p.2) T
theorem key_eq (a b : List Nat) : ((Sum.inr (ST a) : Key) = Sum.inr (ST b)) = (a = b) := propext ⟨fun h => st_inj (Sum.inr.inj h), fun h => by rw [h]⟩
theorem kk_get (k : List Nat) : ∀ T : List (List Nat × D), vGet (kk T) (.inr (ST k)) = sGet T k
  | [] => rfl
  | p :: T => by
    have ih := kk_get k T
    unfold vGet sGet kk at ih ⊢
    rw [List.map_cons, List.find?_cons, List.find?_cons]
    by_cases h : p.1 = k
    · rw [decide_eq_true h, decide_eq_true (by rw [key_eq]; exact h)]; rfl
    · rw [decide_eq_false h, decide_eq_false (by rw [key_eq]; exact h)]; exact ih
theorem kk_put (T : List (List Nat × D)) (k : List Nat) (d : D) : vPut (kk T) (.inr (ST k)) d = kk (sPut T k d) := by
  have e : ((kk T).any fun kv => decide (kv.1 = (Sum.inr (ST k) : Key))) = (T.any fun p => decide (p.1 = k)) := by
    unfold kk
    rw [List.any_map]
    congr 1
    funext p
    show decide ((Sum.inr (ST p.1) : Key) = Sum.inr (ST k)) = _
    simp only [key_eq]
  unfold vPut sPut
  rw [e]
  split
  · unfold kk
    rw [List.map_map, List.map_map]
    congr 1
    funext p
    show (if (Sum.inr (ST p.1) : Key) = Sum.inr (ST k) then _ else _) = _
    by_cases h : p.1 = k
    · rw [if_pos (by rw [key_eq]; exact h)]; simp [h]
    · rw [if_neg (by rw [key_eq]; exact h)]; simp [h]
  · unfold kk
    rw [List.map_append]; rfl
theorem kk_mrg : ∀ (U T : List (List Nat × D)), vMrg (kk T) (kk U) = kk (sMrg T U)
  | [], T => rfl
  | p :: U, T => by
    have := kk_mrg U (sPut T p.1 p.2)
    rw [← kk_put] at this
    exact this
theorem pure_kk {T : List (List Nat × D)} (h : T.all (fun p => p.2.pure) = true) : pureK (kk T) = true := by
  induction T with
  | nil => rfl
  | cons p T ih =>
    rw [List.all_cons, Bool.and_eq_true] at h
    show (p.2.pure && pureK (kk T)) = true
    rw [h.1, ih h.2]; rfl
theorem W_dnew {t : Bool} (q : Q (if t then .dit true [] else .dic true []) ρ) : WR (ev call (.dnew t) ρ) Q := ⟨_, ρ, by simp only [ev], q⟩
theorem W_disp {ks : List (List Nat)} {vs : List E} (q : WR (evC call vs ρ) fun ds ρ' => (ks.length = ds.length ∧ ks.length ≤ 15 ∧ ks.Nodup ∧ ks.all okCs = true ∧ 0 < ks.length) ∧ Q (.dic true (kk (ks.zip ds))) ρ') : WR (ev call (.disp ks vs) ρ) Q := by
  obtain ⟨ds, ρ', e, c, q⟩ := q
  refine ⟨_, ρ', ?_, q⟩
  simp only [ev, e, R.bind]
  rw [if_pos c]
  congr 2
  unfold kk
  rw [List.zip_map_left]; rfl
theorem X_dstore {i : Nat} {kx e : E} (q : WR (ev call e ρ) fun d ρ1 => d.pure = true ∧ (∃ x0, ρ1[i]? = some (some x0)) ∧ WR (ev call kx ρ1) fun kd ρ2 => ∃ x, ρ2[i]? = some (some x) ∧ ∃ x', dput x kd d = some x' ∧ k.nx (ρ2.set i (some x'))) : WX (ex call (.dstore i kx e) ρ) k := by
  obtain ⟨d, ρ1, e1, hp, ⟨x0, h0⟩, kd, ρ2, e2, x, h2, x', h3, q⟩ := q
  refine ⟨?_⟩
  simp only [ex, e1, R.sbind, h0, hp, if_true, e2, h2, h3]
  exact q
theorem dput_kk {T : List (List Nat × D)} {k : List Nat} {d : D} (h : T.length < lim) : dput (.dic true (kk T)) (.str k) d = some (.dic true (kk (sPut T k d))) := by
  have hl : (kk T).length < lim := by unfold kk; rw [List.length_map]; exact h
  simp only [dput, keyD, Option.bind_some]
  rw [if_pos hl, kk_put]
theorem W_dupd {i : Nat} {e : E} {kvs : List (Key × D)} (h : ρ[i]? = some (some (.dic true kvs))) (q : WR (ev call e ρ) fun d ρ1 => (!shares e || d.pure) = true ∧ ∃ x, ρ1[i]? = some (some x) ∧ ∃ x', dupO x d = some x' ∧ Q .non (ρ1.set i (some x'))) : WR (ev call (.dupd i e) ρ) Q := by
  obtain ⟨d, ρ1, e1, c, x, h1, x', h2, q⟩ := q
  exact ⟨_, _, by simp only [ev, h, isDic, if_true, e1, R.bind, c, h1, h2], q⟩
theorem dup_kk {T U : List (List Nat × D)} {m : Bool} (hp : U.all (fun p => p.2.pure) = true) (h : T.length + U.length ≤ lim) : dupO (.dic true (kk T)) (.dic m (kk U)) = some (.dic true (kk (sMrg T U))) := by
  have hl : (kk T).length + (kk U).length ≤ lim := by unfold kk; rw [List.length_map, List.length_map]; exact h
  unfold dupO
  simp only [pure_kk hp, decide_eq_true hl, Bool.and_self, if_true, kk_mrg]
theorem W_dget2 {i : Nat} {as : List E} {d0 : D} (h : ρ[i]? = some (some d0)) (hd : isDct d0 = true) (q : WR (evC call as ρ) fun ds ρ2 => ∃ d, ρ2[i]? = some (some d) ∧ WO (dget2O d ds) fun r => Q r ρ2) : WR (ev call (.dget2 i as) ρ) Q := by
  obtain ⟨ds, ρ2, e, d, h2, r, hr, q⟩ := q
  exact ⟨r, ρ2, by simp only [ev, h, hd, if_true, e, R.bind, h2, hr, R.of], q⟩
theorem O_dget {m : Bool} {T : List (List Nat × D)} {k : List Nat} {d : D} {Qd : D → Prop} (h : sGet T k = some d) (hp : d.pure = true) (q : Qd d) : WO (opD .dget [.dic m (kk T), .str k]) Qd := by
  refine ⟨d, ?_, q⟩
  simp only [opD, dfind, keyD, Option.map_some, Option.bind_some, kk_get, h]
  unfold pureO
  rw [if_pos hp]
theorem ex_dput {T : List (List Nat × D)} {k : List Nat} {d : D} {P : D → Prop} (h : T.length < lim) (q : P (.dic true (kk (sPut T k d)))) : ∃ x', dput (.dic true (kk T)) (.str k) d = some x' ∧ P x' := ⟨_, dput_kk h, q⟩
theorem ex_dup {T U : List (List Nat × D)} {m : Bool} {P : D → Prop} (hp : U.all (fun p => p.2.pure) = true) (h : T.length + U.length ≤ lim) (q : P (.dic true (kk (sMrg T U)))) : ∃ x', dupO (.dic true (kk T)) (.dic m (kk U)) = some x' ∧ P x' := ⟨_, dup_kk hp h, q⟩
def sPr (p : List Nat × D) : D := .tup [.str p.1, p.2]
theorem prsK_kk : ∀ T : List (List Nat × D), prsK (T.map sPr) = some (kk T)
  | [] => rfl
  | p :: T => by
    show ((some (Sum.inr (ST p.1) : Key)).bind fun key => (prsK (T.map sPr)).map ((key, p.2) :: ·)) = _
    rw [prsK_kk T]; rfl
theorem O_dictP {m : Bool} {T : List (List Nat × D)} {Qd : D → Prop} (hp : T.all (fun p => p.2.pure) = true) (hl : T.length ≤ lim) (q : Qd (.dic true (kk (sMrg [] T)))) : WO (opD (.fn .dict) [.lst m (T.map sPr)]) Qd := by
  refine ⟨_, ?_, q⟩
  have pl : pureL (T.map sPr) = true := by
    clear q hl
    induction T with
    | nil => rfl
    | cons p T ih =>
      rw [List.all_cons, Bool.and_eq_true] at hp
      show ((sPr p).pure && pureL (T.map sPr)) = true
      have : (sPr p).pure = true := by simp [sPr, D.pure, pureL, hp.1]
      rw [this, ih hp.2]; rfl
  show dictO [.lst m (T.map sPr)] = _
  unfold dictO
  have hl2 : (T.map sPr).length ≤ lim := by rw [List.length_map]; exact hl
  simp only [pl, decide_eq_true hl2, Bool.and_self, if_true, prsK_kk, Option.map_some]
  rw [show ([] : List (Key × D)) = kk [] from rfl, kk_mrg]
end
/-! the turned words -/
end VI
namespace VI
open PySem L2
theorem WXi {r : SR} {k : KS} (h : WX r k) : WX r k := h
theorem WRi {α : Type} {r : R α} {Q : α → Env' → Prop} (h : WR r Q) : WR r Q := h
theorem WOi {o : Option D} {Q : D → Prop} (h : WO o Q) : WO o Q := h
end VI

namespace VI
open PySem L2
section
variable {call : CallT} {ρ : Env'} {Q : D → Env' → Prop} {k : KS}
theorem W_fz {e : E} (h : WR (ev call e ρ) fun d ρ1 => (d.can && !shares e) = true ∧ Q d.frz ρ1) : WR (ev call (.fz e) ρ) Q := by
  obtain ⟨d, ρ1, h1, h2, q⟩ := h
  refine ⟨_, ρ1, ?_, q⟩
  simp only [ev, h1, R.bind]
  rw [if_pos h2]
/-! ### dicts by ints -/
end
end VI

namespace VI
open PySem L2
section
variable {call : CallT} {ρ : Env'} {Q : D → Env' → Prop} {k : KS}
def fldP (C f : Str) (d : D) (K : D → Prop) : Prop := match d with
  | .ins C1 fs => C1 = C ∧ ∃ x, fs.lookup f = some x ∧ x.pure = true ∧ K x
  | _ => False
def noM (C m : Str) (d : D) (P : Prop) : Prop := match d with
  | .ins C1 fs => (C1 = C ∧ fs.lookup m = none) ∧ P
  | _ => False
def fputP (C f : Str) (d x : D) (K : D → Prop) : Prop := match x with
  | .ins C1 fs => (C1 = C ∧ fs.length < 1000 ∧ fixF fs f = true) ∧ K (.ins C1 (fPut f d fs))
  | _ => False
def isTT (d : D) (P : Prop) : Prop := match d with
  | .dit true _ => P
  | _ => False
theorem isTT_ok {d : D} {P : Prop} (h : isTT d P) : (∃ kvs, d = .dit true kvs) ∧ P := by
  unfold isTT at h
  split at h
  · exact ⟨⟨_, rfl⟩, h⟩
  · exact h.elim
theorem isTT_t {P : Prop} {kvs : List (List Key × D)} : isTT (.dit true kvs) P = P := rfl
theorem W_fld {C f : Str} {i : Nat} {d : D} (h : ρ[i]? = some (some d)) (q : fldP C f d fun x => Q x ρ) : WR (ev call (.fld C i f) ρ) Q := by
  unfold fldP at q
  split at q
  case h_2 => exact q.elim
  obtain ⟨rfl, x, h1, h2, q⟩ := q
  exact ⟨⟨x, ρ, by simp only [ev, h, h1, h2, if_true], q⟩⟩
theorem W_meth {C m g : Str} {i : Nat} {as : List E} {d0 : D} (h : ρ[i]? = some (some d0)) (q : noM C m d0 (WR (evA call as ρ) fun rs ρ1 => ∃ ds ρ2, fetch (.lnt i :: rs) ρ1 = some (ds, ρ2) ∧ ∃ d outs, call g ds = .ok d outs ∧ Q d (back (.lnt i :: rs) outs ρ2))) : WR (ev call (.meth C m g i as) ρ) Q := by
  unfold noM at q
  split at q
  case h_2 => exact q.elim
  obtain ⟨⟨rfl, hl⟩, ⟨⟨rs, ρ1, e1, ds, ρ2, e2, d, outs, e3, q⟩⟩⟩ := q
  exact ⟨⟨d, _, by simp only [ev, h, hl, and_self, if_true, e1, R.bind, e2, e3], q⟩⟩
theorem W_new {C g : Str} {as : List E} (q : WR (evA call as ρ) fun rs ρ1 => ∃ ds ρ2, fetch rs ρ1 = some (ds, ρ2) ∧ ∃ d outs, call g (.ins C [] :: ds) = .ok .non (some d :: outs) ∧ Q d (back rs outs ρ2)) : WR (ev call (.new C g as) ρ) Q := by
  obtain ⟨⟨rs, ρ1, e1, ds, ρ2, e2, d, outs, e3, q⟩⟩ := q
  exact ⟨⟨d, _, by simp only [ev, e1, R.bind, e2, e3], q⟩⟩
theorem W_recv {C m g : Str} {e : E} {as : List E} (hs : shares e = false) (q : WR (ev call e ρ) fun d ρ1 => noM C m d (WR (evA call as ρ1) fun rs ρ2 => ∃ ds ρ3, fetch rs ρ2 = some (ds, ρ3) ∧ ∃ r o outs, call g (d :: ds) = .ok r (o :: outs) ∧ Q r (back rs outs ρ3))) : WR (ev call (.recv C m g e as) ρ) Q := by
  obtain ⟨⟨d, ρ1, e1, q⟩⟩ := q
  unfold noM at q
  split at q
  case h_2 => exact q.elim
  obtain ⟨⟨rfl, hl⟩, ⟨⟨rs, ρ2, e2, ds, ρ3, e3, r, o, outs, e4, q⟩⟩⟩ := q
  exact ⟨⟨r, _, by simp only [ev, e1, R.bind, hl, hs, and_self, if_true, e2, e3, e4], q⟩⟩
theorem W_dupdT {i : Nat} {e : E} {kvs : List (List Key × D)} (h : ρ[i]? = some (some (.dit true kvs))) (q : WR (ev call e ρ) fun d ρ1 => (!shares e || d.pure) = true ∧ ∃ x, ρ1[i]? = some (some x) ∧ ∃ x', dupTO x d = some x' ∧ Q .non (ρ1.set i (some x'))) : WR (ev call (.dupdT i e) ρ) Q := by
  obtain ⟨⟨d, ρ1, e1, c, x, h1, x', h2, q⟩⟩ := q
  exact ⟨⟨_, _, by simp only [ev, h, isDit, if_true, e1, R.bind, c, h1, h2], q⟩⟩
theorem X_fput {C f : Str} {i : Nat} {e : E} (q : WR (ev call e ρ) fun d ρ1 => (!shares e || d.pure) = true ∧ ∃ x, ρ1[i]? = some (some x) ∧ fputP C f d x fun x' => k.nx (ρ1.set i (some x'))) : WX (ex call (.fput C i f e) ρ) k := by
  obtain ⟨⟨d, ρ1, e1, c, x, h1, q⟩⟩ := q
  unfold fputP at q
  split at q
  case h_2 => exact q.elim
  obtain ⟨⟨rfl, h2, h3⟩, q⟩ := q
  refine ⟨?_⟩
  simp only [ex, e1, R.sbind, c, h1, h2, h3, decide_true, Bool.and_self, if_true]
  exact q
end
end VI

namespace VI
open PySem L2
def getP : Env' → Nat → (D → Prop) → Prop
  | [], _, _ => False
  | o :: _, 0, K => match o with
    | some d => K d
    | none => False
  | _ :: r, n + 1, K => getP r n K
theorem getP_ok : ∀ {ρ : Env'} {i : Nat} {K : D → Prop}, getP ρ i K → ∃ d, ρ[i]? = some (some d) ∧ K d
  | [], _, _, h => h.elim
  | o :: r, 0, K, h => by
    cases o with
    | none => exact h.elim
    | some d => exact ⟨d, rfl, h⟩
  | _ :: r, n + 1, K, h => by simpa using getP_ok (ρ := r) (i := n) h
def inR : Env' → Nat → Prop → Prop
  | [], _, _ => False
  | _ :: _, 0, P => P
  | _ :: r, n + 1, P => inR r n P
theorem inR_ok : ∀ {ρ : Env'} {i : Nat} {P : Prop}, inR ρ i P → i < ρ.length ∧ P
  | [], _, _, h => h.elim
  | _ :: r, 0, P, h => ⟨by simp, h⟩
  | _ :: r, n + 1, P, h => by
    obtain ⟨h1, h2⟩ := inR_ok (ρ := r) (i := n) h
    exact ⟨by simpa using h1, h2⟩
mutual
def tgP : T → D → Env' → (Env' → Prop) → Prop
  | .slot i, d, ρ, K => inR ρ i (K (ρ.set i (some d)))
  | .tup ts, d, ρ, K => match d with
    | .tup xs => tgPs ts xs ρ K
    | .lst _ xs => tgPs ts xs ρ K
    | _ => False
def tgPs : List T → List D → Env' → (Env' → Prop) → Prop
  | [], [], ρ, K => K ρ
  | t :: ts, x :: xs, ρ, K => tgP t x ρ fun ρ' => tgPs ts xs ρ' K
  | _, _, _, _ => False
end
mutual
theorem tgP_ok : ∀ (t : T) {d : D} {ρ : Env'} {K : Env' → Prop}, tgP t d ρ K → ∃ ρ', t.put d ρ = some ρ' ∧ K ρ'
  | .slot i, d, ρ, K, h => by
    obtain ⟨h1, h2⟩ := inR_ok h
    exact ⟨_, by simp only [T.put, h1, if_true], h2⟩
  | .tup ts, d, ρ, K, h => by
    cases d <;> simp only [tgP] at h <;> first | (exact h.elim) | skip
    · simp only [T.put]; exact tgPs_ok ts h
    · simp only [T.put]; exact tgPs_ok ts h
theorem tgPs_ok : ∀ (ts : List T) {xs : List D} {ρ : Env'} {K : Env' → Prop}, tgPs ts xs ρ K → ∃ ρ', putL ts xs ρ = some ρ' ∧ K ρ'
  | [], [], ρ, K, h => ⟨ρ, rfl, h⟩
  | t :: ts, x :: xs, ρ, K, h => by
    simp only [tgPs] at h
    obtain ⟨ρ1, h1, h2⟩ := tgP_ok t h
    obtain ⟨ρ2, h3, h4⟩ := tgPs_ok ts h2
    exact ⟨ρ2, by simp only [putL, h1, Option.bind_some, h3], h4⟩
  | [], _ :: _, _, _, h => by simp [tgPs] at h
  | _ :: _, [], _, _, h => by simp [tgPs] at h
end
def pAll : List Nat → List D → Env' → (Env' → Prop) → Prop
  | [], [], ρ, K => K ρ
  | i :: is, d :: ds, ρ, K => inR ρ i (pAll is ds (ρ.set i (some d)) K)
  | _, _, _, _ => False
theorem pAll_ok : ∀ {is : List Nat} {ds : List D} {ρ : Env'} {K : Env' → Prop}, pAll is ds ρ K → ∃ ρ', putAll is ds ρ = some ρ' ∧ K ρ'
  | [], [], ρ, K, h => ⟨ρ, rfl, h⟩
  | i :: is, d :: ds, ρ, K, h => by
    obtain ⟨h1, h2⟩ := inR_ok h
    obtain ⟨ρ2, h3, h4⟩ := pAll_ok h2
    exact ⟨ρ2, by simp only [putAll, h1, if_true, h3], h4⟩
  | [], _ :: _, _, _, h => by simp [pAll] at h
  | _ :: _, [], _, _, h => by simp [pAll] at h
def pur1 (d : D) (P : Prop) : Prop := match d with
  | .non => P
  | .bl _ => P
  | .int _ => P
  | .str _ => P
  | d => d.pure = true ∧ P
theorem pur1_ok {d : D} {P : Prop} (h : pur1 d P) : d.pure = true ∧ P := by
  cases d <;> first | exact ⟨rfl, h⟩ | exact h
def cnd (b : Bool) (d : D) (P : Prop) : Prop := match b with
  | false => P
  | true => pur1 d P
theorem cnd_ok {b : Bool} {d : D} {P : Prop} (h : cnd b d P) : (!b || d.pure) = true ∧ P := by
  cases b with
  | false => exact ⟨rfl, h⟩
  | true => obtain ⟨h1, h2⟩ := pur1_ok h; exact ⟨by simp [h1], h2⟩
def purP : List D → Prop → Prop
  | [], P => P
  | d :: r, P => pur1 d (purP r P)
theorem purP_ok : ∀ {ds : List D} {P : Prop}, purP ds P → pureL ds = true ∧ P
  | [], P, h => ⟨rfl, h⟩
  | d :: r, P, h => by
    obtain ⟨h1, h2⟩ := pur1_ok h
    obtain ⟨h3, h4⟩ := purP_ok h2
    exact ⟨by simp [pureL, h1, h3], h4⟩
def fewP : List E → Nat → Prop → Prop
  | [], _, P => P
  | _ :: _, 0, _ => False
  | _ :: r, m + 1, P => fewP r m P
theorem fewP_ok : ∀ {es : List E} {n : Nat} {P : Prop}, fewP es n P → es.length ≤ n ∧ P
  | [], n, P, h => ⟨by simp, h⟩
  | _ :: r, 0, P, h => h.elim
  | _ :: r, m + 1, P, h => by
    obtain ⟨h1, h2⟩ := fewP_ok (n := m) (es := r) h
    exact ⟨by simpa using h1, h2⟩
def useP (d : D) (K : D → Prop) : Prop := match d with
  | .non => K .non
  | .bl b => K (.bl b)
  | .int i => K (.int i)
  | .str s => K (.str s)
  | .lst m xs => canL xs = true ∧ K (.lst false (frzL xs))
  | .tup xs => canL xs = true ∧ K (.tup (frzL xs))
  | .scr ns => K (.scr ns)
  | d => d.cand = true ∧ K d.frz
def nsh : Bool → Prop → Prop
  | false, P => P
  | true, _ => False
theorem nsh_f {P : Prop} : nsh false P = P := rfl
theorem nsh_ok {b : Bool} {P : Prop} (h : nsh b P) : b = false ∧ P := by
  cases b with
  | false => exact ⟨rfl, h⟩
  | true => exact h.elim
def fzP (d : D) (K : D → Prop) : Prop := match d with
  | .lst _ xs => canL xs = true ∧ K (.lst false (frzL xs))
  | _ => False
theorem fzP_ok {d : D} {K : D → Prop} (h : fzP d K) : d.can = true ∧ K d.frz := by
  cases d <;> simp only [fzP] at h <;> first | exact h.elim | exact ⟨by simp only [D.can]; exact h.1, by simp only [D.frz]; exact h.2⟩
theorem fzP_L {m : Bool} {xs : List D} {K : D → Prop} (hp : pureL xs = true) (q : K (.lst false xs)) : fzP (.lst m xs) K := ⟨pureL_can hp, by rw [frzL_of_pure hp]; exact q⟩
theorem useP_ok {d : D} {K : D → Prop} (h : useP d K) : d.cand = true ∧ K d.frz := by
  cases d <;> simp only [useP] at h <;> first | exact ⟨rfl, h⟩ | exact h | skip
  · exact ⟨by simp only [D.cand]; exact canL_cand h.1, by simp only [D.frz]; exact h.2⟩
  · exact ⟨by simp only [D.cand]; exact canL_cand h.1, by simp only [D.frz]; exact h.2⟩
def truP (d : D) (K : Bool → Prop) : Prop := match d with
  | .bl b => K b
  | .non => K false
  | .int i => K (i != 0)
  | .str s => s.length ≤ lim ∧ K (s.length != 0)
  | .lst _ xs => K (!xs.isEmpty)
  | .tup xs => K (!xs.isEmpty)
  | _ => False
theorem truP_ok {d : D} {K : Bool → Prop} (h : truP d K) : ∃ t, truD d = some t ∧ K t := by
  cases d <;> simp only [truP] at h <;> first | exact ⟨_, rfl, h⟩ | exact h.elim | skip
  exact ⟨_, by simp only [truD, h.1, if_true], h.2⟩
def blP (d : D) (K : Bool → Prop) : Prop := match d with
  | .bl b => K b
  | _ => False
theorem blP_ok {d : D} {K : Bool → Prop} (h : blP d K) : ∃ t, d = .bl t ∧ K t := by
  cases d <;> simp only [blP] at h <;> first | exact ⟨_, rfl, h⟩ | exact h.elim
def brB (t : Bool) (A B : Prop) : Prop := match t with
  | true => A
  | false => B
def brF (t : Bool) (A B : Prop) : Prop := match t with
  | false => A
  | true => B
theorem brB_of {t : Bool} {A B : Prop} (h : (t = true → A) ∧ (t = false → B)) : brB t A B := by
  cases t with
  | true => exact h.1 rfl
  | false => exact h.2 rfl
theorem brF_of {t : Bool} {A B : Prop} (h : (t = false → A) ∧ (t = true → B)) : brF t A B := by
  cases t with
  | true => exact h.2 rfl
  | false => exact h.1 rfl
theorem brB_to {t : Bool} {A B : Prop} (h : brB t A B) : (t = true → A) ∧ (t = false → B) := by
  cases t with
  | true => exact ⟨fun _ => h, fun z => (by cases z)⟩
  | false => exact ⟨fun z => (by cases z), fun _ => h⟩
theorem brF_to {t : Bool} {A B : Prop} (h : brF t A B) : (t = false → A) ∧ (t = true → B) := by
  cases t with
  | false => exact ⟨fun _ => h, fun z => (by cases z)⟩
  | true => exact ⟨fun z => (by cases z), fun _ => h⟩
def isLT (d : D) (P : Prop) : Prop := match d with
  | .lst true _ => P
  | _ => False
theorem isLT_ok {d : D} {P : Prop} (h : isLT d P) : (∃ xs, d = .lst true xs) ∧ P := by
  unfold isLT at h
  split at h
  · exact ⟨⟨_, rfl⟩, h⟩
  · exact h.elim
def isLs (d : D) (P : Prop) : Prop := match d with
  | .lst _ _ => P
  | _ => False
theorem isLs_ok {d : D} {P : Prop} (h : isLs d P) : (∃ m xs, d = .lst m xs) ∧ P := by
  unfold isLs at h
  split at h
  · exact ⟨⟨_, _, rfl⟩, h⟩
  · exact h.elim
def isDT (d : D) (P : Prop) : Prop := match d with
  | .dic true _ => P
  | _ => False
theorem isDT_ok {d : D} {P : Prop} (h : isDT d P) : (∃ kvs, d = .dic true kvs) ∧ P := by
  unfold isDT at h
  split at h
  · exact ⟨⟨_, rfl⟩, h⟩
  · exact h.elim
def isDs (d : D) (P : Prop) : Prop := match d with
  | .dic _ _ => P
  | .dit _ _ => P
  | _ => False
theorem isDs_ok {d : D} {P : Prop} (h : isDs d P) : isDct d = true ∧ P := by
  cases d <;> simp only [isDs] at h <;> first | exact ⟨rfl, h⟩ | exact h.elim
def isIn (d : D) (K : Int → Prop) : Prop := match d with
  | .int i => K i
  | _ => False
theorem isIn_ok {d : D} {K : Int → Prop} (h : isIn d K) : ∃ i, d = .int i ∧ K i := by
  cases d <;> simp only [isIn] at h <;> first | exact ⟨_, rfl, h⟩ | exact h.elim
structure OP (o : Op) (ds : List D) (K : D → Prop) : Prop where
  out : WO (opD o ds) K
theorem OP_of {o : Op} {ds : List D} {K : D → Prop} (h : WO (opD o ds) K) : OP o ds K := ⟨h⟩
theorem OP_ok {o : Op} {ds : List D} {K : D → Prop} (h : OP o ds K) : WO (opD o ds) K := h.out
def wOp (o : Op) (sh : Bool) (ds : List D) (K : D → Prop) : Prop := match o with
  | .ix => OP .ix ds fun d => match sh with
    | true => K d
    | false => pur1 d (K d)
  | o => OP o ds K
theorem wOp_ok {o : Op} {sh : Bool} {ds : List D} {K : D → Prop} (h : wOp o sh ds K) : WO (opD o ds) fun d => (o != .ix || d.pure || sh) = true ∧ K d := by
  by_cases e : o = .ix
  · subst e
    obtain ⟨d, h1, h2⟩ := OP_ok h
    refine ⟨d, h1, ?_⟩
    cases sh with
    | true => exact ⟨by simp, h2⟩
    | false => obtain ⟨h3, h4⟩ := pur1_ok h2; exact ⟨by simp [h3], h4⟩
  · have : wOp o sh ds K = OP o ds K := by cases o <;> first | rfl | exact absurd rfl e
    rw [this] at h
    obtain ⟨d, h1, h2⟩ := OP_ok h
    exact ⟨d, h1, by simp [e], h2⟩
structure cmpP (o : CmpOp) (x y : D) (K : Bool → Prop) : Prop where
  out : ∃ t, cmpB o x y = some t ∧ K t
theorem cmpP_of {o : CmpOp} {x y : D} {K : Bool → Prop} (h : ∃ t, cmpB o x y = some t ∧ K t) : cmpP o x y K := ⟨h⟩
theorem cmpP_ok {o : CmpOp} {x y : D} {K : Bool → Prop} (h : cmpP o x y K) : ∃ t, cmpB o x y = some t ∧ K t := h.out
structure binP (o : Operator) (x y : D) (K : D → Prop) : Prop where
  out : WO (binO o x y) K
theorem binP_of {o : Operator} {x y : D} {K : D → Prop} (h : WO (binO o x y) K) : binP o x y K := ⟨h⟩
theorem binP_ok {o : Operator} {x y : D} {K : D → Prop} (h : binP o x y K) : WO (binO o x y) K := h.out
def flat2P (d : D) (P : Prop) : Prop := match d with
  | .int _ => P
  | .str _ => P
  | _ => False
theorem flat2P_ok {d : D} {P : Prop} (h : flat2P d P) : flat2 d = true ∧ P := by
  cases d <;> simp only [flat2P] at h <;> first | exact ⟨rfl, h⟩ | exact h.elim
def fetchP : List Ar → Env' → (List D → Env' → Prop) → Prop
  | [], ρ, K => K [] ρ
  | .val d :: r, ρ, K => fetchP r ρ fun ds ρ2 => K (d :: ds) ρ2
  | .lnt i :: r, ρ, K => getP ρ i fun d => fetchP r (ρ.set i none) fun ds ρ2 => K (d :: ds) ρ2
theorem fetchP_ok : ∀ {rs : List Ar} {ρ : Env'} {K : List D → Env' → Prop}, fetchP rs ρ K → ∃ ds ρ2, fetch rs ρ = some (ds, ρ2) ∧ K ds ρ2
  | [], ρ, K, h => ⟨[], ρ, rfl, h⟩
  | .val d :: r, ρ, K, h => by
    obtain ⟨ds, ρ2, h1, h2⟩ := fetchP_ok (rs := r) h
    exact ⟨d :: ds, ρ2, by simp only [fetch, h1, Option.map_some], h2⟩
  | .lnt i :: r, ρ, K, h => by
    obtain ⟨d, h0, h⟩ := getP_ok h
    obtain ⟨ds, ρ2, h1, h2⟩ := fetchP_ok (rs := r) h
    exact ⟨d :: ds, ρ2, by simp only [fetch, h0, h1, Option.map_some], h2⟩
def nshares (e : E) (es : List E) : Bool := match shares e with
  | false => false
  | true => match quietL es with
    | true => false
    | false => true
structure Stop (P : Prop) : Prop where
  out : P
section
variable (call : CallT)
mutual
def wpE : E → Env' → (D → Env' → Prop) → Prop
  | .var i, ρ, Q => getP ρ i fun d => Q d ρ
  | .use i, ρ, Q => getP ρ i fun d => useP d fun d' => Q d' (ρ.set i (some d'))
  | .fz e, ρ, Q => nsh (shares e) (wpE e ρ fun d ρ1 => fzP d fun d' => Q d' ρ1)
  | .take i, ρ, Q => getP ρ i fun d => Q d (ρ.set i none)
  | .cst d, ρ, Q => Q d ρ
  | .glob _ d, ρ, Q => Q d ρ
  | .op o es, ρ, Q => wpR es ρ fun ds ρ' => wOp o (sharesL es) ds fun d => Q d ρ'
  | .and a b, ρ, Q => wpE a ρ fun x ρ1 => blP x fun t => brB t (wpE b ρ1 fun y ρ2 => blP y fun u => Q (.bl u) ρ2) (Q (.bl false) ρ1)
  | .or a b, ρ, Q => wpE a ρ fun x ρ1 => blP x fun t => brF t (wpE b ρ1 fun y ρ2 => blP y fun u => Q (.bl u) ρ2) (Q (.bl true) ρ1)
  | .not a, ρ, Q => wpE a ρ fun x ρ1 => blP x fun t => Q (.bl (!t)) ρ1
  | .chain o1 o2 a b c, ρ, Q => wpE a ρ fun x ρ1 => wpE b ρ1 fun y ρ2 => pur1 x (pur1 y (cmpP o1 x y fun t => brB t (wpE c ρ2 fun z ρ3 => pur1 z (cmpP o2 y z fun u => Q (.bl u) ρ3)) (Q (.bl false) ρ2)))
  | .ifx c a b, ρ, Q => wpE c ρ fun x ρ1 => truP x fun t => brB t (wpE a ρ1 fun y ρ2 => cnd (shares a) y (Q y ρ2)) (wpE b ρ1 fun y ρ2 => cnd (shares b) y (Q y ρ2))
  | .tup es, ρ, Q => wpC es ρ fun ds ρ' => fewP es 50 (purP ds (Q (.tup ds) ρ'))
  | .lst es, ρ, Q => wpC es ρ fun ds ρ' => fewP es 50 (Q (.lst true ds) ρ')
  | .call f as, ρ, Q => wpA as ρ fun rs ρ1 => fetchP rs ρ1 fun ds ρ2 => ∃ d outs, call f ds = .ok d outs ∧ Q d (back rs outs ρ2)
  | .kind (.call f as), ρ, Q => wpA as ρ fun rs ρ1 => fetchP rs ρ1 fun ds ρ2 => ∃ d outs, kOf (call f ds) = some (d, outs) ∧ Q d (back rs outs ρ2)
  | .mut o i [] as, ρ, Q => getP ρ i fun d0 => isLT d0 (wpC as ρ fun ds ρ2 => getP ρ2 i fun d => ∃ d' r, moD o d ds = some (d', r) ∧ Q r (ρ2.set i (some d')))
  | .idx i as, ρ, Q => getP ρ i fun d0 => isLs d0 (wpC as ρ fun ds ρ2 => getP ρ2 i fun d => WO (idxO d ds) fun r => Q r ρ2)
  | .cnt i as, ρ, Q => getP ρ i fun d0 => isLs d0 (wpC as ρ fun ds ρ2 => getP ρ2 i fun d => WO (cntO d ds) fun r => Q r ρ2)
  | .pop i as, ρ, Q => getP ρ i fun d0 => isLs d0 (wpC as ρ fun ds ρ2 => getP ρ2 i fun d => ∃ d' r, popO d ds = some (d', r) ∧ Q r (ρ2.set i (some d')))
  | .dnew t, ρ, Q => brB t (Q (.dit true []) ρ) (Q (.dic true []) ρ)
  | .dupd i e, ρ, Q => getP ρ i fun d0 => isDT d0 (wpE e ρ fun d ρ1 => cnd (shares e) d (getP ρ1 i fun x => ∃ x', dupO x d = some x' ∧ Q .non (ρ1.set i (some x'))))
  | .dget2 i as, ρ, Q => getP ρ i fun d0 => isDs d0 (wpC as ρ fun ds ρ2 => getP ρ2 i fun d => WO (dget2O d ds) fun r => Q r ρ2)
  | .fld C i f, ρ, Q => getP ρ i fun d => fldP C f d fun x => Q x ρ
  | .meth C m g i as, ρ, Q => getP ρ i fun d0 => noM C m d0 (wpA as ρ fun rs ρ1 => fetchP (.lnt i :: rs) ρ1 fun ds ρ2 => ∃ d outs, call g ds = .ok d outs ∧ Q d (back (.lnt i :: rs) outs ρ2))
  | .new C g as, ρ, Q => wpA as ρ fun rs ρ1 => fetchP rs ρ1 fun ds ρ2 => ∃ d outs, call g (.ins C [] :: ds) = .ok .non (some d :: outs) ∧ Q d (back rs outs ρ2)
  | .recv C m g e as, ρ, Q => nsh (shares e) (wpE e ρ fun d ρ1 => noM C m d (wpA as ρ1 fun rs ρ2 => fetchP rs ρ2 fun ds ρ3 => ∃ r o outs, call g (d :: ds) = .ok r (o :: outs) ∧ Q r (back rs outs ρ3)))
  | .dupdT i e, ρ, Q => getP ρ i fun d0 => isTT d0 (wpE e ρ fun d ρ1 => cnd (shares e) d (getP ρ1 i fun x => ∃ x', dupTO x d = some x' ∧ Q .non (ρ1.set i (some x'))))
  | e, ρ, Q => Stop (WR (ev call e ρ) Q)
def wpR : List E → Env' → (List D → Env' → Prop) → Prop
  | [], ρ, Q => Q [] ρ
  | e :: es, ρ, Q => match varOf e with
    | some i => getP ρ i fun _ => wpR es ρ fun ds ρ2 => getP ρ2 i fun d => Q (d :: ds) ρ2
    | none => wpE e ρ fun d ρ1 => wpR es ρ1 fun ds ρ2 => cnd (nshares e es) d (Q (d :: ds) ρ2)
def wpC : List E → Env' → (List D → Env' → Prop) → Prop
  | [], ρ, Q => Q [] ρ
  | e :: es, ρ, Q => wpE e ρ fun d ρ1 => wpC es ρ1 fun ds ρ2 => cnd (shares e) d (Q (d :: ds) ρ2)
def wpA : List E → Env' → (List Ar → Env' → Prop) → Prop
  | [], ρ, Q => Q [] ρ
  | e :: es, ρ, Q => match lendOf e with
    | some i => getP ρ i fun _ => wpA es ρ fun ds ρ2 => Q (.lnt i :: ds) ρ2
    | none => wpE e ρ fun d ρ1 => wpA es ρ1 fun ds ρ2 => cnd (shares e) d (Q (.val d :: ds) ρ2)
end
end
section
variable {call : CallT}
theorem few_lim {es : List E} {ds : List D} {ρ ρ' : Env'} (h : evC call es ρ = .ok ds ρ') (hl : es.length ≤ 50) : ds.length ≤ lim := by
  rw [evC_len h]
  unfold lim; omega
mutual
theorem wpE_ok : ∀ (e : E) {ρ : Env'} {Q : D → Env' → Prop}, wpE call e ρ Q → WR (ev call e ρ) Q
  | .var i, ρ, Q, h => by
    obtain ⟨d, h1, h2⟩ := getP_ok h
    exact W_var h1 h2
  | .use i, ρ, Q, h => by
    obtain ⟨d, h1, h2⟩ := getP_ok h
    obtain ⟨h3, h4⟩ := useP_ok h2
    exact W_useC h1 h3 h4
  | .take i, ρ, Q, h => by
    obtain ⟨d, h1, h2⟩ := getP_ok h
    exact W_take h1 h2
  | .cst d, ρ, Q, h => W_cst h
  | .glob _ d, ρ, Q, h => W_glob h
  | .op o es, ρ, Q, h => W_op ((wpR_ok es h).imp fun _ _ h => wOp_ok h)
  | .and a b, ρ, Q, h => W_and ((wpE_ok a h).imp fun x ρ1 h => by
      obtain ⟨t, rfl, h⟩ := blP_ok h
      obtain ⟨h1, h2⟩ := brB_to h
      exact ⟨t, rfl, fun z => (wpE_ok b (h1 z)).imp fun y ρ2 h => blP_ok h, h2⟩)
  | .or a b, ρ, Q, h => W_or ((wpE_ok a h).imp fun x ρ1 h => by
      obtain ⟨t, rfl, h⟩ := blP_ok h
      obtain ⟨h1, h2⟩ := brF_to h
      exact ⟨t, rfl, fun z => (wpE_ok b (h1 z)).imp fun y ρ2 h => blP_ok h, h2⟩)
  | .not a, ρ, Q, h => W_not ((wpE_ok a h).imp fun x ρ1 h => blP_ok h)
  | .ifx c a b, ρ, Q, h => W_ifx ((wpE_ok c h).imp fun x ρ1 h => by
      obtain ⟨t, ht, h⟩ := truP_ok h
      obtain ⟨h1, h2⟩ := brB_to h
      exact ⟨t, ht, fun z => (wpE_ok a (h1 z)).imp fun y ρ2 h => cnd_ok h, fun z => (wpE_ok b (h2 z)).imp fun y ρ2 h => cnd_ok h⟩)
  | .tup es, ρ, Q, h => by
    obtain ⟨⟨ds, ρ', e, h⟩⟩ := wpC_ok es h
    obtain ⟨h1, h2⟩ := fewP_ok h
    obtain ⟨h3, h4⟩ := purP_ok h2
    exact W_tup ⟨⟨ds, ρ', e, by rw [h3, decide_eq_true (few_lim e h1)]; rfl, h4⟩⟩
  | .lst es, ρ, Q, h => by
    obtain ⟨⟨ds, ρ', e, h⟩⟩ := wpC_ok es h
    obtain ⟨h1, h2⟩ := fewP_ok h
    exact W_lst ⟨⟨ds, ρ', e, few_lim e h1, h2⟩⟩
  | .call f as, ρ, Q, h => W_call ((wpA_ok as h).imp fun rs ρ1 h => fetchP_ok h)
  | .kind (.call f as), ρ, Q, h => W_kindC ((wpA_ok as h).imp fun rs ρ1 h => fetchP_ok h)
  | .kind (.var _), ρ, Q, h => h.out
  | .kind (.use _), ρ, Q, h => h.out
  | .kind (.take _), ρ, Q, h => h.out
  | .kind (.lend _), ρ, Q, h => h.out
  | .kind (.cst _), ρ, Q, h => h.out
  | .kind (.glob _ _), ρ, Q, h => h.out
  | .kind (.op _ _), ρ, Q, h => h.out
  | .kind (.chain _ _ _ _ _), ρ, Q, h => h.out
  | .kind (.chain3 _ _ _ _ _ _ _), ρ, Q, h => h.out
  | .kind (.not _), ρ, Q, h => h.out
  | .kind (.ifx _ _ _), ρ, Q, h => h.out
  | .kind (.tup _), ρ, Q, h => h.out
  | .kind (.lst _), ρ, Q, h => h.out
  | .kind (.mut _ _ _ _), ρ, Q, h => h.out
  | .kind (.lc _ _ _ _ _ _), ρ, Q, h => h.out
  | .kind (.idx _ _), ρ, Q, h => h.out
  | .kind (.cnt _ _), ρ, Q, h => h.out
  | .kind (.pop _ _), ρ, Q, h => h.out
  | .kind (.dnew _), ρ, Q, h => h.out
  | .kind (.disp _ _), ρ, Q, h => h.out
  | .kind (.lcK _ _ _ _ _), ρ, Q, h => h.out
  | .kind (.lcO _ _ _ _ _), ρ, Q, h => h.out
  | .kind (.dupd _ _), ρ, Q, h => h.out
  | .kind (.dget2 _ _), ρ, Q, h => h.out
  | .kind (.sortK _ _ _), ρ, Q, h => h.out
  | .kind (.fz _), ρ, Q, h => h.out
  | .kind (.lcE _ _ _ _ _), ρ, Q, h => h.out
  | .kind (.kind _), ρ, Q, h => h.out
  | .kind (.and _ _), ρ, Q, h => h.out
  | .kind (.or _ _), ρ, Q, h => h.out
  | .kind (.fld _ _ _), ρ, Q, h => h.out
  | .kind (.new _ _ _), ρ, Q, h => h.out
  | .kind (.meth _ _ _ _ _), ρ, Q, h => h.out
  | .kind (.recv _ _ _ _ _), ρ, Q, h => h.out
  | .kind (.dc _ _ _ _ _ _ _), ρ, Q, h => h.out
  | .kind (.dc2 _ _ _ _ _ _ _ _ _ _), ρ, Q, h => h.out
  | .kind (.dsapp _ _ _), ρ, Q, h => h.out
  | .kind (.dupdT _ _), ρ, Q, h => h.out
  | .kind (.sortD _ _ _), ρ, Q, h => h.out
  | .kind (.fat _ _ _ _), ρ, Q, h => h.out
  | .kind (.fapp _ _ _ _), ρ, Q, h => h.out
  | .kind (.fpop _ _ _ _ _), ρ, Q, h => h.out
  | .mut o i [] as, ρ, Q, h => by
    obtain ⟨d, h1, h2⟩ := getP_ok h
    obtain ⟨⟨xs, rfl⟩, h3⟩ := isLT_ok h2
    exact W_mut0 h1 ((wpC_ok as h3).imp fun ds ρ2 h => getP_ok h)
  | .mut o i (_ :: _) as, ρ, Q, h => h.out
  | .idx i as, ρ, Q, h => by
    obtain ⟨d, h1, h2⟩ := getP_ok h
    obtain ⟨⟨m, xs, rfl⟩, h3⟩ := isLs_ok h2
    exact W_idx h1 ((wpC_ok as h3).imp fun ds ρ2 h => getP_ok h)
  | .cnt i as, ρ, Q, h => by
    obtain ⟨d, h1, h2⟩ := getP_ok h
    obtain ⟨⟨m, xs, rfl⟩, h3⟩ := isLs_ok h2
    exact W_cnt h1 ((wpC_ok as h3).imp fun ds ρ2 h => getP_ok h)
  | .pop i as, ρ, Q, h => by
    obtain ⟨d, h1, h2⟩ := getP_ok h
    obtain ⟨⟨m, xs, rfl⟩, h3⟩ := isLs_ok h2
    exact W_pop h1 ((wpC_ok as h3).imp fun ds ρ2 h => getP_ok h)
  | .dnew t, ρ, Q, h => by
    refine W_dnew ?_
    cases t with
    | true => exact h
    | false => exact h
  | .dupd i e, ρ, Q, h => by
    obtain ⟨d, h1, h2⟩ := getP_ok h
    obtain ⟨⟨kvs, rfl⟩, h3⟩ := isDT_ok h2
    exact W_dupd h1 ((wpE_ok e h3).imp fun d ρ1 h => by
      obtain ⟨c, h⟩ := cnd_ok h
      exact ⟨c, getP_ok h⟩)
  | .dget2 i as, ρ, Q, h => by
    obtain ⟨d, h1, h2⟩ := getP_ok h
    obtain ⟨h2, h3⟩ := isDs_ok h2
    exact W_dget2 h1 h2 ((wpC_ok as h3).imp fun ds ρ2 h => getP_ok h)
  | .lend i, ρ, Q, h => h.out
  | .chain o1 o2 a b c, ρ, Q, h => W_chain ((wpE_ok a h).imp fun x ρ1 h => (wpE_ok b h).imp fun y ρ2 h => by
      obtain ⟨p1, h⟩ := pur1_ok h
      obtain ⟨p2, h⟩ := pur1_ok h
      obtain ⟨t, ht, h⟩ := cmpP_ok h
      obtain ⟨h1, h2⟩ := brB_to h
      refine ⟨by rw [p1, p2]; rfl, t, ht, fun z => (wpE_ok c (h1 z)).imp fun z ρ3 h => ?_, h2⟩
      obtain ⟨p3, h⟩ := pur1_ok h
      obtain ⟨u, hu, h⟩ := cmpP_ok h
      exact ⟨p3, .bl u, by simp only [cmpO, hu, Option.map_some], h⟩)
  | .chain3 o1 o2 o3 a b c d, ρ, Q, h => h.out
  | .lc el t k es cs own, ρ, Q, h => h.out
  | .disp ks vs, ρ, Q, h => h.out
  | .lcK i el t cs own, ρ, Q, h => h.out
  | .lcO i el t cs own, ρ, Q, h => h.out
  | .lcE i el t cs own, ρ, Q, h => h.out
  | .sortK n j ks, ρ, Q, h => h.out
  | .dc _ _ _ _ _ _ _, ρ, Q, h => h.out
  | .dc2 _ _ _ _ _ _ _ _ _ _, ρ, Q, h => h.out
  | .dsapp _ _ _, ρ, Q, h => h.out
  | .sortD _ _ _, ρ, Q, h => h.out
  | .fat _ _ _ _, ρ, Q, h => h.out
  | .fapp _ _ _ _, ρ, Q, h => h.out
  | .fpop _ _ _ _ _, ρ, Q, h => h.out
  | .fld C i f, ρ, Q, h => by
    obtain ⟨d, h1, h2⟩ := getP_ok h
    exact W_fld h1 h2
  | .meth C m g i as, ρ, Q, h => by
    obtain ⟨d, h1, h2⟩ := getP_ok h
    refine W_meth h1 ?_
    unfold noM at h2 ⊢
    split at h2
    · exact ⟨h2.1, (wpA_ok as h2.2).imp fun rs ρ1 h => fetchP_ok h⟩
    · exact h2.elim
  | .new C g as, ρ, Q, h => W_new ((wpA_ok as h).imp fun rs ρ1 h => fetchP_ok h)
  | .recv C m g e as, ρ, Q, h => by
    obtain ⟨hs, h⟩ := nsh_ok h
    refine W_recv hs ((wpE_ok e h).imp fun d ρ1 h2 => ?_)
    unfold noM at h2 ⊢
    split at h2
    · exact ⟨h2.1, (wpA_ok as h2.2).imp fun rs ρ1 h => fetchP_ok h⟩
    · exact h2.elim
  | .dupdT i e, ρ, Q, h => by
    obtain ⟨d, h1, h2⟩ := getP_ok h
    obtain ⟨⟨kvs, rfl⟩, h3⟩ := isTT_ok h2
    exact W_dupdT h1 ((wpE_ok e h3).imp fun d ρ1 h => by
      obtain ⟨c, h⟩ := cnd_ok h
      exact ⟨c, getP_ok h⟩)
  | .fz e, ρ, Q, h => W_fz ((wpE_ok e (nsh_ok h).2).imp fun d ρ1 q => by
      obtain ⟨h1, h2⟩ := fzP_ok q
      exact ⟨by rw [h1, (nsh_ok h).1]; rfl, h2⟩)
theorem wpR_ok : ∀ (es : List E) {ρ : Env'} {Q : List D → Env' → Prop}, wpR call es ρ Q → WR (evR call es ρ) Q
  | [], ρ, Q, h => W_rnil h
  | e :: es, ρ, Q, h => by
    unfold wpR at h
    cases hv : varOf e with
    | some i =>
      rw [hv] at h
      rw [varOf_some hv]
      obtain ⟨d0, h0, h⟩ := getP_ok h
      exact W_rvar h0 ((wpR_ok es h).imp fun ds ρ2 h => getP_ok h)
    | none =>
      rw [hv] at h
      refine W_rcons hv ((wpE_ok e h).imp fun d ρ1 h => (wpR_ok es h).imp fun ds ρ2 h => ?_)
      obtain ⟨c, h⟩ := cnd_ok h
      refine ⟨?_, h⟩
      unfold nshares at c
      cases hs : shares e with
      | false => rfl
      | true =>
        rw [hs] at c
        cases hq : quietL es with
        | true => simp
        | false => rw [hq] at c; simpa using c
theorem wpC_ok : ∀ (es : List E) {ρ : Env'} {Q : List D → Env' → Prop}, wpC call es ρ Q → WR (evC call es ρ) Q
  | [], ρ, Q, h => W_cnil h
  | e :: es, ρ, Q, h => W_ccons ((wpE_ok e h).imp fun d ρ1 h => (wpC_ok es h).imp fun ds ρ2 h => cnd_ok h)
theorem wpA_ok : ∀ (es : List E) {ρ : Env'} {Q : List Ar → Env' → Prop}, wpA call es ρ Q → WR (evA call es ρ) Q
  | [], ρ, Q, h => W_anil h
  | e :: es, ρ, Q, h => by
    unfold wpA at h
    cases hv : lendOf e with
    | some i =>
      rw [hv] at h
      have : e = .lend i := by cases e <;> simp [lendOf] at hv; rw [hv]
      subst this
      obtain ⟨d0, h0, h⟩ := getP_ok h
      exact W_alend h0 (wpA_ok es h)
    | none =>
      rw [hv] at h
      exact W_acons hv ((wpE_ok e h).imp fun d ρ1 h => (wpA_ok es h).imp fun ds ρ2 h => cnd_ok h)
end
end
def wpK (call : CallT) : List E → Env' → (List D → Env' → Prop) → Prop
  | [], ρ, K => K [] ρ
  | e :: es, ρ, K => wpE call (.kind e) ρ fun d ρ1 => wpK call es ρ1 fun ds ρ2 => K (d :: ds) ρ2
theorem wpK_ok {call : CallT} : ∀ (es : List E) {ρ : Env'} {K : List D → Env' → Prop}, wpK call es ρ K → WR (evK call es ρ) K
  | [], ρ, K, h => W_knil h
  | e :: es, ρ, K, h => W_kcons ((wpE_ok (.kind e) h).imp fun d ρ1 h => wpK_ok es h)
theorem X_wkr {call : CallT} {i : Nat} {es : List E} {ρ : Env'} {k : KS} (q : WR (evK call es (ρ.set i none)) fun ds ρ1 => k.rt (.lst true ds) ρ1) : WX (ex call (.wkr i es) ρ) k := by
  obtain ⟨ds, ρ1, e, q⟩ := q
  refine ⟨?_⟩
  simp only [ex, e, R.sbind]
  exact q
def wpS (call : CallT) : S → Env' → KS → Prop
  | .asg t e, ρ, k => wpE call e ρ fun d ρ1 => cnd (shares e) d (tgP t d ρ1 k.nx)
  | .multi is es, ρ, k => wpC call es ρ fun ds ρ1 => pAll is ds ρ1 k.nx
  | .aug i o e, ρ, k => getP ρ i fun _ => wpE call e ρ fun d ρ1 => getP ρ1 i fun x => flat2P x (binP o x d fun y => k.nx (ρ1.set i (some y)))
  | .expr e, ρ, k => wpE call e ρ fun _ ρ1 => k.nx ρ1
  | .dstore i kx e, ρ, k => wpE call e ρ fun d ρ1 => pur1 d (getP ρ1 i fun _ => wpE call kx ρ1 fun kd ρ2 => getP ρ2 i fun x => ∃ x', dput x kd d = some x' ∧ k.nx (ρ2.set i (some x')))
  | .ifs c a b, ρ, k => wpE call c ρ fun d ρ1 => truP d fun t => brB t (WX (exs call a ρ1) k) (WX (exs call b ρ1) k)
  | .ret e, ρ, k => wpE call e ρ fun d ρ1 => cnd (shares e) d (k.rt d ρ1)
  | .retN, ρ, k => k.rt .non ρ
  | .pass, ρ, k => k.nx ρ
  | .brk, ρ, k => k.bk ρ
  | .cont, ρ, k => k.ct ρ
  | .frz i, ρ, k => getP ρ i fun d => useP d fun d' => k.nx (ρ.set i (some d'))
  | .store i [] ix e, ρ, k => wpE call e ρ fun d ρ1 => cnd (shares e) d (getP ρ1 i fun x => isLT x (quiet ix = true ∧ wpE call ix ρ1 fun kk ρ3 => isIn kk fun j => ∃ x' r, setO j d x = some (x', r) ∧ k.nx (ρ3.set i (some x'))))
  | .raise C ks es, ρ, k => wpC call es ρ fun ds ρ1 => pureL ds = true ∧ ks.length = ds.length ∧ k.er (C, (ks.zip ds).reverse) ρ1
  | .wks i ret op es rhs, ρ, k => wpK call es (ρ.set i none) fun ds ρ1 => wpE call rhs ρ1 fun r ρ2 => WO (opD (.cmp op) [.lst true ds, r]) fun d => blP d fun b => brB ret (k.rt (.bl b) ρ2) (brB b (k.rt (.bl false) ρ2) (k.nx ρ2))
  | .fput C i f e, ρ, k => wpE call e ρ fun d ρ1 => cnd (shares e) d (getP ρ1 i fun x => fputP C f d x fun x' => k.nx (ρ1.set i (some x')))
  | .wkr i es, ρ, k => wpK call es (ρ.set i none) fun ds ρ1 => k.rt (.lst true ds) ρ1
  | s, ρ, k => WX (ex call s ρ) k
theorem wpS_ok {call : CallT} : ∀ (s : S) {ρ : Env'} {k : KS}, wpS call s ρ k → WX (ex call s ρ) k
  | .asg t e, ρ, k, h => X_asg ((wpE_ok e h).imp fun d ρ1 h => by
      obtain ⟨c, h⟩ := cnd_ok h
      exact ⟨c, tgP_ok t h⟩)
  | .multi is es, ρ, k, h => X_multi ((wpC_ok es h).imp fun ds ρ1 h => pAll_ok h)
  | .aug i o e, ρ, k, h => by
    obtain ⟨d, h1, h2⟩ := getP_ok h
    exact X_aug h1 ((wpE_ok e h2).imp fun d ρ1 h => by
      obtain ⟨x, h1, h⟩ := getP_ok h
      obtain ⟨h2, h⟩ := flat2P_ok h
      exact ⟨x, h1, h2, binP_ok h⟩)
  | .expr e, ρ, k, h => X_expr (wpE_ok e h)
  | .raise C ks es, ρ, k, h => X_raise (wpC_ok es h)
  | .wks i ret op es rhs, ρ, k, h => X_wks ((wpK_ok es h).imp fun ds ρ1 h => (wpE_ok rhs h).imp fun r ρ2 h => by
      obtain ⟨⟨d, e, h⟩⟩ := h
      obtain ⟨b, hb, h⟩ := blP_ok h
      exact ⟨⟨d, e, b, hb, (brB_to h).1, fun z => brB_to ((brB_to h).2 z)⟩⟩)
  | .dstore i kx e, ρ, k, h => X_dstore ((wpE_ok e h).imp fun d ρ1 h => by
      obtain ⟨c, h⟩ := pur1_ok h
      obtain ⟨x0, h0, h⟩ := getP_ok h
      exact ⟨c, ⟨x0, h0⟩, (wpE_ok kx h).imp fun kd ρ2 h => getP_ok h⟩)
  | .ifs c a b, ρ, k, h => X_ifs ((wpE_ok c h).imp fun d ρ1 h => by
      obtain ⟨t, ht, h⟩ := truP_ok h
      exact ⟨t, ht, brB_to h⟩)
  | .ret e, ρ, k, h => X_ret ((wpE_ok e h).imp fun d ρ1 h => cnd_ok h)
  | .retN, ρ, k, h => ⟨by simp only [ex, WXd]; exact h⟩
  | .pass, ρ, k, h => ⟨by simp only [ex, WXd]; exact h⟩
  | .brk, ρ, k, h => ⟨by simp only [ex, WXd]; exact h⟩
  | .cont, ρ, k, h => ⟨by simp only [ex, WXd]; exact h⟩
  | .frz i, ρ, k, h => by
    obtain ⟨d, h1, h2⟩ := getP_ok h
    obtain ⟨h3, h4⟩ := useP_ok h2
    refine ⟨?_⟩
    simp only [ex, h1, h3, if_true]
    exact h4
  | .store i [] ix e, ρ, k, h => X_store ((wpE_ok e h).imp fun d ρ1 h => by
      obtain ⟨c, h⟩ := cnd_ok h
      obtain ⟨x, h1, h⟩ := getP_ok h
      obtain ⟨⟨xs, rfl⟩, hq, h⟩ := isLT_ok h
      refine ⟨_, h1, by rw [c, hq]; rfl, W_rnil ⟨[], rfl, rfl, (wpE_ok ix h).imp fun kk ρ3 h => ?_⟩⟩
      obtain ⟨j, rfl, h⟩ := isIn_ok h
      exact ⟨j, rfl, h⟩)
  | .store i (_ :: _) ix e, ρ, k, h => h
  | .whl n c b, ρ, k, h => h
  | .fors t kk es b, ρ, k, h => h
  | .forO x o b, ρ, k, h => h
  | .bad, ρ, k, h => h
  | .fput C i f e, ρ, k, h => X_fput ((wpE_ok e h).imp fun d ρ1 h => by
      obtain ⟨c, h⟩ := cnd_ok h
      exact ⟨c, getP_ok h⟩)
  | .faug _ _ _ _ _, ρ, k, h => h
  | .wkr i es, ρ, k, h => X_wkr (wpK_ok es h)
  | .wkc _ _ _ _ _ _ _, ρ, k, h => h
  | .fdst _ _ _ _ _ _, ρ, k, h => h
  | .view _ _ _ _, ρ, k, h => h
theorem X_step {call : CallT} {s : S} {r : List S} {ρ : Env'} {k : KS} (q : wpS call s ρ { k with nx := fun ρ' => WX (exs call r ρ') k }) : WX (exs call (s :: r) ρ) k := X_cons (wpS_ok s q)
theorem W_step {call : CallT} {e : E} {ρ : Env'} {Q : D → Env' → Prop} (q : wpE call e ρ Q) : WR (ev call e ρ) Q := wpE_ok e q
theorem W_stepR {call : CallT} {e : List E} {ρ : Env'} {Q : List D → Env' → Prop} (q : wpR call e ρ Q) : WR (evR call e ρ) Q := wpR_ok e q
theorem W_stepC {call : CallT} {e : List E} {ρ : Env'} {Q : List D → Env' → Prop} (q : wpC call e ρ Q) : WR (evC call e ρ) Q := wpC_ok e q
theorem W_stepA {call : CallT} {e : List E} {ρ : Env'} {Q : List Ar → Env' → Prop} (q : wpA call e ρ Q) : WR (evA call e ρ) Q := wpA_ok e q
/-! rules that hold by themselves -/
theorem band_t (b : Bool) : (true && b) = b := rfl
theorem band_f (b : Bool) : (false && b) = false := rfl
theorem bor_t (b : Bool) : (true || b) = true := rfl
theorem bor_f (b : Bool) : (false || b) = b := rfl
theorem bnot_t : (!true) = false := rfl
theorem bnot_f : (!false) = true := rfl
theorem tgP_s {i : Nat} {d : D} {ρ : Env'} {K : Env' → Prop} : tgP (.slot i) d ρ K = inR ρ i (K (ρ.set i (some d))) := rfl
theorem tgP_t {ts : List T} {xs : List D} {ρ : Env'} {K : Env' → Prop} : tgP (.tup ts) (.tup xs) ρ K = tgPs ts xs ρ K := rfl
theorem tgP_l {ts : List T} {m : Bool} {xs : List D} {ρ : Env'} {K : Env' → Prop} : tgP (.tup ts) (.lst m xs) ρ K = tgPs ts xs ρ K := rfl
theorem tgPs_n {ρ : Env'} {K : Env' → Prop} : tgPs [] [] ρ K = K ρ := rfl
theorem tgPs_c {t : T} {ts : List T} {x : D} {xs : List D} {ρ : Env'} {K : Env' → Prop} : tgPs (t :: ts) (x :: xs) ρ K = tgP t x ρ fun ρ' => tgPs ts xs ρ' K := rfl
theorem tgP_m {ts : List T} {m : Mk} {ρ : Env'} {K : Env' → Prop} : tgP (.tup ts) m.d ρ K = tgPs ts [.str m.hand, .str m.layer, .int (m.first : Int), .int (m.past : Int), .str m.word] ρ K := rfl
theorem tgP_cut {ts : List T} {a k : Nat} {ρ : Env'} {K : Env' → Prop} : tgP (.tup ts) (Ed.d (.cut a k)) ρ K = tgPs ts [.str [99, 117, 116], .int (a : Int), .int (k : Int)] ρ K := rfl
theorem tgP_put {ts : List T} {a : Nat} {w : List Nat} {ρ : Env'} {K : Env' → Prop} : tgP (.tup ts) (Ed.d (.put a w)) ρ K = tgPs ts [.str [112, 117, 116], .int (a : Int), .str w] ρ K := rfl
theorem brB_t {A B : Prop} : brB true A B = A := rfl
theorem brB_f {A B : Prop} : brB false A B = B := rfl
theorem brF_t {A B : Prop} : brF true A B = B := rfl
theorem brF_f {A B : Prop} : brF false A B = A := rfl
theorem truP_bl {K : Bool → Prop} {b : Bool} : truP (.bl b) K = K b := rfl
theorem truP_non {K : Bool → Prop} : truP .non K = K false := rfl
theorem truP_int {K : Bool → Prop} {i : Int} : truP (.int i) K = K (i != 0) := rfl
theorem truP_str {K : Bool → Prop} {s : List Nat} : truP (.str s) K = (s.length ≤ lim ∧ K (s.length != 0)) := rfl
theorem truP_lst {K : Bool → Prop} {m : Bool} {xs : List D} : truP (.lst m xs) K = K (!xs.isEmpty) := rfl
theorem truP_tup {K : Bool → Prop} {xs : List D} : truP (.tup xs) K = K (!xs.isEmpty) := rfl
theorem blP_bl {K : Bool → Prop} {b : Bool} : blP (.bl b) K = K b := rfl
theorem isLT_l {P : Prop} {xs : List D} : isLT (.lst true xs) P = P := rfl
theorem isLs_l {P : Prop} {m : Bool} {xs : List D} : isLs (.lst m xs) P = P := rfl
theorem isDT_d {P : Prop} {xs : List (Key × D)} : isDT (.dic true xs) P = P := rfl
theorem isDs_d {P : Prop} {m : Bool} {xs : List (Key × D)} : isDs (.dic m xs) P = P := rfl
theorem isDs_t {P : Prop} {m : Bool} {xs : List (List Key × D)} : isDs (.dit m xs) P = P := rfl
theorem isIn_i {K : Int → Prop} {i : Int} : isIn (.int i) K = K i := rfl
theorem flat2P_i {P : Prop} {i : Int} : flat2P (.int i) P = P := rfl
theorem flat2P_s {P : Prop} {i : List Nat} : flat2P (.str i) P = P := rfl
theorem useP_non {K : D → Prop} : useP .non K = K .non := rfl
theorem useP_bl {K : D → Prop} {b : Bool} : useP (.bl b) K = K (.bl b) := rfl
theorem useP_int {K : D → Prop} {b : Int} : useP (.int b) K = K (.int b) := rfl
theorem useP_str {K : D → Prop} {b : List Nat} : useP (.str b) K = K (.str b) := rfl
theorem useP_scr {K : D → Prop} {b : List Int} : useP (.scr b) K = K (.scr b) := rfl
theorem pur1_non {P : Prop} : pur1 .non P = P := rfl
theorem pur1_bl {P : Prop} {b : Bool} : pur1 (.bl b) P = P := rfl
theorem pur1_int {P : Prop} {b : Int} : pur1 (.int b) P = P := rfl
theorem pur1_str {P : Prop} {b : List Nat} : pur1 (.str b) P = P := rfl
theorem cnd_f {P : Prop} {d : D} : cnd false d P = P := rfl
theorem cnd_t {P : Prop} {d : D} : cnd true d P = pur1 d P := rfl
theorem OP_addI {K : D → Prop} {a b : Int} (q : K (.int (a + b))) : OP (.bin .Add) [.int a, .int b] K := ⟨⟨_, rfl, q⟩⟩
theorem OP_subI {K : D → Prop} {a b : Int} (q : K (.int (a - b))) : OP (.bin .Sub) [.int a, .int b] K := ⟨⟨_, rfl, q⟩⟩
theorem OP_neg {K : D → Prop} {a : Int} (q : K (.int (-a))) : OP .neg [.int a] K := ⟨⟨_, rfl, q⟩⟩
theorem OP_lt {K : D → Prop} {a b : Int} (q : K (.bl (decide (a < b)))) : OP (.cmp .Lt) [.int a, .int b] K := ⟨⟨_, rfl, q⟩⟩
theorem OP_le {K : D → Prop} {a b : Int} (q : K (.bl (decide (a ≤ b)))) : OP (.cmp .LtE) [.int a, .int b] K := ⟨⟨_, rfl, q⟩⟩
theorem OP_gt {K : D → Prop} {a b : Int} (q : K (.bl (decide (b < a)))) : OP (.cmp .Gt) [.int a, .int b] K := ⟨⟨_, rfl, q⟩⟩
theorem OP_ge {K : D → Prop} {a b : Int} (q : K (.bl (decide (b ≤ a)))) : OP (.cmp .GtE) [.int a, .int b] K := ⟨⟨_, rfl, q⟩⟩
theorem OP_eqI {K : D → Prop} {a b : Int} (q : K (.bl (a == b))) : OP (.cmp .Eq) [.int a, .int b] K := ⟨⟨_, rfl, q⟩⟩
theorem OP_neI {K : D → Prop} {a b : Int} (q : K (.bl (!(a == b)))) : OP (.cmp .NotEq) [.int a, .int b] K := ⟨⟨_, rfl, q⟩⟩
theorem OP_eqS {K : D → Prop} {a b : List Nat} (q : K (.bl (decide (a = b)))) : OP (.cmp .Eq) [.str a, .str b] K := ⟨⟨_, rfl, q⟩⟩
theorem OP_neS {K : D → Prop} {a b : List Nat} (q : K (.bl (!decide (a = b)))) : OP (.cmp .NotEq) [.str a, .str b] K := ⟨⟨_, rfl, q⟩⟩
theorem OP_isN {K : D → Prop} {d : D} (q : K (.bl (isNon d))) : OP (.cmp .Is) [d, .non] K := ⟨⟨_, rfl, q⟩⟩
theorem OP_notN {K : D → Prop} {d : D} (q : K (.bl (!isNon d))) : OP (.cmp .IsNot) [d, .non] K := ⟨⟨_, rfl, q⟩⟩
theorem OP_lenL {K : D → Prop} {m : Bool} {xs : List D} (q : K (.int xs.length)) : OP (.fn .len) [.lst m xs] K := ⟨⟨_, rfl, q⟩⟩
theorem OP_lenT {K : D → Prop} {xs : List D} (q : K (.int xs.length)) : OP (.fn .len) [.tup xs] K := ⟨⟨_, rfl, q⟩⟩
theorem OP_max2 {K : D → Prop} {a b : Int} (q : K (.int (if b > a then b else a))) : OP (.fn .max) [.int a, .int b] K := ⟨⟨_, rfl, q⟩⟩
theorem OP_min2 {K : D → Prop} {a b : Int} (q : K (.int (if b < a then b else a))) : OP (.fn .min) [.int a, .int b] K := ⟨⟨_, rfl, q⟩⟩
theorem binP_addI {K : D → Prop} {a b : Int} (q : K (.int (a + b))) : binP .Add (.int a) (.int b) K := ⟨⟨_, rfl, q⟩⟩
theorem binP_subI {K : D → Prop} {a b : Int} (q : K (.int (a - b))) : binP .Sub (.int a) (.int b) K := ⟨⟨_, rfl, q⟩⟩
theorem cmpP_lt {K : Bool → Prop} {a b : Int} (q : K (decide (a < b))) : cmpP .Lt (.int a) (.int b) K := ⟨_, rfl, q⟩
theorem cmpP_le {K : Bool → Prop} {a b : Int} (q : K (decide (a ≤ b))) : cmpP .LtE (.int a) (.int b) K := ⟨_, rfl, q⟩
theorem cmpP_gt {K : Bool → Prop} {a b : Int} (q : K (decide (b < a))) : cmpP .Gt (.int a) (.int b) K := ⟨_, rfl, q⟩
theorem cmpP_ge {K : Bool → Prop} {a b : Int} (q : K (decide (b ≤ a))) : cmpP .GtE (.int a) (.int b) K := ⟨_, rfl, q⟩
/-! rules with a premise -/
theorem useP_L {K : D → Prop} {m : Bool} {xs : List D} (hp : pureL xs = true) (q : K (.lst false xs)) : useP (.lst m xs) K := ⟨pureL_can hp, by rw [frzL_of_pure hp]; exact q⟩
theorem useP_T {K : D → Prop} {xs : List D} (hp : pureL xs = true) (q : K (.tup xs)) : useP (.tup xs) K := ⟨pureL_can hp, by rw [frzL_of_pure hp]; exact q⟩
theorem useP_Q {K : D → Prop} {b : Option Bool} {xs : List D} (hp : pureL xs = true) (q : K (seqL (frzB b) xs)) : useP (seqL b xs) K := by
  cases b with
  | none => exact useP_T hp q
  | some m => exact useP_L hp q
theorem useP_P {K : D → Prop} {d : D} (hp : d.pure = true) (q : K d) : useP d K := by
  have e := D.frz_of_pure hp
  cases d <;> first | exact q | skip
  · simp only [D.pure] at hp; exact useP_T hp q
  · simp only [D.pure, Bool.and_eq_true, Bool.not_eq_true'] at hp; rw [hp.1] at q; exact useP_L hp.2 q
  · exact ⟨D.can_cand (D.pure_can hp), by rw [e]; exact q⟩
  · exact ⟨D.can_cand (D.pure_can hp), by rw [e]; exact q⟩
  · exact ⟨D.can_cand (D.pure_can hp), by rw [e]; exact q⟩
theorem pur1_of {d : D} {P : Prop} (hp : d.pure = true) (q : P) : pur1 d P := by
  cases d <;> first | exact q | exact ⟨hp, q⟩
theorem O_tupP {m : Bool} {xs : List D} {Qd : D → Prop} (hp : pureL xs = true) (q : Qd (.tup xs)) : WO (opD (.fn .tuple) [.lst m xs]) Qd := ⟨_, by simp only [opD, fnO, tupleO, hp, if_true], q⟩
theorem O_listP {m : Bool} {xs : List D} {Qd : D → Prop} (hp : pureL xs = true) (q : Qd (.lst true xs)) : WO (opD (.fn .list) [.lst m xs]) Qd := ⟨_, by simp only [opD, fnO, listO, hp, if_true], q⟩
/-! guards -/
theorem gDget {ds : List D} {Q : D → Prop} (h : WO (opD .dget ds) Q) : WO (opD .dget ds) Q := h
theorem gDict {ds : List D} {Q : D → Prop} (h : WO (opD (.fn .dict) ds) Q) : WO (opD (.fn .dict) ds) Q := h
theorem OPi {o : Op} {ds : List D} {K : D → Prop} (h : OP o ds K) : OP o ds K := h
theorem gEq {α : Type} {a b : α} {P : Prop} (h : a = b ∧ P) : a = b ∧ P := h
theorem gEx {α : Type} {p : α → Prop} (h : ∃ x, p x) : ∃ x, p x := h
theorem gBr {s t u v : Bool} {A B : Prop} (h : (s = t → A) ∧ (u = v → B)) : (s = t → A) ∧ (u = v → B) := h
theorem gR {α : Type} {a b : α} (h : a = b) : a = b := h
end VI

namespace VI
open PySem L2
def sl (l : List Nat) (f p : Nat) : List Nat := (l.take p).drop f
end VI

namespace VI
open PySem L2
end VI

namespace VI
open PySem L2
theorem nat_map (l : List Nat) : nat' l = l.map fun k : Nat => D.int (k : Int) := rfl
theorem nat_app (a b : List Nat) : nat' a ++ nat' b = nat' (a ++ b) := (List.map_append).symm
theorem ON_to {m : Bool} {l : List Nat} {k : Nat} {Qd : D → Prop} (q : Qd (.lst true (nat' (l.take k)))) : WO (opD (.sl false true) [.lst m (nat' l), .int (k : Int)]) Qd :=
  O_slToL (pure_nats l) (by rw [nat_map, ← List.map_take]; exact q)
theorem ON_from {m : Bool} {l : List Nat} {k : Nat} {Qd : D → Prop} (q : Qd (.lst true (nat' (l.drop k)))) : WO (opD (.sl true false) [.lst m (nat' l), .int (k : Int)]) Qd :=
  O_slFromL (pure_nats l) (by rw [nat_map, ← List.map_drop]; exact q)
theorem ON_from2 {m : Bool} {l : List Nat} {a k : Nat} {Qd : D → Prop} (q : Qd (.lst true (nat' (l.drop (a + k))))) : WO (opD (.sl true false) [.lst m (nat' l), .int ((a : Int) + (k : Int))]) Qd := by
  rw [show ((a : Int) + (k : Int)) = ((a + k : Nat) : Int) by omega]
  exact ON_from q
theorem ON_mid2 {m : Bool} {l : List Nat} {a k : Nat} {Qd : D → Prop} (h : a + k ≤ l.length) (q : Qd (.lst true (nat' (sl l a (a + k))))) : WO (opD (.sl true true) [.lst m (nat' l), .int (a : Int), .int ((a : Int) + (k : Int))]) Qd := by
  rw [show ((a : Int) + (k : Int)) = ((a + k : Nat) : Int) by omega]
  refine ⟨_, ?_, q⟩
  simp only [opD, slO, pure_nats, if_true, cutD, sIx_nat']
  rw [nat_len]
  have e1 : min a l.length = a := by omega
  have e2 : min (a + k) l.length = a + k := by omega
  rw [e1, e2]
  unfold sl
  simp [nat_map, List.map_drop, List.map_take, List.drop_take]
theorem ON_add {m m' : Bool} {a b : List Nat} {Qd : D → Prop} (h : a.length + b.length ≤ 10000) (q : Qd (.lst true (nat' (a ++ b)))) : WO (opD (.bin .Add) [.lst m (nat' a), .lst m' (nat' b)]) Qd :=
  O_addL (pure_nats a) (pure_nats b) (by rw [nat_len, nat_len]; simp [lim]; omega) (by rw [nat_app]; exact q)
theorem ON_neE {m m' : Bool} {l : List Nat} {Qd : D → Prop} (q : Qd (.bl (!decide (l = [])))) : WO (opD (.cmp .NotEq) [.lst m (nat' l), .lst m' []]) Qd := by
  refine ⟨_, ?_, q⟩
  simp only [opD, cmpO, cmpB, eqO, okD_nat, Bool.true_and]
  rw [if_pos (show okD deep (.lst m' []) = true from rfl)]
  cases l <;> rfl
theorem gLrng {ds : List D} {Qd : D → Prop} (h : WO (opD .lrng ds) Qd) : WO (opD .lrng ds) Qd := h
theorem ON_rev {m : Bool} {l : List Nat} {Qd : D → Prop} (q : Qd (.lst true (nat' l.reverse))) : WO (opD .rev [.lst m (nat' l)]) Qd := by
  refine ⟨_, ?_, q⟩
  simp only [opD, pure_nats, if_true]
  simp [nat_map]
end VI

namespace VI
open PySem L2
end VI

namespace VI
open PySem L2
section
variable (F P : Nat → Nat)
def freeR (E : List Nat) (f : Nat) : Nat := E.findIdx fun e => decide (e ≤ f)
def putR (E : List Nat) (r p : Nat) : List Nat := if r < E.length then E.set r p else E ++ [p]
def rst (l : List Nat) : List Nat × List (Nat × Nat) := l.foldl (fun s i => (putR s.1 (freeR s.1 (F i)) (P i), s.2 ++ [(i, freeR s.1 (F i))])) ([], [])
abbrev rE (l : List Nat) : List Nat := (rst F P l).1
abbrev rR (l : List Nat) : List (Nat × Nat) := (rst F P l).2
theorem rst_snoc (l : List Nat) (i : Nat) : rst F P (l ++ [i]) = (putR (rE F P l) (freeR (rE F P l) (F i)) (P i), rR F P l ++ [(i, freeR (rE F P l) (F i))]) := by
  unfold rst; rw [List.foldl_append]; rfl
theorem rst_keys (l : List Nat) : (rR F P l).map (·.1) = l := by
  have : ∀ (l : List Nat) s, ((l.foldl (fun (s : List Nat × List (Nat × Nat)) i => (putR s.1 (freeR s.1 (F i)) (P i), s.2 ++ [(i, freeR s.1 (F i))])) s).2).map (·.1) = s.2.map (·.1) ++ l := by
    intro l
    induction l with
    | nil => intro s; simp
    | cons i l ih => intro s; rw [List.foldl_cons, ih]; simp
  exact (this l ([], [])).trans (by simp)
theorem mem_keys {l : List Nat} {i r : Nat} (h : (i, r) ∈ rR F P l) : i ∈ l := by
  have := List.mem_map_of_mem (f := (·.1)) h
  rwa [rst_keys] at this
theorem freeR_le (E : List Nat) (f : Nat) : freeR E f ≤ E.length := List.findIdx_le_length
theorem freeR_lt {E : List Nat} {f : Nat} {e : Nat} (h : E[freeR E f]? = some e) : e ≤ f := by
  obtain ⟨hl, he⟩ := List.getElem?_eq_some_iff.mp h
  have := List.findIdx_getElem (xs := E) (p := fun e => decide (e ≤ f)) (w := hl)
  simp only [decide_eq_true_eq] at this
  have e2 : E[freeR E f] = e := he
  unfold freeR at e2
  omega
theorem freeR_gt {E : List Nat} {f r : Nat} {e : Nat} (h : r < freeR E f) (he : E[r]? = some e) : f < e := by
  obtain ⟨hl, he⟩ := List.getElem?_eq_some_iff.mp he
  have := List.not_of_lt_findIdx (xs := E) (p := fun e => decide (e ≤ f)) h
  simp only [decide_eq_false_iff_not, Bool.not_eq_true] at this
  omega
structure RI (l : List Nat) : Prop where
  top : ∀ r, r < (rE F P l).length → ∃ i, (i, r) ∈ rR F P l ∧ (rE F P l)[r]? = some (P i)
  le : ∀ i r, (i, r) ∈ rR F P l → ∃ e, (rE F P l)[r]? = some e ∧ P i ≤ e
  dj : ∀ i j r, (i, r) ∈ rR F P l → (j, r) ∈ rR F P l → i ≠ j → P i ≤ F j ∨ P j ≤ F i
  deep : ∃ a, ∀ r, r < (rE F P l).length → ∃ i, (i, r) ∈ rR F P l ∧ F i ≤ a ∧ a < P i
theorem RI.nil : RI F P [] := ⟨fun r h => absurd h (Nat.not_lt_zero r), fun i r h => absurd (show (i, r) ∈ ([] : List (Nat × Nat)) from h) List.not_mem_nil, fun i j r h => absurd (show (i, r) ∈ ([] : List (Nat × Nat)) from h) List.not_mem_nil, 0, fun r h => absurd h (Nat.not_lt_zero r)⟩
variable {F P}
theorem RI.snoc {l : List Nat} {i : Nat} (h : RI F P l) (hF : ∀ j ∈ l, F j ≤ F i) (hP : F i < P i) (hn : i ∉ l) : RI F P (l ++ [i]) := by
  have e := rst_snoc F P l i
  have eR : rR F P (l ++ [i]) = rR F P l ++ [(i, freeR (rE F P l) (F i))] := by show (rst F P (l ++ [i])).2 = _; rw [e]
  have eE : rE F P (l ++ [i]) = putR (rE F P l) (freeR (rE F P l) (F i)) (P i) := by show (rst F P (l ++ [i])).1 = _; rw [e]
  have old : ∀ {j r}, (j, r) ∈ rR F P l → (j, r) ∈ rR F P (l ++ [i]) := fun hj => by rw [eR]; exact List.mem_append_left _ hj
  have new : (i, freeR (rE F P l) (F i)) ∈ rR F P (l ++ [i]) := by rw [eR]; simp
  have cs : ∀ {j r}, (j, r) ∈ rR F P (l ++ [i]) → (j, r) ∈ rR F P l ∨ j = i ∧ r = freeR (rE F P l) (F i) := fun {j r} hj => by
    rw [eR] at hj
    rcases List.mem_append.mp hj with q | q
    · exact .inl q
    · simp at q; exact .inr q
  have fle := freeR_le (rE F P l) (F i)
  by_cases hr : freeR (rE F P l) (F i) < (rE F P l).length
  · have eS : rE F P (l ++ [i]) = (rE F P l).set (freeR (rE F P l) (F i)) (P i) := by rw [eE]; unfold putR; rw [if_pos hr]
    have at0 : (rE F P (l ++ [i]))[freeR (rE F P l) (F i)]? = some (P i) := by rw [eS, List.getElem?_set_self hr]
    have atn : ∀ r, r ≠ freeR (rE F P l) (F i) → (rE F P (l ++ [i]))[r]? = (rE F P l)[r]? := fun r n => by rw [eS, List.getElem?_set_ne (Ne.symm n)]
    have low : ∀ j, (j, freeR (rE F P l) (F i)) ∈ rR F P l → P j ≤ F i := fun j hj => by
      obtain ⟨e, he, hle⟩ := h.le _ _ hj
      have := freeR_lt he
      omega
    have len : (rE F P (l ++ [i])).length = (rE F P l).length := by rw [eS, List.length_set]
    refine ⟨fun r hlt => ?_, fun j r hj => ?_, fun j k r hj hk hne => ?_, ?_⟩
    · by_cases hq : r = freeR (rE F P l) (F i)
      · subst hq; exact ⟨i, new, at0⟩
      · obtain ⟨j, h1, h2⟩ := h.top r (by omega)
        exact ⟨j, old h1, (atn r hq).trans h2⟩
    · rcases cs hj with q | ⟨rfl, rfl⟩
      · by_cases hq : r = freeR (rE F P l) (F i)
        · subst hq; exact ⟨_, at0, by have := low j q; omega⟩
        · obtain ⟨e, h1, h2⟩ := h.le _ _ q
          exact ⟨e, (atn r hq).trans h1, h2⟩
      · exact ⟨_, at0, Nat.le_refl _⟩
    · rcases cs hj with q | ⟨rfl, rfl⟩ <;> rcases cs hk with q' | ⟨rfl, e'⟩
      · exact h.dj j k r q q' hne
      · subst e'; exact .inl (low j q)
      · exact .inr (low k q')
      · exact absurd rfl hne
    · obtain ⟨a, ha⟩ := h.deep
      refine ⟨a, fun r hlt => ?_⟩
      obtain ⟨j, h1, h2⟩ := ha r (by omega)
      exact ⟨j, old h1, h2⟩
  · have ef : freeR (rE F P l) (F i) = (rE F P l).length := by omega
    have eS : rE F P (l ++ [i]) = rE F P l ++ [P i] := by rw [eE]; unfold putR; rw [if_neg hr]
    have len : (rE F P (l ++ [i])).length = (rE F P l).length + 1 := by rw [eS]; simp
    have atn : ∀ r, r < (rE F P l).length → (rE F P (l ++ [i]))[r]? = (rE F P l)[r]? := fun r n => by rw [eS, List.getElem?_append_left n]
    have at0 : (rE F P (l ++ [i]))[(rE F P l).length]? = some (P i) := by rw [eS]; simp
    rw [ef] at new
    refine ⟨fun r hlt => ?_, fun j r hj => ?_, fun j k r hj hk hne => ?_, F i, fun r hlt => ?_⟩
    · by_cases hq : r < (rE F P l).length
      · obtain ⟨j, h1, h2⟩ := h.top r hq
        exact ⟨j, old h1, (atn r hq).trans h2⟩
      · have : r = (rE F P l).length := by omega
        subst this; exact ⟨i, new, at0⟩
    · rcases cs hj with q | ⟨rfl, rfl⟩
      · obtain ⟨e, h1, h2⟩ := h.le _ _ q
        exact ⟨e, (atn r (List.getElem?_eq_some_iff.mp h1).1).trans h1, h2⟩
      · rw [ef]; exact ⟨_, at0, Nat.le_refl _⟩
    · have out : ∀ j, (j, freeR (rE F P l) (F i)) ∉ rR F P l := fun j q => by
        obtain ⟨e, h1, _⟩ := h.le _ _ q
        have := (List.getElem?_eq_some_iff.mp h1).1
        omega
      rcases cs hj with q | ⟨rfl, rfl⟩ <;> rcases cs hk with q' | ⟨rfl, e'⟩
      · exact h.dj j k r q q' hne
      · subst e'; exact absurd q (out j)
      · exact absurd q' (out k)
      · exact absurd rfl hne
    · by_cases hq : r < (rE F P l).length
      · obtain ⟨j, h1, h2⟩ := h.top r hq
        have := freeR_gt (f := F i) (by omega) h2
        exact ⟨j, old h1, hF j (mem_keys F P h1), this⟩
      · have : r = (rE F P l).length := by omega
        subst this; exact ⟨i, new, Nat.le_refl _, hP⟩
theorem RI.all : ∀ {l : List Nat}, l.Pairwise (fun i j => F i ≤ F j) → l.Nodup → (∀ i ∈ l, F i < P i) → ∀ k, RI F P (l.take k) := by
  intro l hp hn hP k
  induction k with
  | zero => rw [List.take_zero]; exact RI.nil F P
  | succ k ih =>
    by_cases hk : k < l.length
    · rw [List.take_succ_eq_append_getElem hk]
      have sub : ∀ j ∈ l.take k, F j ≤ F l[k] ∧ j ≠ l[k] := fun j hj => by
        obtain ⟨m, hm, rfl⟩ := List.mem_take_iff_getElem.mp hj
        have hmk : m < k := by omega
        exact ⟨List.pairwise_iff_getElem.mp hp m k (by omega) hk hmk, fun e => by have := (List.getElem_inj hn).mp e; omega⟩
      exact ih.snoc (fun j hj => (sub j hj).1) (hP _ (List.getElem_mem hk)) fun z => (sub _ z).2 rfl
    · rw [List.take_of_length_le (by omega)]
      rw [List.take_of_length_le (by omega)] at ih
      exact ih
/-! ### the row of each -/
def rowAt (R : List (Nat × Nat)) (i : Nat) : Nat := ((R.find? fun q => q.1 == i).map (·.2)).getD 0
theorem rowAt_mem {R : List (Nat × Nat)} (hn : (R.map (·.1)).Nodup) {i r : Nat} (h : (i, r) ∈ R) : rowAt R i = r := by
  unfold rowAt
  induction R with
  | nil => simp at h
  | cons q R ih =>
    rw [List.map_cons, List.nodup_cons] at hn
    rw [List.find?_cons]
    rcases List.mem_cons.mp h with rfl | h
    · simp
    · have : q.1 ≠ i := fun e => hn.1 (by rw [e]; exact List.mem_map_of_mem (f := (·.1)) h)
      have : (q.1 == i) = false := by simpa using this
      rw [this]
      exact ih hn.2 h
variable {n : Nat} {l : List Nat}
theorem RI.row {i : Nat} (h : RI F P l) (hl : l.Perm (List.range n)) (hi : i < n) : (i, rowAt (rR F P l) i) ∈ rR F P l := by
  have nd : ((rR F P l).map (·.1)).Nodup := by rw [rst_keys]; exact hl.nodup_iff.mpr List.nodup_range
  have : i ∈ (rR F P l).map (·.1) := by rw [rst_keys]; exact hl.mem_iff.mpr (List.mem_range.mpr hi)
  obtain ⟨q, hq, rfl⟩ := List.mem_map.mp this
  rw [rowAt_mem nd (r := q.2) hq]; exact hq
theorem RI.row_lt {i : Nat} (h : RI F P l) (hl : l.Perm (List.range n)) (hi : i < n) : rowAt (rR F P l) i < (rE F P l).length := by
  obtain ⟨e, he, _⟩ := h.le _ _ (h.row hl hi)
  exact (List.getElem?_eq_some_iff.mp he).1
theorem RI.none (h : RI F P l) (hl : l.Perm (List.range n)) : (rE F P l).length = 0 ↔ n = 0 := by
  constructor
  · intro hz
    by_cases hn : n = 0
    · exact hn
    · have := h.row_lt hl (i := 0) (by omega)
      omega
  · intro hn
    subst hn
    have : l = [] := by simpa using hl
    subst this; rfl
end
/-! ### the first place -/
end VI

namespace VI
open PySem L2
def tri (ms : List Mk) (i : Nat) : D := .tup [.int (spF ms i : Int), .int (spP ms i : Int), .int (i : Int)]
theorem flat_zero (k : Nat) : (List.replicate k [D.int 0]).flatten = List.replicate k (.int 0) := by
  induction k with
  | zero => rfl
  | succ k ih => rw [List.replicate_succ, List.flatten_cons, ih]; rfl
theorem O_mulZ {m : Bool} {k : Nat} {Qd : D → Prop} (h : k ≤ 1000) (q : Qd (.lst true (List.replicate k (.int 0)))) : WO (opD (.bin .Mult) [.lst m [.int 0], .int (k : Int)]) Qd := by
  refine ⟨_, ?_, q⟩
  have h2 : ((k : Int)).toNat = k := by omega
  have h1 : (pureL [D.int 0] && decide (-(2 ^ 63) ≤ (k : Int)) && decide ((k : Int) < 2 ^ 63) && decide ([D.int 0].length * k ≤ lim)) = true := by
    simp only [Bool.and_eq_true, decide_eq_true_eq]
    refine ⟨⟨⟨by simp [pureL, D.pure], by omega⟩, by omega⟩, ?_⟩
    simp [lim]; omega
  have h3 := flat_zero k
  simp only [opD, binO, mulO, h2, h3, h1, if_true]
/-! ### a dict by ints, a list of ints -/
/-! ### free rows -/
end VI

namespace VI
open PySem L2
/-! ### trees with the least holder -/
/-! ### words -/
/-! ### the first marks -/
/-! ### rows of fewer -/
end VI

namespace VI
open PySem L2
/-! ### labels -/
abbrev strD (ws : List (List Nat)) : List D := ws.map .str
theorem rep_range {α : Type} (n : Nat) (w : α) : List.replicate n w = (List.range n).map fun _ => w := by
  apply List.ext_getElem <;> simp
theorem rep_one {α : Type} (n : Nat) (w : α) : (List.replicate n [w]).flatten = List.replicate n w := by
  induction n with
  | zero => rfl
  | succ n ih => rw [List.replicate_succ, List.flatten_cons, ih, List.replicate_succ]; rfl
theorem pure_strD : ∀ ws : List (List Nat), pureL (strD ws) = true
  | [] => rfl
  | w :: r => by simp only [List.map_cons, pureL, D.pure, pure_strD r, Bool.and_self]
theorem strsO_strD : ∀ ws : List (List Nat), strsO (strD ws) = some ws
  | [] => rfl
  | w :: r => by simp only [List.map_cons, strsO, strsO_strD r]; rfl
/-! ### fractions -/
def lowI (t : Int) (u : Nat) : Int × Int := (t / ((Nat.gcd t.natAbs u : Nat) : Int), ((u / Nat.gcd t.natAbs u : Nat) : Int))
def prZ (p : Int × Int) : D := .tup [.int p.1, .int p.2]
def beyF (s d : Int × Int) : Option (Int × Int) := if d.2 - d.1 = 0 then none else some (lowI ((s.1 * d.2 - d.1 * s.2) * d.2) (s.2 * d.2 * (d.2 - d.1)).toNat)
def oZ : Option (Int × Int) → D
  | none => .non
  | some p => prZ p
/-! ### counts -/
def seenN (a b : List (List Nat)) : Nat := ((List.range a.length).filter fun k => decide (a.getD k [] = b.getD k [])).length
def hitsN (a b : List (List Nat)) : Nat := (a.map fun w => b.count w).sum
theorem sum_le {α : Type} {f : α → Nat} {c : Nat} : ∀ {l : List α}, (∀ x ∈ l, f x ≤ c) → (l.map f).sum ≤ l.length * c
  | [], _ => by simp
  | x :: l, h => by
    have h1 := h x List.mem_cons_self
    have h2 := sum_le (l := l) fun y hy => h y (List.mem_cons_of_mem _ hy)
    rw [List.map_cons, List.sum_cons, List.length_cons, Nat.add_mul]
    omega
/-! ### counting dicts -/
section
variable {P κ : Type} [DecidableEq P] [DecidableEq κ] (kf : P → κ)
end
section
variable {P : Type} [DecidableEq P]
end
theorem O_mulS {m : Bool} {k : Nat} {Qd : D → Prop} (h : k ≤ 1000) (q : Qd (.lst true (strD ((List.range k).map fun _ => [])))) : WO (opD (.bin .Mult) [.lst m [.str []], .int (k : Int)]) Qd := by
  refine ⟨_, ?_, q⟩
  have h2 : ((k : Int)).toNat = k := by omega
  have h1 : (pureL [D.str []] && decide (-(2 ^ 63) ≤ (k : Int)) && decide ((k : Int) < 2 ^ 63) && decide ([D.str []].length * k ≤ lim)) = true := by
    simp [pureL, D.pure, lim]; omega
  simp only [opD, binO, mulO, h2, h1, if_true, rep_one]
  rw [rep_range]
  unfold strD
  rw [List.map_map]
  rfl
theorem I_rngAB {i n : Nat} {P : List D → Prop} (h1 : i ≤ 1000) (h2 : n ≤ 1000) (q : P (rngO (i : Int) (n : Int))) : ∃ xs, itD .rng (frzL [.int (i : Int), .int (n : Int)]) = some xs ∧ P xs := by
  refine ⟨_, ?_, q⟩
  have e1 : frzL [D.int (i : Int), .int (n : Int)] = [D.int (i : Int), .int (n : Int)] := by simp [frzL, D.frz]
  rw [e1]
  have e2 : in62 (i : Int) = true := by
    simp only [in62, Bool.and_eq_true, decide_eq_true_eq]; omega
  have e3 : in62 (n : Int) = true := by
    simp only [in62, Bool.and_eq_true, decide_eq_true_eq]; omega
  show (if (in62 (i : Int) && in62 (n : Int)) = true then some (rngO (i : Int) (n : Int)) else none) = _
  rw [e2, e3]; rfl
theorem O_mulI {i j : Int} {Qd : D → Prop} (h : (-18446744073709551616 < i ∧ i < 18446744073709551616) ∨ (-18446744073709551616 < j ∧ j < 18446744073709551616)) (q : Qd (.int (i * j))) : WO (opD (.bin .Mult) [.int i, .int j]) Qd := by
  refine ⟨_, ?_, q⟩
  simp only [opD, binO, mulO]
  rw [if_pos]
  simp only [Bool.or_eq_true, decide_eq_true_eq]
  exact h
theorem gMulI {i j : Int} {Qd : D → Prop} (h : WO (opD (.bin .Mult) [.int i, .int j]) Qd) : WO (opD (.bin .Mult) [.int i, .int j]) Qd := h
theorem gDivI {i j : Int} {Qd : D → Prop} (h : WO (opD (.bin .FloorDiv) [.int i, .int j]) Qd) : WO (opD (.bin .FloorDiv) [.int i, .int j]) Qd := h
theorem pure_prZ (p : Int × Int) : (prZ p).pure = true := rfl
theorem pure_oZ (p : Option (Int × Int)) : (oZ p).pure = true := by cases p <;> rfl
theorem O_cnt {m : Bool} {ws : List (List Nat)} {w : List Nat} {Qd : D → Prop} (q : Qd (.int (ws.count w : Nat))) : WO (cntO (.lst m (strD ws)) [.str w]) Qd := by
  refine ⟨_, ?_, q⟩
  show (strsO (strD ws)).map _ = _
  rw [strsO_strD]; rfl
theorem O_ssetS {m : Bool} {ws : List (List Nat)} {Qd : D → Prop} (h1 : ws.length ≤ 1000) (h2 : (ssetT ws).length < 64) (q : Qd (.lst true (strD (ssetT ws)))) : WO (opD .sset [.lst m (strD ws)]) Qd := by
  refine ⟨_, ?_, q⟩
  cases ws with
  | nil => rfl
  | cons w r =>
    show ssetO (strD (w :: r)) = _
    unfold ssetO
    have : intsO (strD (w :: r)) = none := rfl
    rw [this]
    show (strsO (strD (w :: r))).bind _ = _
    rw [strsO_strD, Option.bind_some, if_pos ⟨h1, h2⟩]
theorem nats_sum (l : List Nat) : (l.map fun k : Nat => (k : Int)).sum = ((l.sum : Nat) : Int) := by
  induction l with
  | nil => rfl
  | cons x l ih => rw [List.map_cons, List.sum_cons, List.sum_cons, ih]; omega
theorem O_sumN {m : Bool} {l : List Nat} {Qd : D → Prop} (q : Qd (.int ((l.sum : Nat) : Int))) : WO (opD (.fn .sum) [.lst m (nat' l)]) Qd := by
  refine ⟨_, ?_, q⟩
  show (intsO (nat' l)).map _ = _
  rw [intsO_nat, Option.map_some, nats_sum]
/-! ### what two hands' agreement comes to -/
structure FrOk (s d : Int × Int) : Prop where
  s0 : 0 ≤ s.1
  s1 : s.1 ≤ s.2
  s2 : 0 < s.2
  s3 : s.2 < 1099511627776
  d0 : 0 ≤ d.1
  d1 : d.1 ≤ d.2
  d2 : 0 < d.2
  d3 : d.2 < 1099511627776
  pr : s.2 * d.2 * (d.2 - d.1) < 1152921504606846976
theorem FrOk.top {s d : Int × Int} (f : FrOk s d) (h : ¬ d.2 - d.1 = 0) : ∃ u : Nat, s.2 * d.2 * (d.2 - d.1) = (u : Int) ∧ (s.2 * d.2 * (d.2 - d.1)).toNat = u ∧ 0 < u ∧ u < 2 ^ 60 := by
  have h1 : 0 < s.2 * d.2 * (d.2 - d.1) := Int.mul_pos (Int.mul_pos f.s2 f.d2) (by have := f.d1; omega)
  have h2 := f.pr
  exact ⟨(s.2 * d.2 * (d.2 - d.1)).toNat, by omega, rfl, by omega, by omega⟩
def toldF (a b : List (List Nat)) (n : Nat) : D := if n = 0 then .tup [prZ (0, 1), prZ (0, 1), .non] else .tup [prZ (lowI (seenN a b : Nat) n), prZ (lowI (hitsN a b : Nat) (n * n)), oZ (beyF (lowI (seenN a b : Nat) n) (lowI (hitsN a b : Nat) (n * n)))]
theorem deq_prZ (p : Int × Int) : deq (prZ p) (prZ p) = true := by simp [prZ, deq, deqL]
theorem deq_oZ (p : Option (Int × Int)) : deq (oZ p) (oZ p) = true := by cases p with | none => rfl | some p => exact deq_prZ p
theorem deq_told (a b : List (List Nat)) (n : Nat) : deq (toldF a b n) (toldF a b n) = true := by
  unfold toldF
  split
  · simp [deq, deqL, deq_prZ]
  · simp [deq, deqL, deq_prZ, deq_oZ]
theorem ok_oZ (p : Option (Int × Int)) (k : Nat) : okD (k + 1) (oZ p) = true := by cases p with | none => rfl | some p => simp [oZ, prZ, okD]
theorem ok_told (a b : List (List Nat)) (n : Nat) : okD deep (toldF a b n) = true := by
  unfold toldF
  split
  · rfl
  · show ([prZ _, prZ _, oZ _] : List D).all (okD 11) = true
    simp [ok_oZ, prZ, okD]
theorem O_neTold {a b : List (List Nat)} {n : Nat} {Qd : D → Prop} (q : Qd (.bl false)) : WO (opD (.cmp .NotEq) [toldF a b n, toldF a b n]) Qd := by
  refine ⟨_, ?_, q⟩
  simp only [opD, cmpO, cmpB, eqO, ok_told, Bool.and_self, if_true, deq_told, Option.map_some]
  rfl
theorem O_nset {m : Bool} {ws : List (List Nat)} {Qd : D → Prop} (h : ws.length ≤ 1000) (q : Qd (.int ((ssetT ws).length : Nat))) : WO (opD .nset [.lst m (strD ws)]) Qd := by
  refine ⟨_, ?_, q⟩
  show (strsO (strD ws)).bind _ = _
  rw [strsO_strD, Option.bind_some, if_pos h]
/-! ### branches that meet again -/
end VI

namespace VI
open PySem L2
section
variable {P : Type} [DecidableEq P]
end
end VI

namespace VI
open PySem L2
/-! ### columns -/
/-! ### counts by texts -/
def kS (w : List Nat) : Key := .inr (ST w)
/-! ### agreement among several -/
/-! ### winners -/
/-! ### settled stretches -/
structure Tr where
  first : Nat
  past : Nat
  word : List Nat
def Tr.d (t : Tr) : D := .tup [.int (t.first : Int), .int (t.past : Int), .str t.word]
theorem I_rng1n {n : Nat} {P : List D → Prop} (h : n ≤ 900) (q : P (rngO ((1 : Nat) : Int) ((n + 1 : Nat) : Int))) : ∃ xs, itD .rng (frzL [.int 1, .int ((n : Int) + 1)]) = some xs ∧ P xs := by
  have := I_rngAB (i := 1) (n := n + 1) (P := P) (by omega) (by omega) q
  exact this
end VI

namespace VI
open PySem L2
/-! ### margins -/
/-! ### agreement in parts -/
/-! ### hands in another turn -/
/-! ### hands that mark nothing -/
/-! ### painting -/
/-! ### how values compare -/
theorem deq_strD : ∀ a b : List (List Nat), deqL (strD a) (strD b) = decide (a = b)
  | [], [] => rfl
  | [], y :: b => rfl
  | x :: a, [] => rfl
  | x :: a, y :: b => by
    show (deq (.str x) (.str y) && deqL (strD a) (strD b)) = _
    rw [deq_strD a b]
    simp [deq]
theorem okD_strD (k : Nat) : ∀ ws : List (List Nat), (strD ws).all (okD k) = true
  | [] => rfl
  | w :: ws => by
    show (okD k (.str w) && (strD ws).all (okD k)) = true
    rw [okD_strD k ws]
    cases k <;> rfl
theorem eqO_strD (m m' : Bool) (a b : List (List Nat)) : eqO (.lst m (strD a)) (.lst m' (strD b)) = some (decide (a = b)) := by
  have h1 : okD deep (.lst m (strD a)) = true := okD_strD 11 a
  have h2 : okD deep (.lst m' (strD b)) = true := okD_strD 11 b
  unfold eqO
  rw [h1, h2]
  simp only [Bool.and_self, if_true, deq, deq_strD]
theorem O_neStr {m m' : Bool} {a b : List (List Nat)} {Qd : D → Prop} (q : Qd (.bl (!decide (a = b)))) : WO (opD (.cmp .NotEq) [.lst m (strD a), .lst m' (strD b)]) Qd := by
  refine ⟨_, ?_, q⟩
  show ((eqO _ _).map (!·)).map D.bl = _
  rw [eqO_strD]; rfl
end VI

namespace VI
open PySem L2
/-! ### labels of a text twice -/
/-! ### agreement of a text twice -/
/-! ### what is settled of a text twice -/
/-! ### a mirror -/
/-! ### how many cover a sign -/
end VI

set_option maxHeartbeats 1000000
namespace VI
open PySem L2
/-! ### the law's own winner -/
def w3 : List (List Nat) := [[97, 100, 106], [110], [118]]
/-! ### stretches grown sign by sign -/
/-! ### how many signs are settled -/
end VI

set_option maxHeartbeats 1000000
namespace VI
open PySem L2
/-! ### sums over pairs -/
end VI

set_option maxHeartbeats 1000000
namespace VI
open PySem L2
/-! ### stretches -/
end VI

namespace VI
open PySem L2
/-! turned -/
end VI

namespace VI
open PySem L2
def prK (p : Nat × Nat) : List Key := [.inl (p.1 : Int), .inl (p.2 : Int)]
def enS (L : List (Nat × Nat)) : List (List Key × D) := L.map fun p => (prK p, .bl true)
def stD (m : Bool) (L : List (Nat × Nat)) : D := .dit m (enS L)
def insP (L : List (Nat × Nat)) (p : Nat × Nat) : List (Nat × Nat) := if p ∈ L then L else L ++ [p]
def ddF (L ps : List (Nat × Nat)) : List (Nat × Nat) := ps.foldl insP L
def dd (ps : List (Nat × Nat)) : List (Nat × Nat) := ddF [] ps
section
variable {call : CallT} {ρ : Env'} {Q : D → Env' → Prop} {k : KS}
def dcTn (call : CallT) (kx vx : E) (t : T) (cs : List E) : D → Env' → R (Option (List Key × D)) := fun x ρ => match t.put x ρ with
  | none => .bad
  | some ρ1 => (lcTests call cs ρ1).bind fun b ρ2 => if b then (ev call kx ρ2).bind fun d ρ3 => (ev call vx ρ3).bind fun y ρ4 => match keyTO d with
    | some kk => if y.pure then .ok (some (kk, y)) ρ4 else .bad
    | none => .bad
    else .ok none ρ2
theorem W_dc {kx vx : E} {t : T} {kk : ItK} {es cs : List E} {own : List Nat} (q : WR (evC call es ρ) fun ds ρ1 => canL ds = true ∧ ∃ xs, itD kk (frzL ds) = some xs ∧ WR (dcLoop (dcTn call kx vx t cs) own xs [] (wipeD ρ1 own)) fun acc ρ2 => Q (.dit true acc) ρ2) : WR (ev call (.dc kx vx t kk es cs own) ρ) Q := by
  obtain ⟨⟨ds, ρ1, e1, c, xs, hx, ⟨⟨acc, ρ2, e2, q⟩⟩⟩⟩ := q
  refine ⟨⟨_, ρ2, ?_, q⟩⟩
  simp only [ev, e1, R.bind, c, if_true, hx]
  show ((dcLoop (dcTn call kx vx t cs) own xs [] (wipeD ρ1 own)).bind fun acc ρ2 => R.ok (D.dit true acc) ρ2) = R.ok (D.dit true acc) ρ2
  rw [e2]; rfl
def dcOn (call : CallT) (t : T) (k1 : ItK) (es1 : List E) : D → Env' → R (List D) := fun x ρ => match t.put x ρ with
  | none => .bad
  | some ρ1 => (evC call es1 ρ1).bind fun ds1 ρ2 => if canL ds1 then match itD k1 (frzL ds1) with
    | some ys => .ok ys ρ2
    | none => .bad
    else .bad
def dcIn (call : CallT) (kx vx : E) (t1 : T) : D → Env' → R (Option (List Key × D)) := fun x ρ => match t1.put x ρ with
  | none => .bad
  | some ρ1 => (ev call kx ρ1).bind fun d ρ3 => (ev call vx ρ3).bind fun y ρ4 => match keyTO d with
    | some kk => if y.pure then .ok (some (kk, y)) ρ4 else .bad
    | none => .bad
theorem W_dc2 {kx vx : E} {t t1 : T} {kk k1 : ItK} {es es1 : List E} {own own1 : List Nat} (q : WR (evC call es ρ) fun ds ρ1 => canL ds = true ∧ ∃ xs, itD kk (frzL ds) = some xs ∧ WR (dc2Loop (dcOn call t k1 es1) (dcIn call kx vx t1) own own1 xs [] (wipeD ρ1 own)) fun acc ρ2 => Q (.dit true acc) ρ2) : WR (ev call (.dc2 kx vx t kk es t1 k1 es1 own own1) ρ) Q := by
  obtain ⟨⟨ds, ρ1, e1, c, xs, hx, ⟨⟨acc, ρ2, e2, q⟩⟩⟩⟩ := q
  refine ⟨⟨_, ρ2, ?_, q⟩⟩
  simp only [ev, e1, R.bind, c, if_true, hx]
  show ((dc2Loop (dcOn call t k1 es1) (dcIn call kx vx t1) own own1 xs [] (wipeD ρ1 own)).bind fun acc ρ2 => R.ok (D.dit true acc) ρ2) = R.ok (D.dit true acc) ρ2
  rw [e2]; rfl
end
end VI

namespace VI
open PySem L2
def stP (p : Nat × Nat) : D := .tup [.int (p.1 : Nat), .int (p.2 : Nat)]
theorem pure_stP (L : List (Nat × Nat)) : pureL (L.map stP) = true := by
  induction L with
  | nil => rfl
  | cons p L ih => rw [List.map_cons]; simp only [pureL, ih, Bool.and_true]; rfl
theorem frzT_enS (L : List (Nat × Nat)) : frzT (enS L) = enS L := by
  unfold enS
  induction L with
  | nil => rfl
  | cons p L ih => rw [List.map_cons]; simp only [frzT, ih]; rfl
theorem candT_enS (L : List (Nat × Nat)) : candT (enS L) = true := by
  unfold enS
  induction L with
  | nil => rfl
  | cons p L ih => rw [List.map_cons]; simp only [candT, ih, Bool.and_true]; rfl
theorem st_frz (m : Bool) (L : List (Nat × Nat)) : (stD m L).frz = stD false L := by unfold stD; simp only [D.frz, frzT_enS]
theorem useP_st {K : D → Prop} {m : Bool} {L : List (Nat × Nat)} (q : K (stD false L)) : useP (stD m L) K := by
  refine ⟨?_, ?_⟩
  · show D.cand (.dit m (enS L)) = true
    simp only [D.cand, candT_enS]
  · show K (D.frz (.dit m (enS L)))
    have := st_frz m L
    unfold stD at this
    rw [this]; exact q
/-! ### sorted -/
def prs (n : Nat) : List (Nat × Nat) := (List.range (n + 1)).flatMap fun a => (List.range (n + 1 - a)).map fun k => (a, a + k)
def canon (n : Nat) (f : Nat × Nat → Bool) : List (Nat × Nat) := (prs n).filter f
end VI

namespace VI
open PySem L2
def fiD (s : List Nat) (x : D) : D := .ins "Finder" [("body", .str s), ("some", x)]
def loD (n : Int) : D := .ins "Looker" [("met", .int n)]
theorem fldP_b {s : List Nat} {x : D} {K : D → Prop} (q : K (.str s)) : fldP "Finder" "body" (fiD s x) K := ⟨rfl, _, rfl, rfl, q⟩
theorem fldP_s {s : List Nat} {x : D} {K : D → Prop} (hp : x.pure = true) (q : K x) : fldP "Finder" "some" (fiD s x) K := ⟨rfl, _, rfl, hp, q⟩
theorem fldP_m {n : Int} {K : D → Prop} (q : K (.int n)) : fldP "Looker" "met" (loD n) K := ⟨rfl, _, rfl, rfl, q⟩
theorem noM_f {m : Str} {s : List Nat} {x : D} {P : Prop} (h : ([("body", .str s), ("some", x)] : List (Str × D)).lookup m = none) (q : P) : noM "Finder" m (fiD s x) P := ⟨⟨rfl, h⟩, q⟩
theorem noM_l {m : Str} {n : Int} {P : Prop} (h : ([("met", .int n)] : List (Str × D)).lookup m = none) (q : P) : noM "Looker" m (loD n) P := ⟨⟨rfl, h⟩, q⟩
theorem pure_marks (ms : List Mk) : (seqL (some false) (ms.map Mk.d)).pure = true := by
  show (D.lst false (ms.map Mk.d)).pure = true
  simp only [D.pure, pure_ms]; rfl
end VI

namespace VI
open PySem L2
inductive Dbl where
  | thn | or | and | inn | not
  deriving DecidableEq
inductive Pt where
  | mark (l w : List Nat) | layer (l : List Nat) | text (w : List Nat) | gap (n : Nat) | many (p : Pt) (lo hi : Nat) | dbl (o : Dbl) (p q : Pt)
def Dbl.w : Dbl → List Nat
  | .thn => [116, 104, 101, 110] | .or => [111, 114] | .and => [97, 110, 100] | .inn => [105, 110] | .not => [110, 111, 116]
def Pt.d : Pt → D
  | .mark l w => .tup [.str [109, 97, 114, 107], .str l, .str w]
  | .layer l => .tup [.str [108, 97, 121, 101, 114], .str l]
  | .text w => .tup [.str [116, 101, 120, 116], .str w]
  | .gap n => .tup [.str [103, 97, 112], .int (n : Nat)]
  | .many p lo hi => .tup [.str [109, 97, 110, 121], p.d, .int (lo : Nat), .int (hi : Nat)]
  | .dbl o p q => .tup [.str o.w, p.d, q.d]
def Pt.size : Pt → Nat
  | .many p _ _ => p.size + 1
  | .dbl _ p q => p.size + q.size + 1
  | _ => 1
def Pt.deep : Pt → Nat
  | .many p _ _ => p.deep + 1
  | .dbl _ p q => max p.deep q.deep + 1
  | _ => 0
theorem Pt.pure : ∀ p : Pt, p.d.pure = true
  | .mark _ _ => rfl
  | .layer _ => rfl
  | .text _ => rfl
  | .gap _ => rfl
  | .many p lo hi => by simp [Pt.d, D.pure, pureL, p.pure]
  | .dbl o p q => by simp [Pt.d, D.pure, pureL, p.pure, q.pure]
/-! ### what is found, as the program tells it -/
/-! ### what is found, by each stretch -/
end VI

namespace VI
open PySem L2
abbrev mkS (ms : List Mk) : D := .lst false (ms.map Mk.d)
theorem pure_mkS (ms : List Mk) : (mkS ms).pure = true := by simp only [D.pure, pure_ms]; rfl
end VI

namespace VI
open PySem L2
section
variable {call : CallT} {ρ : Env'} {Q : D → Env' → Prop}
end
end VI

namespace VI
open PySem L2
end VI

namespace VI
open PySem L2
section
variable {call : CallT} {ρ : Env'} {Q : D → Env' → Prop}
end
end VI

namespace VI
open PySem L2
section
variable {QA : List D → Env' → Prop} {ρ : Env'}
end
/-! ### lists of stretches told apart -/
theorem I_st {m : Bool} {L : List (Nat × Nat)} {P : List D → Prop} (q : P (L.map stP)) : canL [D.lst m (L.map stP)] = true ∧ ∃ xs, itD .seq (frzL [D.lst m (L.map stP)]) = some xs ∧ P xs := by
  refine ⟨?_, _, ?_, q⟩
  · simp only [canL, D.can, pureL_can (pure_stP L)]; rfl
  · simp only [frzL, D.frz, frzL_of_pure (pure_stP L)]; rfl
/-! ### from the left -/
/-! ### patterns that a law draws -/
end VI

namespace VI
open PySem L2
end VI

set_option maxHeartbeats 1000000
namespace VI
open PySem L2
def Mk.re (σ : List Nat → List Nat) (m : Mk) : Mk := ⟨σ m.hand, σ m.layer, m.first, m.past, σ m.word⟩
def Mk.of (S : List (List Nat)) (m : Mk) : Prop := m.hand ∈ S ∧ m.layer ∈ S ∧ m.word ∈ S
section
variable {σ : List Nat → List Nat} {S : List (List Nat)}
def Tr.re (σ : List Nat → List Nat) (t : Tr) : Tr := ⟨t.first, t.past, σ t.word⟩
/-! patterns -/
def Pt.re (σ : List Nat → List Nat) : Pt → Pt
  | .mark l w => .mark (σ l) (σ w)
  | .layer l => .layer (σ l)
  | .text w => .text w
  | .gap n => .gap n
  | .many p lo hi => .many (p.re σ) lo hi
  | .dbl o p q => .dbl o (p.re σ) (q.re σ)
def Pt.of (S : List (List Nat)) : Pt → Prop
  | .mark l w => l ∈ S ∧ w ∈ S
  | .layer l => l ∈ S
  | .many p _ _ => p.of S
  | .dbl _ p q => p.of S ∧ q.of S
  | _ => True
/-! stretches stay -/
end
/-! alike with itself -/
theorem deqL_all : ∀ {xs : List D}, (∀ x ∈ xs, deq x x = true) → deqL xs xs = true
  | [], _ => rfl
  | x :: xs, h => by
    simp only [deqL, Bool.and_eq_true]
    exact ⟨h x List.mem_cons_self, deqL_all fun y hy => h y (List.mem_cons_of_mem _ hy)⟩
theorem deq_okd : ∀ (n : Nat) (d : D), okD n d = true → deq d d = true
  | n, .non, _ => rfl
  | n, .bl b, _ => by simp [deq]
  | n, .int i, _ => by simp [deq]
  | n, .str s, _ => by simp [deq]
  | 0, .tup xs, h => by simp [okD] at h
  | 0, .lst m xs, h => by simp [okD] at h
  | n + 1, .tup xs, h => by
    simp only [okD, List.all_eq_true] at h
    simp only [deq]
    exact deqL_all fun x hx => deq_okd n x (h x hx)
  | n + 1, .lst m xs, h => by
    simp only [okD, List.all_eq_true] at h
    simp only [deq]
    exact deqL_all fun x hx => deq_okd n x (h x hx)
  | 0, .dic _ _, h => by simp [okD] at h
  | 0, .dit _ _, h => by simp [okD] at h
  | 0, .ins _ _, h => by simp [okD] at h
  | 0, .scr _, h => by simp [okD] at h
  | n + 1, .dic _ _, h => by simp [okD] at h
  | n + 1, .dit _ _, h => by simp [okD] at h
  | n + 1, .ins _ _, h => by simp [okD] at h
  | n + 1, .scr _, h => by simp [okD] at h
/-! names drawn one by one -/
end VI

namespace VI
open PySem L2
def ER (r : R D) (P : Ex → Env' → Prop) : Prop := ∃ x ρ', r = .err x ρ' ∧ P x ρ'
section
variable {call : CallT} {ρ : Env'} {P : Ex → Env' → Prop} {k : KS}
theorem ER_call {f : Str} {as : List E} (q : wpA call as ρ fun rs ρ1 => fetchP rs ρ1 fun ds ρ2 => ∃ x outs, call f ds = .err x outs ∧ P x (back rs outs ρ2)) : ER (ev call (.call f as) ρ) P := by
  obtain ⟨rs, ρ1, e1, h⟩ := wpA_ok as q
  obtain ⟨ds, ρ2, e2, x, outs, e3, h⟩ := fetchP_ok h
  exact ⟨x, back rs outs ρ2, by simp only [ev, e1, R.bind, e2, e3], h⟩
theorem W_kindE {e : E} {Q : D → Env' → Prop} (q : ER (ev call e ρ) fun x ρ' => ∃ d, kindO x = some d ∧ Q d ρ') : WR (ev call (.kind e) ρ) Q := by
  obtain ⟨x, ρ', h, d, hd, hq⟩ := q
  exact ⟨⟨d, ρ', by simp only [ev, h, kindR, hd, R.of], hq⟩⟩
theorem XE_expr {e : E} {ss : List S} (q : ER (ev call e ρ) k.er) : WX (exs call (.expr e :: ss) ρ) k := by
  obtain ⟨x, ρ', h, hp⟩ := q
  refine X_cons ⟨?_⟩
  simp only [ex, h, R.sbind]
  exact hp
end
end VI

namespace VI
open PySem PySem.Spec PyProof.Rows L2
def dgB (c : Nat) : Bool := decide (48 ≤ c) && decide (c ≤ 57)
def numB : List Nat → Bool
  | [a] => dgB a
  | [a, b] => dgB a && dgB b && !(a == 48)
  | _ => false
def numV : List Nat → Nat
  | [a] => a - 48
  | [a, b] => (a - 48) * 10 + (b - 48)
  | _ => 0
def figs : List Nat := [48, 49, 50, 51, 52, 53, 54, 55, 56, 57]
theorem dg_cases {c : Nat} (h : dgB c = true) : ∃ a, a < 10 ∧ c = 48 + a := by
  simp only [dgB, Bool.and_eq_true, decide_eq_true_eq] at h
  exact ⟨c - 48, by omega, by omega⟩
theorem int_one : ∀ a, a < 10 → PySem.intText? (ST [48 + a]) = some (numV [48 + a] : Int) := by decide +kernel
theorem int_two : ∀ a, a < 10 → ∀ b, b < 10 → PySem.intText? (ST [48 + a, 48 + b]) = some (numV [48 + a, 48 + b] : Int) := by decide +kernel
theorem int_num {w : List Nat} (h : numB w = true) : PySem.intText? (ST w) = some (numV w : Int) := by
  match w, h with
  | [a], h =>
    obtain ⟨a, h1, rfl⟩ := dg_cases h
    exact int_one a h1
  | [a, b], h =>
    simp only [numB, Bool.and_eq_true] at h
    obtain ⟨a, h1, rfl⟩ := dg_cases h.1.1
    obtain ⟨b, h2, rfl⟩ := dg_cases h.1.2
    exact int_two a h1 b h2
theorem numB_len {w : List Nat} (h : numB w = true) : w.length ≤ 2 := by
  match w, h with
  | [a], _ => simp
  | [a, b], _ => simp
theorem numV_lt {w : List Nat} (h : numB w = true) : numV w < 100 := by
  match w, h with
  | [a], h =>
    obtain ⟨a, h1, rfl⟩ := dg_cases h
    simp only [numV]; omega
  | [a, b], h =>
    simp only [numB, Bool.and_eq_true] at h
    obtain ⟨a, h1, rfl⟩ := dg_cases h.1.1
    obtain ⟨b, h2, rfl⟩ := dg_cases h.1.2
    simp only [numV]; omega
theorem O_intT {w : List Nat} {Qd : D → Prop} (h : numB w = true) (q : Qd (.int (numV w : Int))) : WO (opD (.fn .int) [.str w]) Qd := by
  refine ⟨_, ?_, q⟩
  show (if w.length ≤ 640 then (PySem.intText? (ST w)).map D.int else none) = _
  rw [if_pos (by have := numB_len h; omega), int_num h]; rfl
/-! ### stripped of figures -/
theorem figs_has (c : Nat) : (ST figs).cps.contains c = dgB c := by
  have e : (ST figs).cps.contains c = figs.contains c := by simp [ST]
  rw [e]
  by_cases h : dgB c = true
  · obtain ⟨a, h1, rfl⟩ := dg_cases h
    rw [h]
    have : ∀ a, a < 10 → figs.contains (48 + a) = true := by decide
    exact this a h1
  · have h2 : dgB c = false := by simpa using h
    rw [h2]
    rw [← Bool.not_eq_true, List.contains_iff_mem]
    intro z
    simp only [figs, List.mem_cons, List.not_mem_nil, or_false] at z
    apply h
    rcases z with rfl | rfl | rfl | rfl | rfl | rfl | rfl | rfl | rfl | rfl <;> rfl
theorem figs_fun : (ST figs).cps.contains = dgB := funext figs_has
theorem strip1 (a : Nat) : stripS figs [a] = if dgB a then [] else [a] := by
  unfold stripS Txt.stripChars
  rw [figs_fun]
  unfold Txt.stripBy stripSame stripped stripLo stripHi PySem.Builtin.Str.strSub
  cases h : dgB a <;> simp [h, ST, Str.length]
theorem strip2 (a b : Nat) : stripS figs [a, b] = if dgB a then (if dgB b then [] else [b]) else (if dgB b then [a] else [a, b]) := by
  unfold stripS Txt.stripChars
  rw [figs_fun]
  unfold Txt.stripBy stripSame stripped stripLo stripHi PySem.Builtin.Str.strSub
  cases h : dgB a <;> cases h2 : dgB b <;> simp [h, h2, ST, Str.length]
theorem O_strip1 {a : Nat} {Qd : D → Prop} (ha : a < 1114112) (q : Qd (.str (if dgB a then [] else [a]))) : WO (opD (.mt (.strip figs)) [.str [a]]) Qd := by
  refine ⟨_, ?_, q⟩
  show (if [a].length ≤ lim ∧ okCs (stripS figs [a]) then some (D.str (stripS figs [a])) else none) = _
  rw [strip1, if_pos]
  refine ⟨by simp [lim], ?_⟩
  split <;> simp [okCs, ha]
theorem O_strip2 {a b : Nat} {Qd : D → Prop} (ha : a < 1114112) (hb : b < 1114112) (q : Qd (.str (if dgB a then (if dgB b then [] else [b]) else (if dgB b then [a] else [a, b])))) : WO (opD (.mt (.strip figs)) [.str [a, b]]) Qd := by
  refine ⟨_, ?_, q⟩
  show (if [a, b].length ≤ lim ∧ okCs (stripS figs [a, b]) then some (D.str (stripS figs [a, b])) else none) = _
  rw [strip2, if_pos]
  refine ⟨by simp [lim], ?_⟩
  split <;> split <;> simp [okCs, ha, hb]
/-! ### rows and words -/
theorem O_split {c : Nat} {a : List Nat} {Qd : D → Prop} (hc : c < 256) (hl : a.length ≤ 100000) (q : Qd (.lst true (strD (splS c [] a)))) : WO (opD (.mt (.split [c])) [.str a]) Qd := by
  refine ⟨_, ?_, q⟩
  show (if c < 256 ∧ a.length + 2 ≤ lim then some (D.lst true ((splS c [] a).map D.str)) else none) = _
  rw [if_pos ⟨hc, by simp only [lim]; omega⟩]
def linesF (t : List Nat) : List (List Nat) := if t = [] then [] else splS 10 [] t
def rowF (l : List Nat) : Option Mk := match splS 32 [] l with
  | [a, b, f, p, w] => if numB f && numB p then some ⟨a, b, numV f, numV p, w⟩ else none
  | _ => none
theorem splS_len (c : Nat) : ∀ (acc a : List Nat), ∀ y ∈ splS c acc a, y.length ≤ acc.length + a.length
  | acc, [], y, hy => by
    unfold splS at hy
    rw [List.mem_singleton.mp hy]; simp
  | acc, x :: r, y, hy => by
    unfold splS at hy
    split at hy
    · rcases List.mem_cons.mp hy with rfl | hy
      · simp
      · have := splS_len c [] r y hy
        simp at this ⊢; omega
    · have := splS_len c (acc ++ [x]) r y hy
      simp at this ⊢; omega
theorem splS_mem (c : Nat) : ∀ (acc a : List Nat), ∀ y ∈ splS c acc a, ∀ z ∈ y, z ∈ acc ∨ z ∈ a
  | acc, [], y, hy, z, hz => by
    unfold splS at hy
    rw [List.mem_singleton.mp hy] at hz; exact .inl hz
  | acc, x :: r, y, hy, z, hz => by
    unfold splS at hy
    split at hy
    · rcases List.mem_cons.mp hy with rfl | hy
      · exact .inl hz
      · rcases splS_mem c [] r y hy z hz with h | h
        · cases h
        · exact .inr (List.mem_cons_of_mem _ h)
    · rcases splS_mem c (acc ++ [x]) r y hy z hz with h | h
      · rcases List.mem_append.mp h with h | h
        · exact .inl h
        · rw [List.mem_singleton.mp h]; exact .inr List.mem_cons_self
      · exact .inr (List.mem_cons_of_mem _ h)
theorem splS_many (c : Nat) : ∀ (acc a : List Nat), (splS c acc a).length ≤ a.length + 1
  | acc, [] => by unfold splS; simp
  | acc, x :: r => by
    unfold splS
    split
    · have := splS_many c [] r
      simp; omega
    · have := splS_many c (acc ++ [x]) r
      simp; omega
theorem joinS_cons (c : Nat) (x y : List Nat) (r : List (List Nat)) : joinS [c] (x :: y :: r) = x ++ c :: joinS [c] (y :: r) := by
  show x ++ [c] ++ joinS [c] (y :: r) = _
  simp
theorem splS_run (c : Nat) : ∀ (x acc rest : List Nat), c ∉ x → splS c acc (x ++ rest) = splS c (acc ++ x) rest
  | [], acc, rest, _ => by simp
  | a :: x, acc, rest, h => by
    have h1 : a ≠ c := fun z => h (by rw [z]; exact List.mem_cons_self)
    show splS c acc (a :: (x ++ rest)) = _
    rw [splS, if_neg h1, splS_run c x (acc ++ [a]) rest fun z => h (List.mem_cons_of_mem _ z)]
    simp
theorem splS_join (c : Nat) : ∀ (ys : List (List Nat)), ys ≠ [] → (∀ y ∈ ys, c ∉ y) → splS c [] (joinS [c] ys) = ys
  | [], h, _ => absurd rfl h
  | [x], _, h => by
    show splS c [] x = [x]
    have := splS_run c x [] [] (h x List.mem_cons_self)
    rw [List.append_nil] at this
    rw [this]; rfl
  | x :: y :: r, _, h => by
    rw [joinS_cons, splS_run c x [] _ (h x List.mem_cons_self)]
    rw [splS, if_pos rfl, splS_join c (y :: r) (by simp) fun z hz => h z (List.mem_cons_of_mem _ hz)]
    simp
def dgS (n : Nat) : List Nat := if n < 10 then [48 + n] else [48 + n / 10, 48 + n % 10]
theorem numS_dgS : ∀ n : Nat, n < 100 → numS (n : Int) = dgS n := by decide +kernel
theorem dgS_num : ∀ n : Nat, n < 100 → numB (dgS n) = true ∧ numV (dgS n) = n := by decide +kernel
theorem dgS_ok : ∀ n : Nat, n < 100 → okCs (dgS n) = true := by decide +kernel
theorem dgS_no : ∀ n : Nat, n < 100 → (∀ c ∈ dgS n, c ≠ 32 ∧ c ≠ 10 ∧ c < 128) ∧ (dgS n).length ≤ 2 := by decide +kernel
theorem O_strN {n : Nat} {Qd : D → Prop} (h : n < 100) (q : Qd (.str (dgS n))) : WO (opD (.fn .str) [.int (n : Int)]) Qd := by
  refine ⟨_, ?_, q⟩
  show (if (n : Int).natAbs.log2 < 1920 then (if okCs (numS n) then some (D.str (numS n)) else none) else none) = _
  have hl : (n : Int).natAbs.log2 < 1920 := by
    have h2 : ∀ n : Nat, n < 100 → (n : Int).natAbs.log2 < 1920 := by decide +kernel
    exact h2 n h
  rw [if_pos hl, numS_dgS n h, if_pos (dgS_ok n h)]
theorem O_strT {l : List Nat} {Qd : D → Prop} (q : Qd (.str l)) : WO (opD (.fn .str) [.str l]) Qd := ⟨_, rfl, q⟩
def partsF (m : Mk) : List (List Nat) := [m.hand, m.layer, dgS m.first, dgS m.past, m.word]
def lineF (m : Mk) : List Nat := joinS [32] (partsF m)
def textF (ms : List Mk) : List Nat := joinS [10] (ms.map lineF)
theorem abc_no {c : Nat} (h : c ∈ abc) : c ≠ 32 ∧ c ≠ 10 ∧ c < 128 := by
  have : ∀ c ∈ abc, c ≠ 32 ∧ c ≠ 10 ∧ c < 128 := by decide
  exact this c h
theorem parts_no {m : Mk} {n : Nat} (h : m.ok n) (hn : n < 100) : ∀ y ∈ partsF m, ∀ c ∈ y, c ≠ 32 ∧ c ≠ 10 ∧ c < 128 := by
  obtain ⟨h1, h2, h3, h4, h5⟩ := h
  intro y hy c hc
  simp only [partsF, List.mem_cons, List.not_mem_nil, or_false] at hy
  rcases hy with rfl | rfl | rfl | rfl | rfl
  · exact abc_no (h1.2.2 c hc)
  · exact abc_no (h2.2.2 c hc)
  · exact (dgS_no _ (by omega)).1 c hc
  · exact (dgS_no _ (by omega)).1 c hc
  · exact abc_no (h3.2.2 c hc)
theorem row_line {m : Mk} {n : Nat} (h : m.ok n) (hn : n < 100) : rowF (lineF m) = some m := by
  unfold rowF lineF
  rw [splS_join 32 _ (by simp [partsF]) fun y hy z => (parts_no h hn y hy 32 z).1 rfl]
  obtain ⟨h1, h2, h3, h4, h5⟩ := h
  show (if (numB (dgS m.first) && numB (dgS m.past)) = true then some (⟨m.hand, m.layer, numV (dgS m.first), numV (dgS m.past), m.word⟩ : Mk) else none) = _
  obtain ⟨a1, a2⟩ := dgS_num m.first (by omega)
  obtain ⟨b1, b2⟩ := dgS_num m.past (by omega)
  rw [a1, b1, a2, b2]; rfl
theorem joinS_mem (s : List Nat) : ∀ (ys : List (List Nat)), ∀ c ∈ joinS s ys, c ∈ s ∨ ∃ y ∈ ys, c ∈ y
  | [], c, h => by cases h
  | [x], c, h => .inr ⟨x, List.mem_cons_self, h⟩
  | x :: y :: r, c, h => by
    have h : c ∈ x ++ s ++ joinS s (y :: r) := h
    rcases List.mem_append.mp h with h | h
    · rcases List.mem_append.mp h with h | h
      · exact .inr ⟨x, List.mem_cons_self, h⟩
      · exact .inl h
    · rcases joinS_mem s (y :: r) c h with h | ⟨z, h1, h2⟩
      · exact .inl h
      · exact .inr ⟨z, List.mem_cons_of_mem _ h1, h2⟩
theorem line_no {m : Mk} {n : Nat} (h : m.ok n) (hn : n < 100) : ∀ c ∈ lineF m, c ≠ 10 ∧ c < 128 := by
  intro c hc
  rcases joinS_mem _ _ c hc with hc | ⟨y, h1, h2⟩
  · rw [List.mem_singleton.mp hc]; decide
  · have := parts_no h hn y h1 c h2
    exact ⟨this.2.1, this.2.2⟩
theorem line_ne {m : Mk} : lineF m ≠ [] := by
  unfold lineF partsF
  rw [joinS_cons]
  simp
theorem text_nil {ms : List Mk} : textF ms = [] ↔ ms = [] := by
  constructor
  · intro h
    cases ms with
    | nil => rfl
    | cons m r =>
      exfalso
      cases r with
      | nil => exact line_ne h
      | cons m2 r =>
        have h : joinS [10] (lineF m :: lineF m2 :: r.map lineF) = [] := h
        rw [joinS_cons] at h
        simp at h
  · rintro rfl; rfl
theorem lines_text {ms : List Mk} {n : Nat} (h : ∀ m ∈ ms, m.ok n) (hn : n < 100) : linesF (textF ms) = ms.map lineF := by
  unfold linesF
  by_cases h0 : ms = []
  · subst h0; rfl
  · rw [if_neg fun z => h0 (text_nil.mp z)]
    refine splS_join 10 _ (fun z => h0 (List.map_eq_nil_iff.mp z)) fun y hy z => ?_
    obtain ⟨m, h1, rfl⟩ := List.mem_map.mp hy
    exact (line_no (h m h1) hn 10 z).1 rfl
end VI

namespace VI
open PySem PySem.Spec PyProof.Rows L2
def TabsAt (q : Program) (K : PySem.W.Frag) (h : Heap) : Prop := ∀ (nm : Str) (c P : Addr) (dL : DefRec), (recsOf q).find? (fun e => e.name == nm) = some dL → PySem.W.tabIn K nm = some (c, P) → PySem.W.CodeHd h c P ∧ h.get? P = some { cls := .none, data := .fields #[] }
theorem walk_tabs {l : PySem.W.OpenLaw} {n k : Nat} {q : Program} {loose : List Str} {XP : (Str → Option Value) → Heap → Prop} {YP : World → Heap → Prop} {d : DefRec} {K : Params → PySem.W.Frag} {CX : World → CXT} {x : Str}
    (hn : l.most = some n) (hn2 : n ≤ sizeLine) (hdf : d.params.defaults = []) (hr : Room k callerA) (hY : ∀ (w : World) (h : Heap), YP w h → (K w.params).In h)
    (F : ∀ (w : World) (mg : Str → Option Value) (fa : Addr) (h : Heap), (K w.params).In h → h.Ns mainGlobals mg → mg d.name = some (.ref fa) → TabsAt q (K w.params) h → LamX.LawAtS l w (K w.params) (CX w) k n x mg fa h)
    (hCX : ∀ (w : World) (H : Hp) (s : Shared) (e : Value) (s' : Shared), CX w [] H s (fun _ _ _ => False) e s' → False) :
    PySem.W.WalkO q loose XP YP l.row.toRowW d [] (fun f vs => PySem.call f vs) := by
  refine Att.attach_callB hn hdf fun w s0 s1 mg mb fa o pm cd doc a vs ns G Y ho hd hcd hmg hobj hints hlen hbits hg => ?_
  have KX := hY w _ Y
  obtain ⟨fd, cs, sp, hT, nT, C, hb, hsp, hF⟩ := F w mg fa _ KX G.T.g hmg fun nm c P dL e t => PySem.W.tab_of G.T KX e t
  exact LamX.law_callTs KX G.T.g G.T.b G.T.builtins G.T.nolimit hg hT nT C G.T.bmain hobj hints (Nat.le_trans hlen hn2) hr hF hb (fun H hH hS => hsp H a ns hlen hbits hH hS) fun H e s' => hCX w H s1 e s'
abbrev LT := List (Addr × Addr × Str)
def lamN (f : Str) : Str := f ++ (".<locals>." : Str) ++ ("<lambda>" : Str)
def LT.tns (T : LT) : List (Addr × Str) := T.map fun t => (t.2.1, lamN t.2.2)
def LT.uniqB (T : LT) : Bool := T.all fun a => T.all fun b => !(a.2.1 == b.2.1) || a.2.2 == b.2.2
theorem LT.uniq_of {T : LT} (h : T.uniqB = true) : ∀ p ∈ T.tns, ∀ q ∈ T.tns, p.1 = q.1 → p.2 = q.2 := fun p hp q hq e => by
  obtain ⟨a, ha, rfl⟩ := List.mem_map.mp hp
  obtain ⟨b, hb, rfl⟩ := List.mem_map.mp hq
  have h1 := List.all_eq_true.mp (List.all_eq_true.mp h a ha) b hb
  have e : a.2.1 = b.2.1 := e
  simp only [Bool.or_eq_true, Bool.not_eq_true', e, beq_self_eq_true, Bool.true_eq_false, false_or, beq_iff_eq] at h1
  show lamN a.2.2 = lamN b.2.2
  rw [h1]
abbrev LT.tn (T : LT) (h : T.uniqB = true) : Tn := ⟨T.tns, LT.uniq_of h⟩
structure LTok (q : Program) (K : PySem.W.Frag) (t : Addr × Addr × Str) : Prop where
  tab : PySem.W.tabIn K t.2.2 = some (t.1, t.2.1)
  out : K.lookup t.2.1 = none
  rec' : ∃ dL, (recsOf q).find? (fun e => e.name == t.2.2) = some dL
theorem lamF_of {K : PySem.W.Frag} {mg : Str → Option Value} {base : Heap} {f : Str} {fa fb c P : Addr} {fd : FuncData} {st : Stmt} [Tn] (ha : PySem.W.nsIn K mainGlobals f = some (some (.ref fb))) (h1 : mg f = some (.ref fb)) (h2 : mg f = some (.ref fa)) (F : L2.Fun K f f st fa fd)
    (ht : PySem.W.tabIn K f = some (c, P)) (tb : LamX.TabB base mg c P) (tn : Tn.tn P (lamN f)) : LamF mg base f fd := by
  have e : fb = fa := by rw [h1] at h2; cases h2; rfl
  subst e
  obtain ⟨oc, od, kV, doc, pm, an, cdv, ct, osl, rfl, lk, hcd⟩ := F.ex
  unfold PySem.W.tabIn at ht
  rw [ha] at ht
  simp only [lk] at ht
  cases cdv with
  | ref c0 =>
    simp only at ht
    split at ht
    · split at ht
      · cases ht
        exact ⟨c, P, rfl, tn, tb⟩
      · cases ht
    · cases ht
  | _ => cases ht
section
variable [Xs]
theorem law_at {l : PySem.W.OpenLaw} {q : Program} {w : World} {K : PySem.W.Frag} {mg : Str → Option Value} {fa : Addr} {h : Heap} {x : Str} {k : Nat} {T : LT} {t : Tbl} {gls : Str → D → Bool} {d : DefT} {fd : FuncData} (hu : T.uniqB = true) (tabs : TabsAt q K h) (ok : ∀ e ∈ T, LTok q K e)
    (fx : Facts K mg t gls) (hlam : ∀ f d, t.lookup f = some d → d.lam = true → ∃ e ∈ T, e.2.2 = f ∧ ∃ fb, PySem.W.nsIn K mainGlobals f = some (some (.ref fb)) ∧ mg f = some (.ref fb)) (hexc : ∀ base C ks, Xs.exs C = some ks → RzF l.prog w K mg base C ks) (hkind : Xs.kd = true → KindK K mg) (hok : ∀ f d, t.lookup f = some d → okDef t gls d = true)
    (hf : t.lookup ("law" : Str) = some d) (h1 : d.fd.np = 1) (hx : d.N.take d.fd.np = [x]) (hmg : mg ("law" : Str) = some (.ref fa)) (F : L2.Fun K "law" "law" d.st fa fd) (hb : ∀ (s : Shared) (u : Value), BindsTo s fd ⟨[u], []⟩ [(x, u)])
    (hrun : ∀ ns : List Int, ns.length ≤ 63 → ∃ outs, run t.fds k "law" [.scr ns] = .ok (.bl true) outs) : LamX.LawAtS l w K (L2.CX l.prog w) (lv k) 63 x mg fa h := by
  have look : ∀ p ∈ T.map (fun e => (e.1, e.2.1)), ∃ e ∈ T, p = (e.1, e.2.1) := fun p hp => by
    obtain ⟨e, he, rfl⟩ := List.mem_map.mp hp
    exact ⟨e, he, rfl⟩
  refine ⟨fd, T.map (fun e => (e.1, e.2.1)), @spLaw (T.tn hu) K 63, fun p hp => ?_, fun p hp => ?_, fun p hp => ?_, hb, fun H a ns hl _ hH hS => ⟨a, ns, rfl, hS, hl, fun P q' z => ?_, fun _ => rfl⟩, fun base hK hG tb => ?_⟩
  · obtain ⟨e, he, rfl⟩ := look p hp
    obtain ⟨dL, hd⟩ := (ok e he).rec'
    exact (tabs _ _ _ dL hd (ok e he).tab).2
  · obtain ⟨e, he, rfl⟩ := look p hp
    exact (ok e he).out
  · obtain ⟨e, he, rfl⟩ := look p hp
    obtain ⟨dL, hd⟩ := (ok e he).rec'
    exact (tabs _ _ _ dL hd (ok e he).tab).1
  · have z : (P, q') ∈ T.tns := z
    obtain ⟨e, he, z⟩ := List.mem_map.mp z
    cases z
    exact hH (e.1, e.2.1) (List.mem_map.mpr ⟨e, he, rfl⟩)
  · letI : Tn := T.tn hu
    have := law_ok (P := l.prog) (w := w) (base := base) (n := k) (m := 63) fx (fun f d' hd hl fa' fd' hm' F' => by
      obtain ⟨e, he, rfl, fb, e1, e2⟩ := hlam f d' hd hl
      exact lamF_of e1 e2 hm' F' (ok e he).tab (tb (e.1, e.2.1) (List.mem_map.mpr ⟨e, he, rfl⟩)) (List.mem_map.mpr ⟨e, he, rfl⟩)) (hexc base) hkind hok hf h1 hmg F hrun
    rw [hx] at this
    exact this
end
end VI

set_option maxHeartbeats 2000000
namespace VI
variable [Tn]
open PySem PySem.Spec PyProof.Rows L2 PySem.OEX
section
variable {K : PySem.W.Frag}
def oexB (K : PySem.W.Frag) (C : Addr) : Bool := (match K.lookup C with
  | some ⟨.type "type", _, .cls cd, sl⟩ => (match cd.mro, sl.toList with
    | .ref C' :: bm, [_, _, _, _, some (.builtin n), _] => C' == C && n == "ValueError.__new__" && !cd.hasDel && cd.hasDict && PySem.HandSPX.refsVE bm
    | _, _ => false)
  | _ => false) && decide (PySem.W.findIn K (.ref C) "__setattr__" = some (some (.builtin "object.__setattr__"))) && decide (PySem.W.subIn K (.ref C) (.type "BaseException") = some true) && decide (PySem.W.typeIn K (.ref C) = some (.type "type")) && PySem.W.keepIn K (.ref C)
theorem oexB_ok {C : Addr} (h : oexB K C = true) : OexC K C := by
  unfold oexB at h
  simp only [Bool.and_eq_true, decide_eq_true_eq] at h
  obtain ⟨⟨⟨⟨h1, h2⟩, h3⟩, h4⟩, h5⟩ := h
  refine ⟨?_, h2, h3, h4, h5⟩
  split at h1
  · rename_i dd cd sl ho
    split at h1
    · rename_i C' bm k0 k1 k2 k3 n k5 hm hs
      simp only [Bool.and_eq_true, beq_iff_eq, Bool.not_eq_true'] at h1
      obtain ⟨⟨⟨⟨rfl, rfl⟩, hdel⟩, hdc⟩, hr⟩ := h1
      obtain ⟨nm, bs, mro, ns, qn, hd, sn, sub, ab, col, del⟩ := cd
      dsimp only at hm hdel hdc
      subst hm hdel hdc
      have hsl : sl = #[k0, k1, k2, k3, some (.builtin "ValueError.__new__"), k5] := by
        obtain ⟨l⟩ := sl
        simp only at hs
        rw [hs]
      subst hsl
      exact ⟨nm, qn, ns, bs, bm, sn, sub, ab, col, dd, k0, k1, k2, k3, k5, ho, hr⟩
    · cases h1
  · cases h1
def excB (K : PySem.W.Frag) (D : Addr) : Bool := decide (PySem.W.findIn K (.ref D) "__getattribute__" = some (some (.builtin "BaseException.__getattribute__"))) && decide (PySem.W.findIn K (.ref D) "__getattr__" = some none) && decide (PySem.W.subIn K (.ref D) (.type "BaseException") = some true) &&
  PySem.W.hasDictIn K D && decide (PySem.W.findIn K (.ref D) "__class__" = some (some (.builtin "object.__class__"))) && decide (PySem.W.specialIn K (.builtin "object.__class__") "__get__" = some (some (.builtin "getset_descriptor.__get__"))) &&
  decide (PySem.W.takesIn K (.builtin "object.__class__") = some true) && decide (PySem.W.mroIn K D (.type "object") = some true)
theorem excB_ok {D : Addr} (h : excB K D = true) : ExcC K D := by
  simp only [excB, Bool.and_eq_true, decide_eq_true_eq] at h
  obtain ⟨⟨⟨⟨⟨⟨⟨h1, h2⟩, h3⟩, h4⟩, h5⟩, h6⟩, h7⟩, h8⟩ := h
  exact ⟨h1, h2, h3, h4, h5, h6, h7, h8⟩
def kindB (K : PySem.W.Frag) (L : List Addr) (S : Addr) : Bool := (List.range 11).all fun i => decide (PySem.W.exmOne K (.ref (L.getD i 0)) (.ref S) = some true) && excB K (L.getD i 0) &&
  ((List.range 11).all fun j => decide (PySem.W.kitOne K (.ref (L.getD i 0)) (.ref (L.getD j 0)) = some (decide (i = j)))) && decide (PySem.W.kitOne K (.ref (L.getD i 0)) (.type "ValueError") = some true) &&
  ((kFs.getD i []).all fun f => decide (PySem.W.findIn K (.ref (L.getD i 0)) f = some none))
theorem kindB_ok {mg : Str → Option Value} {L : List Addr} {S : Addr} (h : kindB K L S = true) (she : mg "ShelfError" = some (.ref S)) (isi : mg "isinstance" = none) (ver : mg "ValueError" = none) (ms : ∀ (i : Nat) (n : Str), kNs[i]? = some n → mg n = some (.ref (L.getD i 0))) : KindC K mg L S := by
  simp only [kindB, List.all_eq_true, List.mem_range, Bool.and_eq_true, decide_eq_true_eq] at h
  refine ⟨she, isi, ver, ms, fun i hi => (h i hi).1.1.1.1, fun i hi => excB_ok (h i hi).1.1.1.2, fun i j hi hj => (h i hi).1.1.2 j hj, fun i hi => (h i hi).1.2, fun i fs hf f hm => ?_⟩
  have hi : i < 11 := (List.getElem?_eq_some_iff.mp hf).1
  refine (h i hi).2 f ?_
  rw [List.getD_eq_getElem?_getD, hf]; exact hm
def rzB (K : PySem.W.Frag) (Ca fI : Addr) (ks : List Str) : Bool := oexB K Ca && decide (PySem.W.findIn K (.ref Ca) "__init__" = some (some (.ref fI))) && decide (PySem.W.typeIn K (.ref fI) = some (.type "function")) && ks.all fun f => decide (PySem.W.findIn K (.ref Ca) f = some none)
def iniB (K : PySem.W.Frag) (B : Addr) : Bool := decide (PySem.W.specialIn K (.ref B) "__getattribute__" = some (some (.builtin "type.__getattribute__"))) && PySem.W.readsIn K B (.type "type") && (match PySem.W.findCls K (.ref B) (.type "type") "__init__" with | some (.val (.builtin n)) => n == "ValueError.__init__" | _ => false)
theorem iniB_ok {B : Addr} (h : iniB K B = true) : IniC K B := by
  simp only [iniB, Bool.and_eq_true, decide_eq_true_eq] at h
  obtain ⟨⟨h1, h2⟩, h3⟩ := h
  refine ⟨h1, h2, ?_⟩
  split at h3
  · rename_i n e
    simp only [beq_iff_eq] at h3
    subst h3; exact e
  · cases h3
section
variable {P : Program} {w : World} {mg : Str → Option Value} {base : Heap} {C f g : Str} {Ca fI B : Addr} {fd : FuncData} {st : Stmt} {qual : Str} {p1 p2 p3 p4 p4' p5 p6 p7 p8 p9 p10 q7 q8 q9 q10 : Pos}
theorem rz1_ok (F : L2.Fun K "__init__" qual st fI fd) (h : rzB K Ca fI [f] = true) (hB : iniB K B = true) (hm : mg C = some (.ref Ca)) (hmB : mg "ShelfError" = some (.ref B)) (S : FnScope ["self", f] ["self", f] (defScope st)) (hb : (defScope st).names.lookup ("ShelfError" : Str) = some .globalImplicit) (h1 : (defScope st).names.lookup ("self" : Str) = some NameKind.local) (h2 : (defScope st).names.lookup f = some .local)
    (hd1 : (f == ("__debug__" : Str)) = false) (hd2 : (f == ("__classdict__" : Str)) = false) (hline : (p2.endLine == p5.line) = true)
    (hst : defBody st = [.Expr (.Call (.Attribute (.Name "ShelfError" p1) "__init__" p2) [.Name "self" p3, .Name f p4] [] p5) p6, .Assign [.Attribute (.Name "self" p7) f p8] (.Name f p9) p10])
    (hbn : ∀ (kV doc pm : Value) (an : Option Addr) (cdv ct u v : Value), bindArgs (PySem.W.fnOf "__init__" qual (defArgs st) (defBody st) (defScope st) .none kV doc pm an cdv ct) ⟨[u], [(f, v)]⟩ = pure [(("self" : Str), u), (f, v)]) : RzF P w K mg base C [f] := by
  simp only [rzB, Bool.and_eq_true, decide_eq_true_eq, List.all_eq_true] at h
  obtain ⟨⟨⟨a1, a2⟩, a3⟩, a4⟩ := h
  refine .inr ⟨by simp, Ca, fI, fd, fun us ws => us ++ ws, fun vs zs => vs ++ zs, hm, oexB_ok a1, a2, a3, ini1 (k := 0) F S hb h1 h2 (by decide) hd1 hd2 hmB (iniB_ok hB) hline hst, ⟨fun s us ws _ l1 l2 => ?_, fun r1 r2 => r1.append r2⟩, fun _ _ => rfl, a4⟩
  obtain ⟨oc, od, kV, doc, pm, an, cdv, ct, osl, rfl, _, _⟩ := F.ex
  match us, ws, l1, l2 with
  | [u], [v], _, _ => exact .of_eq (hbn _ _ _ _ _ _ _ _)
end
theorem kindK_ok {mg : Str → Option Value} {st : Stmt} {gA : Addr} {fd : FuncData} {L : List Addr} {S : Addr} {q : Nat → Pos} (F : L2.Fun K "_law_kind" "_law_kind" st gA fd) (hm : mg "_law_kind" = some (.ref gA)) (hb : L2.Binds K fd ["_law_call"] []) (hs : scopeB kNg ["_law_call"] (defScope st) = true) (hn : (defScope st).names = kNames) (hq : defBody st = kindBody q) (hl : kLines q = true) (KC : KindC K mg L S) : KindK K mg :=
  ⟨st, gA, fd, L, S, q, F, hm, F.kp, hb, scope_of hs, hn, hq, hl, KC⟩
def MetF [Xs] (K : PySem.W.Frag) (mg : Str → Option Value) (f : Str) (d : DefT) : Prop := ∀ C m, Xs.met.lookup f = some (C, m) → d.lam = false ∧ ∃ Ca fa fd, L2.Fun K m f d.st fa fd ∧ mg C = some (.ref Ca) ∧ Cls K Ca ∧ (m = "__init__" → L2.Mk K Ca fa) ∧ (m ≠ "__init__" → Meth K Ca m fa) ∧ L2.Binds K fd (d.N.take d.fd.np) (kwD (Xs.kwo.lookup f))
theorem metF_no [Xs] {mg : Str → Option Value} {f : Str} {d : DefT} (h : Xs.met.lookup f = none) : MetF K mg f d := fun C m e => by rw [h] at e; cases e
def iniS : Stmt → Stmt
  | .ClassDef (body := b) .. => b.getD 0 (.Pass ⟨0, 0, 0, 0⟩)
  | s => s
end
end VI

namespace Lk21
open PySem PySem.Spec PyProof.Rows L2 VI
def kqL : List Pos := [⟨145, 8, 145, 17⟩, ⟨145, 8, 145, 19⟩, ⟨145, 8, 145, 19⟩, ⟨146, 11, 146, 21⟩, ⟨147, 8, 147, 18⟩, ⟨147, 22, 147, 32⟩, ⟨147, 33, 147, 34⟩, ⟨147, 36, 147, 43⟩, ⟨147, 22, 147, 44⟩, ⟨147, 46, 147, 56⟩, ⟨147, 57, 147, 58⟩, ⟨147, 60, 147, 67⟩, ⟨147, 46, 147, 68⟩, ⟨147, 70, 147, 80⟩, ⟨147, 81, 147, 82⟩, ⟨147, 84, 147, 90⟩, ⟨147, 70, 147, 91⟩, ⟨147, 93, 147, 103⟩, ⟨147, 104, 147, 105⟩, ⟨147, 107, 147, 116⟩, ⟨147, 93, 147, 117⟩, ⟨147, 21, 147, 118⟩, ⟨147, 8, 147, 118⟩, ⟨148, 8, 148, 18⟩, ⟨148, 8, 148, 25⟩, ⟨148, 27, 148, 37⟩, ⟨148, 38, 148, 39⟩, ⟨148, 41, 148, 48⟩, ⟨148, 27, 148, 49⟩, ⟨148, 51, 148, 61⟩, ⟨148, 62, 148, 63⟩, ⟨148, 65, 148, 73⟩, ⟨148, 51, 148, 74⟩, ⟨148, 76, 148, 86⟩, ⟨148, 87, 148, 88⟩, ⟨148, 90, 148, 97⟩, ⟨148, 76, 148, 98⟩, ⟨148, 100, 148, 110⟩, ⟨148, 111, 148, 112⟩, ⟨148, 114, 148, 121⟩, ⟨148, 100, 148, 122⟩, ⟨148, 26, 148, 123⟩, ⟨148, 8, 148, 124⟩, ⟨148, 8, 148, 124⟩, ⟨149, 8, 149, 18⟩, ⟨149, 8, 149, 25⟩, ⟨149, 27, 149, 37⟩, ⟨149, 38, 149, 39⟩, ⟨149, 41, 149, 51⟩, ⟨149, 27, 149, 52⟩, ⟨149, 54, 149, 64⟩, ⟨149, 65, 149, 66⟩, ⟨149, 68, 149, 75⟩, ⟨149, 54, 149, 76⟩, ⟨149, 78, 149, 88⟩, ⟨149, 89, 149, 90⟩, ⟨149, 92, 149, 100⟩, ⟨149, 78, 149, 101⟩, ⟨149, 26, 149, 102⟩, ⟨149, 8, 149, 103⟩, ⟨149, 8, 149, 103⟩, ⟨150, 11, 150, 21⟩, ⟨150, 11, 150, 27⟩, ⟨150, 28, 150, 32⟩, ⟨150, 11, 150, 33⟩, ⟨150, 37, 150, 38⟩, ⟨150, 11, 150, 38⟩, ⟨150, 46, 150, 56⟩, ⟨150, 57, 150, 58⟩, ⟨150, 60, 150, 70⟩, ⟨150, 46, 150, 71⟩, ⟨150, 42, 150, 71⟩, ⟨150, 11, 150, 71⟩, ⟨151, 20, 151, 27⟩, ⟨151, 29, 151, 30⟩, ⟨151, 19, 151, 31⟩, ⟨151, 12, 151, 31⟩, ⟨150, 8, 151, 31⟩, ⟨152, 11, 152, 15⟩, ⟨152, 19, 152, 29⟩, ⟨152, 31, 152, 32⟩, ⟨152, 30, 152, 32⟩, ⟨152, 19, 152, 33⟩, ⟨152, 11, 152, 33⟩, ⟨153, 21, 153, 27⟩, ⟨153, 29, 153, 35⟩, ⟨153, 37, 153, 45⟩, ⟨153, 47, 153, 56⟩, ⟨153, 58, 153, 64⟩, ⟨153, 20, 153, 65⟩, ⟨153, 66, 153, 76⟩, ⟨153, 66, 153, 82⟩, ⟨153, 83, 153, 87⟩, ⟨153, 66, 153, 88⟩, ⟨153, 20, 153, 89⟩, ⟨153, 91, 153, 92⟩, ⟨153, 91, 153, 99⟩, ⟨153, 19, 153, 100⟩, ⟨153, 12, 153, 100⟩, ⟨152, 8, 153, 100⟩, ⟨154, 11, 154, 21⟩, ⟨154, 22, 154, 23⟩, ⟨154, 11, 154, 24⟩, ⟨154, 28, 154, 38⟩, ⟨154, 39, 154, 40⟩, ⟨154, 28, 154, 41⟩, ⟨154, 11, 154, 41⟩, ⟨155, 38, 155, 48⟩, ⟨155, 49, 155, 50⟩, ⟨155, 38, 155, 51⟩, ⟨155, 20, 155, 27⟩, ⟨155, 29, 155, 30⟩, ⟨155, 29, 155, 33⟩, ⟨155, 19, 155, 34⟩, ⟨155, 58, 155, 67⟩, ⟨155, 70, 155, 71⟩, ⟨155, 70, 155, 75⟩, ⟨155, 77, 155, 78⟩, ⟨155, 77, 155, 84⟩, ⟨155, 69, 155, 85⟩, ⟨155, 57, 155, 86⟩, ⟨155, 19, 155, 86⟩, ⟨155, 12, 155, 86⟩, ⟨154, 8, 155, 86⟩, ⟨156, 11, 156, 21⟩, ⟨156, 22, 156, 23⟩, ⟨156, 11, 156, 24⟩, ⟨156, 28, 156, 38⟩, ⟨156, 39, 156, 40⟩, ⟨156, 28, 156, 41⟩, ⟨156, 11, 156, 41⟩, ⟨157, 39, 157, 49⟩, ⟨157, 50, 157, 51⟩, ⟨157, 39, 157, 52⟩, ⟨157, 20, 157, 26⟩, ⟨157, 28, 157, 29⟩, ⟨157, 28, 157, 34⟩, ⟨157, 19, 157, 35⟩, ⟨157, 59, 157, 68⟩, ⟨157, 70, 157, 71⟩, ⟨157, 70, 157, 77⟩, ⟨157, 58, 157, 78⟩, ⟨157, 19, 157, 78⟩, ⟨157, 12, 157, 78⟩, ⟨156, 8, 157, 78⟩, ⟨158, 34, 158, 44⟩, ⟨158, 45, 158, 46⟩, ⟨158, 34, 158, 47⟩, ⟨158, 16, 158, 22⟩, ⟨158, 24, 158, 25⟩, ⟨158, 24, 158, 29⟩, ⟨158, 15, 158, 30⟩, ⟨158, 54, 158, 61⟩, ⟨158, 63, 158, 64⟩, ⟨158, 53, 158, 65⟩, ⟨158, 15, 158, 65⟩, ⟨158, 8, 158, 65⟩, ⟨146, 4, 158, 65⟩, ⟨144, 4, 158, 65⟩, ⟨159, 12, 159, 14⟩, ⟨159, 16, 159, 17⟩, ⟨159, 11, 159, 18⟩, ⟨159, 4, 159, 18⟩]
/-- 0 signs, 1 at, 2 sign -/
def i_need_signs : FD := { np := 1, ns := 3, io := [false], body :=
   [.fors (.tup [(.slot 1), (.slot 2)]) .enum [(.use 0)]
      [.ifs (.or (.op (.cmp .Eq) [(.var 1), (.glob "MOST_SIGNS" (.int 80))]) (.not (.chain .LtE .LtE (.cst (.str [32])) (.var 2) (.cst (.str [126])))))
        [.raise "BadSigns" ["at"] [(.use 1)]]
        []]] }
/-- 0 word, 1 sign -/
def i_is_name : FD := { np := 1, ns := 2, io := [false], body :=
   [.ret (.and (.chain .LtE .LtE (.cst (.int 1)) (.op (.fn .len) [(.var 0)]) (.glob "MOST_NAME" (.int 6))) (.op (.fn .all) [(.lc (.op (.cmp .In) [(.var 1), (.glob "LETTERS" (.str [97, 98, 99, 100, 101, 102, 103, 104, 105, 106, 107, 108, 109, 110, 111, 112, 113, 114, 115, 116, 117, 118, 119, 120, 121, 122]))]) (.slot 1) .seq [(.use 0)] [] [1])]))] }
/-- 0 signs, 1 some, 2 number, 3 mark, 4 hand, 5 layer, 6 first, 7 past, 8 word, 9 one -/
def i_need_marks : FD := { np := 2, ns := 10, io := [false, false], body :=
   [.fors (.tup [(.slot 2), (.slot 3)]) .enum [(.use 1)]
      [.asg (.tup [(.slot 4), (.slot 5), (.slot 6), (.slot 7), (.slot 8)]) (.use 3),
      .ifs (.or (.op (.cmp .Eq) [(.var 2), (.glob "MOST_MARKS" (.int 40))]) (.not (.op (.fn .all) [(.lc (.call "is_name" [(.use 9)]) (.slot 9) .seq [(.tup [(.use 4), (.use 5), (.use 8)])] [] [9])])))
        [.raise "BadMark" ["number"] [(.use 2)]]
        [],
      .ifs (.not (.chain3 .LtE .Lt .LtE (.cst (.int 0)) (.var 6) (.var 7) (.op (.fn .len) [(.var 0)])))
        [.raise "BadMark" ["number"] [(.use 2)]]
        []]] }
/-- 0 signs, 1 some, 2 mark, 3 part -/
def i_written : FD := { np := 2, ns := 4, io := [false, false], body :=
   [.expr (.call "need_signs" [(.use 0)]),
    .expr (.call "need_marks" [(.use 0), (.use 1)]),
    .ret (.op (.mt (.join [10])) [(.lc (.op (.mt (.join [32])) [(.lc (.op (.fn .str) [(.var 3)]) (.slot 3) .seq [(.use 2)] [] [3])]) (.slot 2) .seq [(.use 1)] [] [2])])] }
/-- 0 word -/
def i_is_number : FD := { np := 1, ns := 1, io := [false], body :=
   [.ret (.and (.chain .LtE .LtE (.cst (.int 1)) (.op (.fn .len) [(.var 0)]) (.cst (.int 2))) (.and (.op (.cmp .Eq) [(.op (.mt (.strip [48, 49, 50, 51, 52, 53, 54, 55, 56, 57])) [(.var 0)]), (.cst (.str []))]) (.or (.op (.cmp .Eq) [(.var 0), (.cst (.str [48]))]) (.op (.cmp .NotEq) [(.op .ix [(.var 0), (.cst (.int 0))]), (.cst (.str [48]))]))))] }
/-- 0 signs, 1 text, 2 found, 3 row, 4 line, 5 words, 6 word -/
def i_read : FD := { np := 2, ns := 7, io := [false, false], body :=
   [.expr (.call "need_signs" [(.use 0)]),
    .asg (.slot 2) (.lst []),
    .fors (.tup [(.slot 3), (.slot 4)]) .enum [(.ifx (.op (.cmp .NotEq) [(.var 1), (.cst (.str []))]) (.op (.mt (.split [10])) [(.var 1)]) (.lst []))]
      [.asg (.slot 5) (.op (.mt (.split [32])) [(.var 4)]),
      .ifs (.or (.op (.cmp .NotEq) [(.op (.fn .len) [(.var 5)]), (.cst (.int 5))]) (.not (.op (.fn .all) [(.lc (.call "is_number" [(.use 6)]) (.slot 6) .seq [(.op (.sl true true) [(.var 5), (.cst (.int 2)), (.cst (.int 4))])] [] [6])])))
        [.raise "BadText" ["row"] [(.use 3)]]
        [],
      .expr (.mut .append 2 [] [(.tup [(.op .ix [(.var 5), (.cst (.int 0))]), (.op .ix [(.var 5), (.cst (.int 1))]), (.op (.fn .int) [(.op .ix [(.var 5), (.cst (.int 2))])]), (.op (.fn .int) [(.op .ix [(.var 5), (.cst (.int 3))])]), (.op .ix [(.var 5), (.cst (.int 4))])])])],
    .expr (.call "need_marks" [(.use 0), (.use 2)]),
    .ret (.take 2)] }
/-- 0 _law_script, 1 _law_seed, 2 _law_mixed, 3 _law_cell -/
def i_law_mix : FD := { np := 2, ns := 4, io := [false, false], body :=
   [.asg (.slot 2) (.use 1),
    .fors (.slot 3) .seq [(.use 0)]
      [.asg (.slot 2) (.op (.bin .Mod) [(.op (.bin .Add) [(.op (.bin .Add) [(.op (.bin .Mult) [(.var 2), (.cst (.int 48271))]), (.op (.bin .Mod) [(.var 3), (.cst (.int 2147483629))])]), (.cst (.int 1))]), (.cst (.int 2147483647))])],
    .ret (.lst [(.use 2), (.op (.fn .list) [(.var 0)]), (.cst (.int 0))])] }
/-- 0 _law_h, 1 _law_many, 2 _law_cell -/
def i_law_next : FD := { np := 2, ns := 3, io := [true, false], body :=
   [.asg (.slot 2) (.op .ix [(.op (.bin .Add) [(.op .ix [(.var 0), (.cst (.int 1))]), (.lst [(.cst (.int 0))])]), (.op (.bin .Mod) [(.op .ix [(.var 0), (.cst (.int 2))]), (.op (.fn .max) [(.cst (.int 1)), (.op (.fn .len) [(.op .ix [(.var 0), (.cst (.int 1))])])])])]),
    .ifs (.op (.cmp .GtE) [(.var 2), (.op (.bin .Pow) [(.cst (.int 10)), (.cst (.int 18))])])
      [.store 0 [(.cst (.int 1))] (.op (.bin .Mod) [(.op .ix [(.var 0), (.cst (.int 2))]), (.op (.fn .len) [(.op .ix [(.var 0), (.cst (.int 1))])])]) (.op (.bin .FloorDiv) [(.var 2), (.var 1)]),
      .ret (.op (.bin .Mod) [(.var 2), (.var 1)])]
      [],
    .store 0 [] (.cst (.int 0)) (.op (.bin .Mod) [(.op (.bin .Add) [(.op (.bin .Add) [(.op (.bin .Mult) [(.op .ix [(.var 0), (.cst (.int 0))]), (.cst (.int 48271))]), (.op (.bin .Mult) [(.var 2), (.cst (.int 69621))])]), (.cst (.int 11))]), (.cst (.int 2147483647))]),
    .store 0 [] (.cst (.int 2)) (.op (.bin .Add) [(.op .ix [(.var 0), (.cst (.int 2))]), (.cst (.int 1))]),
    .ret (.op (.bin .Mod) [(.op (.bin .FloorDiv) [(.op .ix [(.var 0), (.cst (.int 0))]), (.cst (.int 7))]), (.var 1)])] }
/-- 0 _law_found, 1 _law_due_here, 2 _law_k -/
def i_law_alike : FD := { np := 2, ns := 3, io := [false, false], body :=
   [.ifs (.op (.isi ["tuple", "list"]) [(.var 1)])
      [.ifs (.or (.not (.op (.isi ["tuple", "list"]) [(.var 0)])) (.op (.cmp .NotEq) [(.op (.isi ["list"]) [(.var 0)]), (.op (.isi ["list"]) [(.var 1)])]))
        [.ret (.cst (.bl false))]
        [],
      .ifs (.op (.cmp .NotEq) [(.op (.fn .len) [(.var 0)]), (.op (.fn .len) [(.var 1)])])
        [.ret (.cst (.bl false))]
        [],
      .ret (.op (.cmp .Eq) [(.lc (.use 2) (.slot 2) .rng [(.op (.fn .len) [(.var 1)])] [(.not (.call "_law_alike" [(.op .ix [(.var 0), (.var 2)]), (.op .ix [(.var 1), (.var 2)])]))] [2]), (.lst [])])]
      [],
    .ifs (.or (.op (.cmp .Is) [(.var 1), (.cst .non)]) (.op (.isi ["str"]) [(.var 1)]))
      [.ret (.and (.op (.cmp .Eq) [(.var 0), (.var 1)]) (.op (.cmp .Eq) [(.op (.isi ["str"]) [(.var 0)]), (.op (.isi ["str"]) [(.var 1)])]))]
      [],
    .ret (.and (.op (.isi ["int"]) [(.var 0)]) (.and (.op (.cmp .Eq) [(.op (.isi ["bool"]) [(.var 0)]), (.op (.isi ["bool"]) [(.var 1)])]) (.op (.cmp .Eq) [(.var 0), (.var 1)])))] }
/-- 0 _law_h, 1 _law_most, 2 _law_some, 3 _law_k -/
def i_law_signs : FD := { np := 2, ns := 4, io := [true, false], body :=
   [.asg (.slot 2) (.op .ix [(.lst [(.cst (.str [97, 98])), (.cst (.str [97, 98, 32, 99])), (.cst (.str [97, 98, 99, 100, 101, 102, 103, 104, 32, 126, 33]))]), (.call "_law_next" [(.lend 0), (.cst (.int 3))])]),
    .ret (.op (.mt (.join [])) [(.lc (.op .ix [(.var 2), (.call "_law_next" [(.lend 0), (.op (.fn .len) [(.var 2)])])]) (.slot 3) .rng [(.call "_law_next" [(.lend 0), (.op (.bin .Add) [(.var 1), (.cst (.int 1))])])] [] [3])])] }
/-- 0 _law_h, 1 _law_body, 2 _law_most, 3 _law_found, 4 _law_k, 5 _law_first, 6 _law_past, 7 _law_hand, 8 _law_layer -/
def i_law_marks : FD := { np := 3, ns := 9, io := [true, false, false], body :=
   [.asg (.slot 3) (.lst []),
    .fors (.slot 4) .rng [(.ifx (.op (.cmp .NotEq) [(.var 1), (.cst (.str []))]) (.call "_law_next" [(.lend 0), (.op (.bin .Add) [(.var 2), (.cst (.int 1))])]) (.cst (.int 0)))]
      [.asg (.slot 5) (.call "_law_next" [(.lend 0), (.op (.fn .len) [(.var 1)])]),
      .asg (.slot 6) (.op (.bin .Add) [(.op (.bin .Add) [(.var 5), (.cst (.int 1))]), (.call "_law_next" [(.lend 0), (.op (.fn .min) [(.op (.bin .Sub) [(.op (.fn .len) [(.var 1)]), (.var 5)]), (.op .ix [(.lst [(.cst (.int 3)), (.cst (.int 80))]), (.call "_law_next" [(.lend 0), (.cst (.int 2))])])])])]),
      .multi [7, 8] [(.op .ix [(.lst [(.cst (.str [97, 110, 110])), (.cst (.str [98, 111, 98])), (.cst (.str [99, 121]))]), (.call "_law_next" [(.lend 0), (.cst (.int 3))])]), (.op .ix [(.lst [(.cst (.str [112, 111, 115])), (.cst (.str [110, 101, 114]))]), (.call "_law_next" [(.lend 0), (.cst (.int 2))])])],
      .expr (.mut .append 3 [] [(.tup [(.use 7), (.use 8), (.use 5), (.use 6), (.op .ix [(.lst [(.cst (.str [110])), (.cst (.str [118])), (.cst (.str [97, 100, 106]))]), (.call "_law_next" [(.lend 0), (.cst (.int 3))])])])])],
    .ret (.take 3)] }
/-- 0 _law_word, 1 _law_good, 2 _law_sign -/
def i_law_is_number : FD := { np := 1, ns := 3, io := [false], body :=
   [.asg (.slot 1) (.lc (.use 2) (.slot 2) .seq [(.use 0)] [(.chain .LtE .LtE (.cst (.str [48])) (.var 2) (.cst (.str [57])))] [2]),
    .ret (.and (.chain .LtE .LtE (.cst (.int 1)) (.op (.fn .len) [(.var 0)]) (.cst (.int 2))) (.and (.op (.cmp .Eq) [(.op (.fn .len) [(.var 1)]), (.op (.fn .len) [(.var 0)])]) (.or (.op (.cmp .Eq) [(.var 0), (.cst (.str [48]))]) (.op (.cmp .NotEq) [(.op .ix [(.var 0), (.cst (.int 0))]), (.cst (.str [48]))]))))] }
/-- 0 _law_body, 1 _law_text, 2 _law_found, 3 _law_lines, 4 _law_k, 5 _law_words, 6 _law_bad, 7 _law_word, 8 _law_good, 9 _law_sign -/
def i_law_due : FD := { np := 2, ns := 10, io := [false, false], body :=
   [.asg (.slot 2) (.lst []),
    .asg (.slot 3) (.ifx (.op (.cmp .NotEq) [(.var 1), (.cst (.str []))]) (.op (.mt (.split [10])) [(.var 1)]) (.lst [])),
    .fors (.slot 4) .rng [(.op (.fn .len) [(.var 3)])]
      [.asg (.slot 5) (.op (.mt (.split [32])) [(.op .ix [(.var 3), (.var 4)])]),
      .ifs (.or (.op (.cmp .NotEq) [(.op (.fn .len) [(.var 5)]), (.cst (.int 5))]) (.or (.not (.call "_law_is_number" [(.op .ix [(.var 5), (.cst (.int 2))])])) (.not (.call "_law_is_number" [(.op .ix [(.var 5), (.cst (.int 3))])]))))
        [.ret (.tup [(.cst (.str [116, 101, 120, 116])), (.use 4)])]
        [],
      .expr (.mut .append 2 [] [(.tup [(.op .ix [(.var 5), (.cst (.int 0))]), (.op .ix [(.var 5), (.cst (.int 1))]), (.op (.fn .int) [(.op .ix [(.var 5), (.cst (.int 2))])]), (.op (.fn .int) [(.op .ix [(.var 5), (.cst (.int 3))])]), (.op .ix [(.var 5), (.cst (.int 4))])])])],
    .fors (.slot 4) .rng [(.op (.fn .len) [(.var 2)])]
      [.asg (.slot 6) (.lst []),
      .fors (.slot 7) .seq [(.tup [(.op .ix [(.op .ix [(.var 2), (.var 4)]), (.cst (.int 0))]), (.op .ix [(.op .ix [(.var 2), (.var 4)]), (.cst (.int 1))]), (.op .ix [(.op .ix [(.var 2), (.var 4)]), (.cst (.int 4))])])]
        [.asg (.slot 8) (.lc (.use 9) (.slot 9) .seq [(.use 7)] [(.chain .LtE .LtE (.cst (.str [97])) (.var 9) (.cst (.str [122])))] [9]),
        .ifs (.or (.not (.chain .LtE .LtE (.cst (.int 1)) (.op (.fn .len) [(.var 7)]) (.cst (.int 6)))) (.op (.cmp .Lt) [(.op (.fn .len) [(.var 8)]), (.op (.fn .len) [(.var 7)])]))
          [.expr (.mut .append 6 [] [(.use 7)])]
          []],
      .ifs (.or (.op (.cmp .Eq) [(.var 4), (.cst (.int 40))]) (.or (.op (.cmp .NotEq) [(.var 6), (.lst [])]) (.not (.chain .Lt .LtE (.op .ix [(.op .ix [(.var 2), (.var 4)]), (.cst (.int 2))]) (.op .ix [(.op .ix [(.var 2), (.var 4)]), (.cst (.int 3))]) (.op (.fn .len) [(.var 0)])))))
        [.ret (.tup [(.cst (.str [109, 97, 114, 107])), (.use 4)])]
        []],
    .ret (.tup [(.cst (.str [116, 111, 108, 100])), (.use 2)])] }
/-- 0 _law_script, 1 _law_h, 2 _law_odd, 3 _law_turn, 4 _law_body, 5 _law_rows, 6 _law_text, 7 _law_lines, 8 _law_at, 9 _law_bent, 10 _law_spot, 11 _law_other, 12 _law_one, 13 _law_found, 14 _law_kind_here, 15 _law_told, 16 _law_mark, 17 _law_part -/
def i_law : FD := { np := 1, ns := 18, io := [false], body :=
   [.asg (.slot 1) (.call "_law_mix" [(.use 0), (.cst (.int 79))]),
    .asg (.slot 2) (.lst [(.cst (.str [])), (.cst (.str [97, 32, 98, 32, 48, 32, 49])), (.cst (.str [97, 32, 98, 32, 48, 32, 49, 32, 99, 32, 100])), (.cst (.str [97, 32, 98, 32, 48, 48, 32, 49, 32, 99])), (.cst (.str [97, 32, 98, 32, 48, 32, 49, 48, 48, 32, 99])), (.cst (.str [97, 32, 98, 32, 48, 32, 32, 49, 32, 99])), (.cst (.str [97, 32, 98, 32, 120, 32, 49, 32, 99])), (.cst (.str [97, 32, 98, 32, 48, 32, 45, 49, 32, 99])), (.cst (.str [65, 32, 98, 32, 48, 32, 49, 32, 99]))]),
    .asg (.slot 2) (.op (.bin .Add) [(.var 2), (.lst [(.cst (.str [97, 32, 98, 32, 48, 32, 48, 32, 99])), (.cst (.str [97, 98, 99, 100, 101, 102, 103, 32, 98, 32, 48, 32, 49, 32, 99])), (.cst (.str [97, 32, 98, 32, 48, 32, 49, 32])), (.cst (.str [32, 98, 32, 48, 32, 49, 32, 99])), (.cst (.str [97, 32, 98, 32, 48, 32, 56, 49, 32, 99]))])]),
    .fors (.slot 3) .rng [(.cst (.int 6))]
      [.asg (.slot 4) (.op (.bin .Add) [(.cst (.str [120])), (.call "_law_signs" [(.lend 1), (.cst (.int 60))])]),
      .asg (.slot 5) (.call "_law_marks" [(.lend 1), (.use 4), (.cst (.int 12))]),
      .asg (.slot 6) (.op (.mt (.join [10])) [(.lc (.op (.mt (.join [32])) [(.lc (.op (.fn .str) [(.var 17)]) (.slot 17) .seq [(.use 16)] [] [17])]) (.slot 16) .seq [(.use 5)] [] [16])]),
      .ifs (.not (.call "_law_alike" [(.call "read" [(.use 4), (.use 6)]), (.use 5)]))
        [.ret (.cst (.bl false))]
        [],
      .ifs (.op (.cmp .NotEq) [(.lst [(.call "written" [(.use 4), (.use 5)]), (.call "written" [(.use 4), (.op (.fn .tuple) [(.var 5)])])]), (.op (.bin .Mult) [(.lst [(.use 6)]), (.cst (.int 2))])])
        [.ret (.cst (.bl false))]
        [],
      .asg (.slot 7) (.ifx (.op (.cmp .NotEq) [(.var 5), (.lst [])]) (.op (.mt (.split [10])) [(.var 6)]) (.lst [])),
      .asg (.slot 8) (.call "_law_next" [(.lend 1), (.op (.bin .Add) [(.op (.fn .len) [(.var 7)]), (.cst (.int 1))])]),
      .asg (.slot 9) (.op (.mt (.join [10])) [(.op (.bin .Add) [(.op (.bin .Add) [(.op (.sl false true) [(.var 7), (.var 8)]), (.lst [(.op .ix [(.var 2), (.call "_law_next" [(.lend 1), (.cst (.int 14))])])])]), (.op (.sl true false) [(.var 7), (.var 8)])])]),
      .asg (.slot 10) (.call "_law_next" [(.lend 1), (.op (.bin .Add) [(.op (.fn .len) [(.var 6)]), (.cst (.int 1))])]),
      .asg (.slot 11) (.op (.bin .Add) [(.op (.bin .Add) [(.op (.sl false true) [(.var 6), (.var 10)]), (.op .ix [(.cst (.str [97, 48, 32, 57, 10, 90])), (.call "_law_next" [(.lend 1), (.cst (.int 6))])])]), (.op (.sl true false) [(.var 6), (.op (.bin .Add) [(.var 10), (.call "_law_next" [(.lend 1), (.cst (.int 2))])])])]),
      .fors (.slot 12) .seq [(.tup [(.use 9), (.use 11), (.op (.bin .Add) [(.var 6), (.cst (.str [10]))]), (.use 6)])]
        [.asg (.slot 13) (.lst []),
        .asg (.slot 14) (.kind (.mut .append 13 [] [(.call "read" [(.use 4), (.use 12)])])),
        .asg (.slot 15) (.ifx (.op (.cmp .Eq) [(.var 14), (.tup [(.cst (.str [])), (.cst (.int 0))])]) (.tup [(.cst (.str [116, 111, 108, 100])), (.op .ix [(.var 13), (.cst (.int 0))])]) (.use 14)),
        .ifs (.not (.call "_law_alike" [(.use 15), (.call "_law_due" [(.use 4), (.use 12)])]))
          [.ret (.cst (.bl false))]
          []]],
    .ret (.cst (.bl true))] }
def exL : List (Str × List Str) := [("BadMark", ["number"]), ("BadSigns", ["at"]), ("BadText", ["row"])]
instance (priority := high) myXs : Xs := { exs := fun c => exL.lookup c, kd := true }
def topS (i : Nat) : Stmt := PySem.Challenge.pw_marksheaf_k21_marks_written_and_read.main.body.getD i (.Pass ⟨0, 0, 0, 0⟩)
def d_need_signs : DefT := ⟨topS 15, ["signs", "at", "sign"], i_need_signs, false⟩
def d_is_name : DefT := ⟨topS 20, ["word", "sign"], i_is_name, false⟩
def d_need_marks : DefT := ⟨topS 21, ["signs", "some", "number", "mark", "hand", "layer", "first", "past", "word", "one"], i_need_marks, false⟩
def d_written : DefT := ⟨topS 24, ["signs", "some", "mark", "part"], i_written, false⟩
def d_is_number : DefT := ⟨topS 25, ["word"], i_is_number, false⟩
def d_read : DefT := ⟨topS 26, ["signs", "text", "found", "row", "line", "words", "word"], i_read, false⟩
def d_law_mix : DefT := ⟨topS 28, ["_law_script", "_law_seed", "_law_mixed", "_law_cell"], i_law_mix, false⟩
def d_law_next : DefT := ⟨topS 29, ["_law_h", "_law_many", "_law_cell"], i_law_next, false⟩
def d_law_alike : DefT := ⟨topS 30, ["_law_found", "_law_due_here", "_law_k"], i_law_alike, false⟩
def d_law_signs : DefT := ⟨topS 31, ["_law_h", "_law_most", "_law_some", "_law_k"], i_law_signs, false⟩
def d_law_marks : DefT := ⟨topS 33, ["_law_h", "_law_body", "_law_most", "_law_found", "_law_k", "_law_first", "_law_past", "_law_hand", "_law_layer"], i_law_marks, false⟩
def d_law_is_number : DefT := ⟨topS 35, ["_law_word", "_law_good", "_law_sign"], i_law_is_number, false⟩
def d_law_due : DefT := ⟨topS 36, ["_law_body", "_law_text", "_law_found", "_law_lines", "_law_k", "_law_words", "_law_bad", "_law_word", "_law_good", "_law_sign"], i_law_due, false⟩
def d_law : DefT := ⟨topS 37, ["_law_script", "_law_h", "_law_odd", "_law_turn", "_law_body", "_law_rows", "_law_text", "_law_lines", "_law_at", "_law_bent", "_law_spot", "_law_other", "_law_one", "_law_found", "_law_kind_here", "_law_told", "_law_mark", "_law_part"], i_law, true⟩
def tbl : Tbl := [("need_signs", d_need_signs), ("is_name", d_is_name), ("need_marks", d_need_marks), ("written", d_written), ("is_number", d_is_number), ("read", d_read), ("_law_mix", d_law_mix), ("_law_next", d_law_next), ("_law_alike", d_law_alike), ("_law_signs", d_law_signs), ("_law_marks", d_law_marks), ("_law_is_number", d_law_is_number), ("_law_due", d_law_due), ("law", d_law)]
def consts : List (Str × GV) := [("MOST_SIGNS", .int (80)), ("MOST_MARKS", .int (40)), ("MOST_NAME", .int (6)), ("LETTERS", .str [97, 98, 99, 100, 101, 102, 103, 104, 105, 106, 107, 108, 109, 110, 111, 112, 113, 114, 115, 116, 117, 118, 119, 120, 121, 122]), ("FIGURES", .str [48, 49, 50, 51, 52, 53, 54, 55, 56, 57])]
def gl : Str → D → Bool := glB consts
def kq : Nat → Pos := fun i => kqL.getD i ⟨0, 0, 0, 0⟩
theorem kqB : defBody (topS 34) = kindBody kq := rfl
theorem kqN : (defScope (topS 34)).names = kNames := rfl
end Lk21

open PySem L2 VI
local macro_rules | `(tactic| decreasing_trivial_pre_omega) => `(tactic| (repeat' (first
  | ((with_reducible refine WXi ?_); first
    | with_reducible refine X_for ?_
    | ((with_reducible refine X_step ?_); dsimp only [band_t, band_f, bor_t, bor_f, bnot_t, bnot_f, wpS, wpK, wpE, wpR, wpC, wpA, getP, inR, tgP_s, tgP_t, tgP_l, tgP_m, tgP_cut, tgP_put, tgPs_n, tgPs_c, pAll, purP, fewP, brB_t, brB_f, brF_t, brF_f, truP_bl, truP_non, truP_int, truP_str, truP_lst, truP_tup, blP_bl, isLT_l, isLs_l, isDT_d, isDs_d, isDs_t, isTT_t, isIn_i, flat2P_i, flat2P_s, wOp, fetchP, nshares, shares, sharesL, quiet, quietL, varOf, lendOf, List.set_cons_zero, List.set_cons_succ, wipeD, useP_non, useP_bl, useP_int, useP_str, useP_scr, pur1_non, pur1_bl, pur1_int, pur1_str, cnd_f, cnd_t, nsh_f])
    | ((with_reducible refine X_nil ?_); try dsimp only)
    | with_reducible refine X_store ?_
    | fail)
  | ((with_reducible refine WRi ?_); first
    | with_reducible refine W_lc ?_
    | with_reducible refine W_disp ?_
    | with_reducible refine W_chain3 ?_
    | ((with_reducible refine W_step ?_); dsimp only [band_t, band_f, bor_t, bor_f, bnot_t, bnot_f, wpS, wpK, wpE, wpR, wpC, wpA, getP, inR, tgP_s, tgP_t, tgP_l, tgP_m, tgP_cut, tgP_put, tgPs_n, tgPs_c, pAll, purP, fewP, brB_t, brB_f, brF_t, brF_f, truP_bl, truP_non, truP_int, truP_str, truP_lst, truP_tup, blP_bl, isLT_l, isLs_l, isDT_d, isDs_d, isDs_t, isTT_t, isIn_i, flat2P_i, flat2P_s, wOp, fetchP, nshares, shares, sharesL, quiet, quietL, varOf, lendOf, List.set_cons_zero, List.set_cons_succ, wipeD, useP_non, useP_bl, useP_int, useP_str, useP_scr, pur1_non, pur1_bl, pur1_int, pur1_str, cnd_f, cnd_t, nsh_f])
    | ((with_reducible refine W_stepC ?_); dsimp only [band_t, band_f, bor_t, bor_f, bnot_t, bnot_f, wpS, wpK, wpE, wpR, wpC, wpA, getP, inR, tgP_s, tgP_t, tgP_l, tgP_m, tgP_cut, tgP_put, tgPs_n, tgPs_c, pAll, purP, fewP, brB_t, brB_f, brF_t, brF_f, truP_bl, truP_non, truP_int, truP_str, truP_lst, truP_tup, blP_bl, isLT_l, isLs_l, isDT_d, isDs_d, isDs_t, isTT_t, isIn_i, flat2P_i, flat2P_s, wOp, fetchP, nshares, shares, sharesL, quiet, quietL, varOf, lendOf, List.set_cons_zero, List.set_cons_succ, wipeD, useP_non, useP_bl, useP_int, useP_str, useP_scr, pur1_non, pur1_bl, pur1_int, pur1_str, cnd_f, cnd_t, nsh_f])
    | ((with_reducible refine W_stepR ?_); dsimp only [band_t, band_f, bor_t, bor_f, bnot_t, bnot_f, wpS, wpK, wpE, wpR, wpC, wpA, getP, inR, tgP_s, tgP_t, tgP_l, tgP_m, tgP_cut, tgP_put, tgPs_n, tgPs_c, pAll, purP, fewP, brB_t, brB_f, brF_t, brF_f, truP_bl, truP_non, truP_int, truP_str, truP_lst, truP_tup, blP_bl, isLT_l, isLs_l, isDT_d, isDs_d, isDs_t, isTT_t, isIn_i, flat2P_i, flat2P_s, wOp, fetchP, nshares, shares, sharesL, quiet, quietL, varOf, lendOf, List.set_cons_zero, List.set_cons_succ, wipeD, useP_non, useP_bl, useP_int, useP_str, useP_scr, pur1_non, pur1_bl, pur1_int, pur1_str, cnd_f, cnd_t, nsh_f])
    | ((with_reducible refine W_stepA ?_); dsimp only [band_t, band_f, bor_t, bor_f, bnot_t, bnot_f, wpS, wpK, wpE, wpR, wpC, wpA, getP, inR, tgP_s, tgP_t, tgP_l, tgP_m, tgP_cut, tgP_put, tgPs_n, tgPs_c, pAll, purP, fewP, brB_t, brB_f, brF_t, brF_f, truP_bl, truP_non, truP_int, truP_str, truP_lst, truP_tup, blP_bl, isLT_l, isLs_l, isDT_d, isDs_d, isDs_t, isTT_t, isIn_i, flat2P_i, flat2P_s, wOp, fetchP, nshares, shares, sharesL, quiet, quietL, varOf, lendOf, List.set_cons_zero, List.set_cons_succ, wipeD, useP_non, useP_bl, useP_int, useP_str, useP_scr, pur1_non, pur1_bl, pur1_int, pur1_str, cnd_f, cnd_t, nsh_f])
    | fail)
  | ((with_reducible refine Stop.mk ?_); with_reducible first
    | refine W_lc ?_
    | refine W_disp ?_
    | refine W_chain3 ?_
    | refine W_dc ?_
    | refine W_dc2 ?_
    | fail)
  | with_reducible refine fldP_b ?_
  | with_reducible refine fldP_m ?_
  | ((with_reducible refine fldP_s ?_ ?_); (focus ((first | with_reducible assumption | with_reducible exact pure_marks _ | with_reducible exact pure_mkS _); done)))
  | ((with_reducible refine noM_f ?_ ?_); (focus (rfl; done)))
  | ((with_reducible refine noM_l ?_ ?_); (focus (rfl; done)))
  | with_reducible refine useP_st ?_
  | dsimp only [band_t, band_f, bor_t, bor_f, bnot_t, bnot_f, wpS, wpK, wpE, wpR, wpC, wpA, getP, inR, tgP_s, tgP_t, tgP_l, tgP_m, tgP_cut, tgP_put, tgPs_n, tgPs_c, pAll, purP, fewP, brB_t, brB_f, brF_t, brF_f, truP_bl, truP_non, truP_int, truP_str, truP_lst, truP_tup, blP_bl, isLT_l, isLs_l, isDT_d, isDs_d, isDs_t, isTT_t, isIn_i, flat2P_i, flat2P_s, wOp, fetchP, nshares, shares, sharesL, quiet, quietL, varOf, lendOf, List.set_cons_zero, List.set_cons_succ, wipeD, useP_non, useP_bl, useP_int, useP_str, useP_scr, pur1_non, pur1_bl, pur1_int, pur1_str, cnd_f, cnd_t, nsh_f]
  | ((with_reducible refine OPi ?_); with_reducible first
    | refine OP_addI ?_
    | refine OP_subI ?_
    | refine OP_neg ?_
    | refine OP_lt ?_
    | refine OP_le ?_
    | refine OP_gt ?_
    | refine OP_ge ?_
    | refine OP_eqI ?_
    | refine OP_neI ?_
    | refine OP_eqS ?_
    | refine OP_neS ?_
    | refine OP_isN ?_
    | refine OP_notN ?_
    | refine OP_lenL ?_
    | refine OP_lenT ?_
    | refine OP_max2 ?_
    | refine OP_min2 ?_
    | refine OP_of ?_)
  | ((with_reducible refine WOi ?_); first
    | ((with_reducible refine O_lenS ?_ ?_); (focus ((first | with_reducible assumption | omega | (simp [lim] <;> omega)); done)))
    | ((with_reducible refine O_mulR ?_ ?_); (focus ((decide); done)))
    | ((with_reducible refine O_divW ?_ ?_); (focus ((first | with_reducible assumption | omega); done)))
    | ((with_reducible refine O_mulI ?_ ?_); (focus ((first | with_reducible assumption | omega); done)))
    | with_reducible refine O_neTold ?_ | ((with_reducible refine O_nset ?_ ?_); (focus ((first | with_reducible assumption | omega); done)))
    | with_reducible refine O_cnt ?_ | with_reducible refine O_sumN ?_ | ((with_reducible refine O_ssetS ?_ ?_ ?_); (focus ((first | with_reducible assumption | omega); done)); (focus ((first | with_reducible assumption | omega); done)))
    | ((with_reducible refine O_mod ?_ ?_); (focus ((first | with_reducible assumption | omega | (simp [lim] <;> omega)); done)))
    | ((with_reducible refine O_div ?_ ?_); (focus ((first | with_reducible assumption | omega | (simp [lim] <;> omega)); done)))
    | ((with_reducible refine O_slToS2 ?_ ?_); (focus ((first | with_reducible assumption | omega | (simp [lim] <;> omega)); done)))
    | ((with_reducible refine O_slFromS2 ?_ ?_); (focus ((first | with_reducible assumption | omega | (simp [lim] <;> omega)); done)))
    | ((with_reducible refine O_slMidS2 ?_ ?_ ?_); (focus ((first | with_reducible assumption | omega | (simp [lim] <;> omega)); done)); (focus ((first | with_reducible assumption | omega); done)))
    | ((with_reducible refine O_slToS ?_ ?_); (focus ((first | with_reducible assumption | omega | (simp [lim] <;> omega)); done)))
    | ((with_reducible refine O_slFromS ?_ ?_); (focus ((first | with_reducible assumption | omega | (simp [lim] <;> omega)); done)))
    | ((with_reducible refine O_addS ?_ ?_); (focus ((first | with_reducible assumption | omega | (simp [lim] <;> omega)); done)))
    | ((with_reducible refine O_addL ?_ ?_ ?_ ?_); (focus ((simp only [pure_es, pure_ms, pure_os]); done)); (focus ((simp only [pure_es, pure_ms, pure_os]); done)); (focus ((simp [lim, invs_len] <;> omega); done)))
    | ((with_reducible refine O_addL ?_ ?_ ?_ ?_); (focus ((simp [pureL, D.pure, pure_ints, pure_es, pure_ms]); done)); (focus ((simp [pureL, D.pure, pure_ints, pure_es, pure_ms]); done)); (focus ((simp [lim, invs_len] <;> omega); done)))
    | ((with_reducible refine O_mulN ?_ ?_); (focus ((simp; omega); done)))
    | ((with_reducible refine O_mulZ ?_ ?_); (focus ((first | omega | (simp; omega)); done)))
    | ((with_reducible refine O_mulS ?_ ?_); (focus ((first | omega | (simp; omega)); done)))
    | with_reducible refine O_tupE ?_ | with_reducible refine O_listE ?_ | with_reducible refine O_slToE ?_ | with_reducible refine O_slFromE ?_ | with_reducible refine O_neE ?_
    | ((with_reducible refine O_ixTab ?_ ?_); (focus ((omega); done))) | ((with_reducible refine O_ixTab1 ?_ ?_); (focus ((omega); done))) | ((with_reducible refine O_ixRow ?_ ?_); (focus ((omega); done))) | ((with_reducible refine O_ixRow1 ?_ ?_); (focus ((omega); done))) | ((with_reducible refine O_mul0 ?_ ?_); (focus ((omega); done))) | ((with_reducible refine O_ixRM ?_ ?_); (focus ((omega); done))) | ((with_reducible refine O_ixRM1 ?_ ?_); (focus ((omega); done))) | ((with_reducible refine O_lrng1 ?_ ?_); (focus ((omega); done)))
    | with_reducible refine O_ixS (by simp [lim] <;> omega) (by with_reducible assumption) ?_
    | with_reducible refine O_ixL (by with_reducible assumption) ?_
    | ((with_reducible refine gDget ?_); refine O_dget (by first | with_reducible assumption | rfl) (by first | rfl | with_reducible assumption) ?_)
    | ((with_reducible refine gDict ?_); refine O_dictP (by first | rfl | with_reducible assumption) (by first | decide | (simp [lim]; omega)) ?_)
    | with_reducible refine O_ixT (by with_reducible assumption) ?_
    | with_reducible refine ON_to ?_ | with_reducible refine ON_from ?_ | with_reducible refine ON_from2 ?_ | ((with_reducible refine ON_mid2 ?_ ?_); (focus ((omega); done))) | with_reducible refine ON_rev ?_ | with_reducible refine ON_neE ?_ | ((with_reducible refine ON_add ?_ ?_); (focus ((omega); done)))
    | with_reducible refine O_eqN ?_ | with_reducible refine O_eqN0 ?_ | with_reducible refine O_inI ?_ | ((with_reducible refine O_lrng2 ?_ ?_ ?_); (focus ((omega); done)); (focus ((omega); done))) | with_reducible refine O_notInP ?_ | with_reducible refine O_notInI ?_ | with_reducible refine O_sl24 ?_ | with_reducible refine O_lenQ ?_ | with_reducible refine O_eqP ?_ | with_reducible refine O_inNon ?_ | with_reducible refine O_neG ?_ | with_reducible refine O_allT ?_ | with_reducible refine O_neM ?_
    | ((with_reducible refine O_tupP ?_ ?_); (focus (first | with_reducible with_reducible assumption | with_reducible exact pure_es _ | with_reducible exact pure_ms _ | with_reducible exact pure_os _ | with_reducible exact pure_nats _ | with_reducible exact pure_prs _ | with_reducible exact pure_stP _))) | ((with_reducible refine O_listP ?_ ?_); (focus (first | with_reducible with_reducible assumption | with_reducible exact pure_es _ | with_reducible exact pure_ms _ | with_reducible exact pure_os _ | with_reducible exact pure_nats _ | with_reducible exact pure_prs _ | with_reducible exact pure_stP _))) | ((with_reducible refine O_slToL ?_ ?_); (focus (first | with_reducible with_reducible assumption | with_reducible exact pure_es _ | with_reducible exact pure_ms _ | with_reducible exact pure_os _ | with_reducible exact pure_nats _ | with_reducible exact pure_prs _ | with_reducible exact pure_stP _))) | ((with_reducible refine O_slFromL ?_ ?_); (focus (first | with_reducible with_reducible assumption | with_reducible exact pure_es _ | with_reducible exact pure_ms _ | with_reducible exact pure_os _ | with_reducible exact pure_nats _ | with_reducible exact pure_prs _ | with_reducible exact pure_stP _)))
    | ((fail_if_success (with_reducible refine gLrng ?_)); (fail_if_success (with_reducible refine gMulI ?_)); (fail_if_success (with_reducible refine gDivI ?_)); refine O_any rfl ?_)
    | fail)
  | ((with_reducible refine useP_L ?_ ?_); (focus ((first | with_reducible assumption | rfl | with_reducible exact pure_es _ | with_reducible exact pure_ms _ | with_reducible exact pure_os _ | with_reducible exact pure_nats _ | with_reducible exact pure_prs _ | with_reducible exact pure_stP _ | with_reducible exact pure_strD _ | (simp [pureL, D.pure, pure_ints, pure_mk]; done)); done)))
  | ((with_reducible refine fzP_L ?_ ?_); (focus ((first | with_reducible assumption | rfl | with_reducible exact pure_es _ | with_reducible exact pure_ms _ | with_reducible exact pure_os _ | with_reducible exact pure_nats _ | with_reducible exact pure_prs _ | with_reducible exact pure_stP _ | with_reducible exact pure_strD _ | (simp [pureL, D.pure, pure_ints, pure_mk]; done)); done)))
  | ((with_reducible refine useP_T ?_ ?_); (focus ((first | with_reducible assumption | rfl | with_reducible exact pure_es _ | with_reducible exact pure_ms _ | with_reducible exact pure_os _ | with_reducible exact pure_nats _ | with_reducible exact pure_prs _ | with_reducible exact pure_stP _ | with_reducible exact pure_strD _ | (simp [pureL, D.pure, pure_ints, pure_mk]; done)); done)))
  | ((with_reducible refine useP_Q ?_ ?_); (focus ((first | with_reducible assumption | rfl | with_reducible exact pure_es _ | with_reducible exact pure_ms _ | with_reducible exact pure_os _ | with_reducible exact pure_nats _); done)))
  | ((with_reducible refine pur1_of ?_ ?_); (focus ((first | with_reducible assumption | rfl | with_reducible exact pure_oZ _ | (simp [pureL, D.pure, pure_es, pure_ints, pure_strs, pure_mk, pure_oD, pure_tD, pure_ms, pure_os, pure_ed]; done)); done)))
  | ((with_reducible refine useP_P ?_ ?_); (focus ((first | with_reducible assumption | with_reducible exact pure_mk _ | with_reducible exact pure_ed _ | with_reducible exact pure_oD _ | with_reducible exact pure_tD _ | with_reducible exact pure_pD _ | with_reducible exact pure_prZ _ | with_reducible exact pure_oZ _); done)))
  | with_reducible refine brB_of ?_
  | with_reducible refine brF_of ?_
  | with_reducible first
    | refine cmpP_lt ?_
    | refine cmpP_le ?_
    | refine cmpP_gt ?_
    | refine cmpP_ge ?_
    | refine cmpP_of ?_
    | refine binP_addI ?_
    | refine binP_subI ?_
    | refine binP_of ?_
  | with_reducible refine I_st ?_
  | ((with_reducible refine gEx ?_); first
    | ((with_reducible refine ex_dput ?_ ?_); (focus ((first | decide | (simp [lim]; omega)); done)))
    | ((with_reducible refine ex_dup ?_ ?_ ?_); (focus ((first | rfl | with_reducible assumption); done)); (focus ((first | decide | (simp [lim]; omega)); done)))
    | ((with_reducible refine I_app ?_ ?_); (focus ((simp [lim] <;> omega); done)))
    | with_reducible refine I_ext (pure_es _) (by simp [lim] <;> omega) ?_
    | ((with_reducible refine I_rng2 ?_ ?_ ?_); (focus ((first | omega | (simp; omega) | fail); done)); (focus ((first | omega | (simp; omega) | fail); done)))
    | ((with_reducible refine I_rng1n ?_ ?_); (focus ((first | omega | (simp; omega) | fail); done)))
    | ((with_reducible refine I_rngAB ?_ ?_ ?_); (focus ((first | omega | (simp; omega) | fail); done)); (focus ((first | omega | (simp; omega) | fail); done)))
    | ((with_reducible refine I_rng1 ?_ ?_); (focus ((first | omega | (simp; omega) | fail); done))) | ((with_reducible refine I_rngD ?_ ?_); (focus ((omega); done)))
    | ((with_reducible refine I_rng ?_ ?_); (focus ((first | omega | (simp; omega) | fail); done))) | with_reducible refine I_rngC rfl ?_
    | refine ⟨_, rfl, ?_⟩ | refine ⟨_, _, rfl, ?_⟩
    | refine ⟨_, _, tab_set (by omega) (by omega), ?_⟩
    | fail)
  | ((with_reducible refine gEq ?_); first
    | refine ⟨rfl, ?_⟩
    | ((with_reducible refine and_bt ?_ ?_); (focus ((first | decide | (simp [lim, pureL, D.pure, pure_es, pure_ints, pure_strs, pure_mk, pure_oD, pure_tD, pure_ms, pure_os, pure_ed, shares, sharesL, quiet, quietL] <;> omega) | fail); done)))
    | refine and_bt (tab_path (by omega)) ?_
    | fail)
  | ((with_reducible refine gBr ?_); first
    | refine ⟨fun _ => ?_, fun z => (by first | (cases z; done) | (simp [lt1p] at z; done) | (simp [lt1p] at z; omega))⟩
    | refine ⟨fun z => (by first | (cases z; done) | (simp [lt1p] at z; done) | (simp [lt1p] at z; omega)), fun _ => ?_⟩
    | fail)
  | ((with_reducible refine and_le ?_ ?_); (focus ((simp [lim] <;> omega); done)))
  | ((with_reducible refine gR ?_); with_reducible rfl)
  | fail)))

namespace Lk21
open PySem L2 VI
abbrev cl (n : Nat) : CallT := run tbl.fds n
def hD (m : Int) (cs : List Int) (k : Int) : D := .lst true [.int m, .lst true (cs.map .int), .int k]
def G (h : D) : Prop := ∃ m cs k, h = hD m cs k ∧ cs.length ≤ 63
theorem lim64 {n : Nat} (h : n ≤ 63) : n + 1 ≤ lim := by unfold lim; omega
set_option maxHeartbeats 1000000 in
theorem next_ok (n : Nat) (h : D) (many : Int) (g : G h) (h1 : 1 ≤ many) (h2 : many < 1073741824) : ∃ r h', cl (n + 1) "_law_next" [h, .int many] = .ok (.int r) [some h', none] ∧ 0 ≤ r ∧ r < many ∧ G h' := by
  have main : ∃ d outs, cl (n + 1) "_law_next" [h, .int many] = .ok d outs ∧ ∃ r h', d = .int r ∧ outs = [some h', none] ∧ 0 ≤ r ∧ r < many ∧ G h' := by
    obtain ⟨m, cs, k, rfl, hl⟩ := g
    refine F_run (fd := i_law_next) rfl rfl ?_
    show WX (exs (run tbl.fds n) i_law_next.body [some (hD m cs k), some (.int many), none]) _
    unfold i_law_next hD
    have hmp : (0 : Int) < many := by omega
    decreasing_trivial_pre_omega
    -- the cell
    have hL : (0 : Int) < (if ((cs.map D.int).length : Int) > 1 then ((cs.map D.int).length : Int) else 1) := by split <;> omega
    generalize hM : (if ((cs.map D.int).length : Int) > 1 then ((cs.map D.int).length : Int) else 1) = M at hL ⊢
    obtain ⟨j, hj⟩ : ∃ j : Nat, k % M = (j : Int) := ⟨(k % M).toNat, by have := Int.emod_nonneg k (show M ≠ 0 by omega); omega⟩
    have hjM : (j : Int) < M := by rw [← hj]; exact Int.emod_lt_of_pos k hL
    have hjl : j < cs.length + 1 := by rw [List.length_map] at hM; split at hM <;> omega
    have hat : atI (cs.map D.int ++ [.int 0]) (j : Int) = some (.int ((cs ++ [0])[j]'(by simpa using hjl))) := by
      rw [atD_nat (by simpa using hjl)]
      have : cs.map D.int ++ [D.int 0] = (cs ++ [0]).map D.int := by simp
      rw [this, List.getElem?_map, List.getElem?_eq_getElem (by simpa using hjl)]; rfl
    rw [hj]
    generalize (cs ++ [0])[j]'(by simpa using hjl) = c at hat
    try refine O_ixL hat ?_
    decreasing_trivial_pre_omega
    refine ⟨fun ht => ?_, fun ht => ?_⟩
    · have hc : 10 ^ 18 ≤ c := of_decide_eq_true ht
      have hjc : j < cs.length := by
        rcases Nat.lt_or_ge j cs.length with h | h
        · exact h
        · have : j = cs.length := by omega
          subst this
          rw [atD_nat (by simp)] at hat
          simp at hat
          omega
      have hM2 : ((cs.map D.int).length : Int) = M := by rw [List.length_map] at hM ⊢; split at hM <;> omega
      have hL2 : (0 : Int) < ((cs.map D.int).length : Int) := by omega
      decreasing_trivial_pre_omega
      rw [hM2, hj]
      refine ⟨hD m (cs.set j (c / many)) k, .non, ?_, ?_⟩
      · have : setAt (cs.map D.int) (j : Int) (.int (c / many)) = some ((cs.map D.int).set j (.int (c / many))) := by
          unfold setAt; rw [ixN_nat (by simpa using hjc)]; rfl
        show ((some (D.lst true (cs.map .int))).bind fun x => (setO (j : Int) (.int (c / many)) x).bind fun p => (setAt [.int m, .lst true (cs.map .int), .int k] 1 p.1).map fun ys => (D.lst true ys, p.2)) = _
        simp only [Option.bind_some, setO, this, Option.map_some]
        rw [← List.map_set]; rfl
      · decreasing_trivial_pre_omega
        exact ⟨_, _, rfl, rfl, Int.emod_nonneg _ (by omega), Int.emod_lt_of_pos _ hmp, _, _, _, rfl, by simpa using hl⟩
    · decreasing_trivial_pre_omega
      exact ⟨_, _, rfl, rfl, Int.emod_nonneg _ (by omega), Int.emod_lt_of_pos _ hmp, _, _, _, rfl, hl⟩
  obtain ⟨d, outs, e, r, h', rfl, rfl, q⟩ := main
  exact ⟨r, h', e, q⟩
end Lk21

namespace Lk21
open PySem L2 VI
def NextOk (call : CallT) : Prop := ∀ h many, G h → 1 ≤ many → many < 1073741824 → ∃ (r : Nat) (h' : D), call "_law_next" [h, .int many] = .ok (.int (r : Int)) [some h', none] ∧ (r : Int) < many ∧ G h'
theorem nextOk (n : Nat) : NextOk (cl (n + 1)) := fun h many g h1 h2 => by
  obtain ⟨r, h', e, r0, r1, g'⟩ := next_ok n h many g h1 h2
  refine ⟨r.toNat, h', ?_, by omega, g'⟩
  rw [Int.toNat_of_nonneg r0]; exact e
theorem mix_ok (n : Nat) (ns : List Int) (seed : Int) (hl : ns.length ≤ 63) : ∃ h outs, cl (n + 1) "_law_mix" [.scr ns, .int seed] = .ok h outs ∧ outs = [none, none] ∧ G h := by
  refine F_run (fd := i_law_mix) rfl rfl ?_
  show WX (exs (run tbl.fds n) i_law_mix.body [some (.scr ns), some (.int seed), none, none]) _
  generalize run tbl.fds n = call
  unfold i_law_mix
  decreasing_trivial_pre_omega
  decreasing_trivial_pre_omega
  refine ⟨fun _ ρ => ∃ m x, ρ = [some (.scr ns), some (.int seed), some (.int m), x], ⟨_, _, rfl⟩, ?_, ?_⟩
  · rintro i x ρ hx ⟨m, y, rfl⟩
    obtain ⟨v, rfl⟩ : ∃ v, x = .int v := by
      rw [List.getElem?_map] at hx
      cases h : ns[i]? with
      | none => rw [h] at hx; cases hx
      | some v => rw [h] at hx; cases hx; exact ⟨v, rfl⟩
    refine ⟨_, rfl, ?_⟩
    decreasing_trivial_pre_omega
    first | exact ⟨_, _, rfl⟩ | exact ⟨_, rfl⟩
  · rintro ρ ⟨m, y, rfl⟩
    decreasing_trivial_pre_omega
    first | exact ⟨_, _, _, rfl, hl⟩ | exact ⟨rfl, _, _, _, rfl, hl⟩ | exact ⟨_, rfl, hl⟩
def SignsOk (call : CallT) : Prop := ∀ h (most : Nat), G h → most ≤ 80 → ∃ (s : List Nat) (h' : D), call "_law_signs" [h, .int (most : Int)] = .ok (.str s) [some h', none] ∧ s.length ≤ most ∧ gd s ∧ G h'
set_option maxHeartbeats 1000000 in
theorem signsOk {n : Nat} (hn : NextOk (cl n)) : SignsOk (cl (n + 1)) := fun h most g hm => by
  have main : ∃ d outs, cl (n + 1) "_law_signs" [h, .int (most : Int)] = .ok d outs ∧ ∃ s h', d = .str s ∧ outs = [some h', none] ∧ s.length ≤ most ∧ gd s ∧ G h' := by
    refine F_run (fd := i_law_signs) rfl rfl ?_
    show WX (exs (run tbl.fds n) i_law_signs.body [some h, some (.int (most : Int)), none, none]) _
    unfold cl at hn
    generalize run tbl.fds n = call at hn ⊢
    unfold i_law_signs
    decreasing_trivial_pre_omega
    obtain ⟨r, h1, e1, r1, g1⟩ := hn h 3 g (by decide) (by decide)
    refine ⟨_, _, e1, ?_⟩
    dsimp only [back, List.set]
    decreasing_trivial_pre_omega
    obtain ⟨s0, hs0, hne, hlen, hg0⟩ : ∃ s0 : List Nat, atI [D.str [97, 98], .str [97, 98, 32, 99], .str [97, 98, 99, 100, 101, 102, 103, 104, 32, 126, 33]] (r : Int) = some (.str s0) ∧ 1 ≤ s0.length ∧ s0.length ≤ 11 ∧ gd s0 := by
      have : r = 0 ∨ r = 1 ∨ r = 2 := by omega
      rcases this with rfl | rfl | rfl
      · exact ⟨_, rfl, by decide, by decide, by unfold gd; decide⟩
      · exact ⟨_, rfl, by decide, by decide, by unfold gd; decide⟩
      · exact ⟨_, rfl, by decide, by decide, by unfold gd; decide⟩
    decreasing_trivial_pre_omega
    try refine O_ixL hs0 ?_
    decreasing_trivial_pre_omega
    decreasing_trivial_pre_omega
    obtain ⟨k, h2, e2, r2, g2⟩ := hn h1 ((most : Int) + 1) g1 (by omega) (by omega)
    refine ⟨_, _, e2, ?_⟩
    dsimp only [back, List.set]
    decreasing_trivial_pre_omega
    decreasing_trivial_pre_omega
    refine W_lcloop (fun i acc ρ => ∃ h', G h' ∧ ρ = [some h', some (.int (most : Int)), some (.str s0), none] ∧ ∃ cs : List Nat, acc = cs.map (fun c => .str [c]) ∧ gd cs) ⟨h2, g2, rfl, [], rfl, fun c hc => by cases hc⟩ ?_ (by rw [rngO_len]; unfold lim; omega) ?_
    · rintro i x acc ρ hx ha ⟨h', g', rfl, cs, rfl, gc⟩
      refine W_lcF rfl ?_
      decreasing_trivial_pre_omega
      obtain ⟨q, h3, e3, r3, g3⟩ := hn h' (s0.length : Int) g' (by omega) (by omega)
      decreasing_trivial_pre_omega
      refine ⟨_, _, e3, ?_⟩
      dsimp only [back, List.set]
      decreasing_trivial_pre_omega
      decreasing_trivial_pre_omega
      have hq : q < s0.length := by omega
      have ha : atI s0 (q : Int) = some (s0[q]'hq) := by rw [atD_nat hq]; exact List.getElem?_eq_getElem hq
      try refine O_ixS (by unfold lim; omega) ha ?_
      decreasing_trivial_pre_omega
      exact ⟨h3, g3, rfl, cs ++ [s0[q]'(by omega)], by simp, gd_app gc fun c hc => by simp at hc; subst hc; exact hg0 _ (List.getElem_mem _)⟩
    · rintro acc ρ ha ⟨h', g', rfl, cs, rfl, gc⟩
      rw [rngO_len] at ha
      have hcs : cs.length ≤ most := by simp at ha; omega
      decreasing_trivial_pre_omega
      try refine O_any (d := .str cs) ?_ ?_
      · simp only [opD, mtO, joinO, strs_one, Option.bind_some, sum_one, join_one]
        rw [if_pos]
        simp [lim]; omega
      · decreasing_trivial_pre_omega
        exact ⟨cs, h', rfl, rfl, hcs, gc, g'⟩
  obtain ⟨d, outs, e, s, h', rfl, rfl, q⟩ := main
  exact ⟨s, h', e, q⟩
end Lk21

namespace Lk21
open PySem L2 VI
theorem lt1 (a b : Nat) : decide ([a] < [b]) = decide (a < b) := by
  rw [decide_eq_decide]
  simp [List.cons_lt_cons_iff]
theorem needOk (n : Nat) (s : List Nat) (hl : s.length ≤ 80) (g : gd s) : cl (n + 1) "need_signs" [.str s] = .ok .non [none] := by
  have main : ∃ d outs, cl (n + 1) "need_signs" [.str s] = .ok d outs ∧ (d = .non ∧ outs = [none]) := by
    refine F_run (fd := i_need_signs) rfl rfl ?_
    show WX (exs (run tbl.fds n) i_need_signs.body [some (.str s), none, none]) _
    generalize run tbl.fds n = call
    unfold i_need_signs
    decreasing_trivial_pre_omega
    decreasing_trivial_pre_omega
    refine ⟨fun _ ρ => ∃ x y, ρ = [some (.str s), x, y], ⟨_, _, rfl⟩, ?_, ?_⟩
    · rintro i x ρ hx ⟨y, z, rfl⟩
      obtain ⟨c, hc, rfl⟩ : ∃ c, s[i]? = some c ∧ x = .tup [.int (i : Int), .str [c]] := by
        have hi : i < s.length := by
          have := (List.getElem?_eq_some_iff.mp hx).1
          rw [enumD_len] at this; simpa using this
        refine ⟨s[i], List.getElem?_eq_getElem hi, ?_⟩
        have := enumD_at 0 (s.map fun c => .str [c]) i (.str [s[i]]) (by simp [hi])
        rw [this] at hx
        simpa using hx.symm
      have hi : i < s.length := (List.getElem?_eq_some_iff.mp hc).1
      obtain ⟨g1, g2⟩ := g c (List.mem_of_getElem? hc)
      refine ⟨_, rfl, ?_⟩
      decreasing_trivial_pre_omega
      exact ⟨_, _, rfl⟩
    · rintro ρ ⟨y, z, rfl⟩
      decreasing_trivial_pre_omega
      exact rfl
  obtain ⟨d, outs, e, rfl, rfl⟩ := main
  exact e
end Lk21

namespace Lk21
open PySem L2 VI
def NmP (d : D) (outs : List (Option D)) : Prop := d = .bl true ∧ outs = [none]
theorem nameOk (n : Nat) (s : List Nat) (h : nm s) : cl (n + 1) "is_name" [.str s] = .ok (.bl true) [none] := by
  obtain ⟨h1, h2, h3⟩ := h
  have main : ∃ d outs, cl (n + 1) "is_name" [.str s] = .ok d outs ∧ NmP d outs := by
    refine F_run (fd := i_is_name) rfl rfl ?_
    show WX (exs (run tbl.fds n) i_is_name.body [some (.str s), none]) _
    generalize run tbl.fds n = call
    unfold i_is_name
    decreasing_trivial_pre_omega
    refine W_lcloop (fun i acc ρ => ρ = [some (.str s), none] ∧ acc = List.replicate i (.bl true)) ⟨rfl, rfl⟩ ?_ (by simp [lim]; omega) ?_
    · rintro i x acc ρ hx ha ⟨rfl, rfl⟩
      have hi : i < s.length := by
        have := (List.getElem?_eq_some_iff.mp hx).1
        simpa using this
      have ex : x = .str [s[i]] := by
        rw [List.getElem?_map, List.getElem?_eq_getElem hi] at hx
        simpa using hx.symm
      subst ex
      have hc := h3 _ (List.getElem_mem hi)
      generalize s[i] = c at hc ⊢
      refine W_lcF rfl ?_
      decreasing_trivial_pre_omega
      have e1 : decide (c ∈ abc) = true := decide_eq_true hc
      rw [e1, List.replicate_succ']
    · rintro acc ρ ha ⟨rfl, rfl⟩
      decreasing_trivial_pre_omega
      all_goals (first | exact ⟨rfl, rfl⟩ | exact rfl)
  obtain ⟨d, outs, e, rfl, rfl⟩ := main
  exact e
def NsP (d : D) (outs : List (Option D)) : Prop := d = .non ∧ outs = [none, none]
set_option maxHeartbeats 1000000 in
theorem marksOk {n : Nat} (hn : ∀ s, nm s → cl n "is_name" [.str s] = .ok (.bl true) [none]) (b : Option Bool) (s : List Nat) (ms : List Mk) (hs : s.length ≤ 80) (hl : ms.length ≤ 40) (ho : ∀ m ∈ ms, m.ok s.length) : cl (n + 1) "need_marks" [.str s, seqL b (ms.map Mk.d)] = .ok .non [none, none] := by
  have main : ∃ d outs, cl (n + 1) "need_marks" [.str s, seqL b (ms.map Mk.d)] = .ok d outs ∧ NsP d outs := by
    refine F_run (fd := i_need_marks) rfl rfl ?_
    show WX (exs (run tbl.fds n) i_need_marks.body [some (.str s), some (seqL b (ms.map Mk.d)), none, none, none, none, none, none, none, none]) _
    unfold cl at hn
    generalize run tbl.fds n = call at hn ⊢
    unfold i_need_marks
    decreasing_trivial_pre_omega
    try refine W_useQ rfl (pure_ms _) ?_
    try dsimp only [List.set]
    decreasing_trivial_pre_omega
    refine I_enum (pure_ms _) ?_
    refine ⟨fun i ρ => ∃ x2 x3 x4 x5 x6 x7 x8, ρ = [some (.str s), some (seqL (frzB b) (ms.map Mk.d)), x2, x3, x4, x5, x6, x7, x8, none], ⟨_, _, _, _, _, _, _, rfl⟩, ?_, ?_⟩
    · rintro i x ρ hx ⟨x2, x3, x4, x5, x6, x7, x8, rfl⟩
      have hi : i < ms.length := by
        have := (List.getElem?_eq_some_iff.mp hx).1
        rw [enumD_len] at this; simpa using this
      have ex : x = .tup [.int (i : Int), (ms[i]).d] := by
        have := enumD_at 0 (ms.map Mk.d) i (ms[i]).d (by simp [hi])
        rw [this] at hx
        simpa using hx.symm
      subst ex
      have hm := ho _ (List.getElem_mem hi)
      generalize ms[i] = m at hm ⊢
      obtain ⟨hand, layer, first, past, word⟩ := m
      obtain ⟨n1, n2, n3, n4, n5⟩ := hm
      dsimp only at n1 n2 n3 n4 n5
      have hp : pureL [D.str hand, .str layer, .int (first : Int), .int (past : Int), .str word] = true := rfl
      refine ⟨_, rfl, ?_⟩
      try dsimp only [List.set]
      decreasing_trivial_pre_omega
      rw [show frzL [D.str hand, .str layer, .str word] = [D.str hand, .str layer, .str word] by simp [frzL, D.frz]]
      refine W_lcloop (fun k acc ρ => ρ = [some (.str s), some (seqL (frzB b) (ms.map Mk.d)), some (.int (i : Int)), some (.tup [.str hand, .str layer, .int (first : Int), .int (past : Int), .str word]), some (.str hand), some (.str layer), some (.int (first : Int)), some (.int (past : Int)), some (.str word), none] ∧ acc = List.replicate k (.bl true)) ⟨rfl, rfl⟩ ?_ (by simp [lim]) ?_
      · rintro k x acc ρ hx ha ⟨rfl, rfl⟩
        obtain ⟨z, rfl, hz⟩ : ∃ z, x = .str z ∧ nm z := by
          match k, hx with
          | 0, h => cases h; exact ⟨_, rfl, n1⟩
          | 1, h => cases h; exact ⟨_, rfl, n2⟩
          | 2, h => cases h; exact ⟨_, rfl, n3⟩
          | k + 3, h => simp at h
        refine W_lcF rfl ?_
        decreasing_trivial_pre_omega
        refine ⟨_, _, hn z hz, ?_⟩
        dsimp only [back, List.set]
        decreasing_trivial_pre_omega
        rw [List.replicate_succ']
      · rintro acc ρ ha ⟨rfl, rfl⟩
        decreasing_trivial_pre_omega
        exact ⟨_, _, _, _, _, _, _, rfl⟩
    · rintro ρ ⟨x2, x3, x4, x5, x6, x7, x8, rfl⟩
      decreasing_trivial_pre_omega
      all_goals (first | exact ⟨rfl, rfl⟩ | exact rfl)
  obtain ⟨d, outs, e, rfl, rfl⟩ := main
  exact e
end Lk21

namespace Lk21
open PySem L2 VI
def MarksOk (call : CallT) : Prop := ∀ h (body : List Nat) (most : Nat), G h → body.length ≤ 80 → most ≤ 40 → ∃ (ms : List Mk) (h' : D), call "_law_marks" [h, .str body, .int (most : Int)] = .ok (.lst true (ms.map Mk.d)) [some h', none, none] ∧ ms.length ≤ most ∧ (∀ m ∈ ms, m.ok body.length) ∧ G h'
def MaP (body : List Nat) (most : Nat) (d : D) (outs : List (Option D)) : Prop := ∃ (ms : List Mk) (h' : D), d = .lst true (ms.map Mk.d) ∧ outs = [some h', none, none] ∧ ms.length ≤ most ∧ (∀ m ∈ ms, m.ok body.length) ∧ G h'
theorem pick3 (x y z : List Nat) (r : Nat) (h : r < 3) : ∃ s, atI [D.str x, .str y, .str z] (r : Int) = some (.str s) ∧ (s = x ∨ s = y ∨ s = z) := by
  have : r = 0 ∨ r = 1 ∨ r = 2 := by omega
  rcases this with rfl | rfl | rfl
  · exact ⟨x, rfl, .inl rfl⟩
  · exact ⟨y, rfl, .inr (.inl rfl)⟩
  · exact ⟨z, rfl, .inr (.inr rfl)⟩
theorem pick2 (x y : List Nat) (r : Nat) (h : r < 2) : ∃ s, atI [D.str x, .str y] (r : Int) = some (.str s) ∧ (s = x ∨ s = y) := by
  have : r = 0 ∨ r = 1 := by omega
  rcases this with rfl | rfl
  · exact ⟨x, rfl, .inl rfl⟩
  · exact ⟨y, rfl, .inr rfl⟩
set_option maxHeartbeats 4000000 in
theorem lawMarksOk {n : Nat} (hn : NextOk (cl n)) : MarksOk (cl (n + 1)) := fun h body most g hb hm => by
  have main : ∃ d outs, cl (n + 1) "_law_marks" [h, .str body, .int (most : Int)] = .ok d outs ∧ MaP body most d outs := by
    refine F_run (fd := i_law_marks) rfl rfl ?_
    show WX (exs (run tbl.fds n) i_law_marks.body [some h, some (.str body), some (.int (most : Int)), none, none, none, none, none, none]) _
    unfold cl at hn
    generalize run tbl.fds n = call at hn ⊢
    unfold i_law_marks
    by_cases hb0 : body = []
    · subst hb0
      decreasing_trivial_pre_omega
      refine ⟨fun i ρ => ρ = [some h, some (.str []), some (.int (most : Int)), some (.lst true []), none, none, none, none, none], rfl, ?_, ?_⟩
      · intro i x ρ hx
        cases hx
      · rintro ρ rfl
        decreasing_trivial_pre_omega
        exact ⟨[], h, rfl, rfl, by simp, by simp, g⟩
    · have hpos : 1 ≤ body.length := List.length_pos_iff.mpr hb0
      have hne : ∀ z : List Nat, z = body → ¬ z = [] := fun z h1 h2 => hb0 (h1 ▸ h2)
      decreasing_trivial_pre_omega
      refine ⟨fun _ => ?_, fun z => absurd z (by simp [hb0])⟩
      decreasing_trivial_pre_omega
      obtain ⟨k, h0, e0, l0, g0⟩ := hn h ((most : Int) + 1) g (by omega) (by omega)
      refine ⟨_, _, e0, ?_⟩
      dsimp only [back, List.set]
      decreasing_trivial_pre_omega
      refine ⟨fun i ρ => ∃ (h' : D) (ms : List Mk) (x4 x5 x6 x7 x8 : Option D), ρ = [some h', some (.str body), some (.int (most : Int)), some (.lst true (ms.map Mk.d)), x4, x5, x6, x7, x8] ∧ G h' ∧ ms.length ≤ i ∧ ∀ m ∈ ms, m.ok body.length, ⟨h0, [], _, _, _, _, _, rfl, g0, Nat.le_refl _, by simp⟩, ?_, ?_⟩
      · rintro i x ρ hx ⟨h', ms, x4, x5, x6, x7, x8, rfl, gg, hi, ho⟩
        have hik : i < k := by
          have := (List.getElem?_eq_some_iff.mp hx).1
          rw [rngO_len] at this; simpa using this
        refine ⟨_, rfl, ?_⟩
        try dsimp only [List.set]
        decreasing_trivial_pre_omega
        obtain ⟨a, h1, e1, l1, g1⟩ := hn h' (body.length : Int) gg (by omega) (by omega)
        refine ⟨_, _, e1, ?_⟩
        dsimp only [back, List.set]
        decreasing_trivial_pre_omega
        obtain ⟨r2, h2, e2, l2, g2⟩ := hn h1 2 g1 (by decide) (by decide)
        refine ⟨_, _, e2, ?_⟩
        dsimp only [back, List.set]
        obtain ⟨v, hv, hv1⟩ : ∃ v : Int, atI [D.int 3, .int 80] (r2 : Int) = some (.int v) ∧ 2 ≤ v ∧ v ≤ 80 := by
          have : r2 = 0 ∨ r2 = 1 := by omega
          rcases this with rfl | rfl
          · exact ⟨3, rfl, by decide, by decide⟩
          · exact ⟨80, rfl, by decide, by decide⟩
        decreasing_trivial_pre_omega
        obtain ⟨r3, h3, e3, l3, g3⟩ := hn h2 (if v < (body.length : Int) - (a : Int) then v else (body.length : Int) - (a : Int)) g2 (by split <;> omega) (by split <;> omega)
        refine ⟨_, _, e3, ?_⟩
        dsimp only [back, List.set]
        have hc : (a : Int) + 1 + (r3 : Int) = ((a + 1 + r3 : Nat) : Int) := by omega
        have hle : a + 1 + r3 ≤ body.length := by split at l3 <;> omega
        decreasing_trivial_pre_omega
        rw [hc]
        obtain ⟨r4, h4, e4, l4, g4⟩ := hn h3 3 g3 (by decide) (by decide)
        obtain ⟨r5, h5, e5, l5, g5⟩ := hn h4 2 g4 (by decide) (by decide)
        obtain ⟨r6, h6, e6, l6, g6⟩ := hn h5 3 g5 (by decide) (by decide)
        obtain ⟨s1, p1, q1⟩ := pick3 [97, 110, 110] [98, 111, 98] [99, 121] r4 (by omega)
        obtain ⟨s2, p2, q2⟩ := pick2 [112, 111, 115] [110, 101, 114] r5 (by omega)
        obtain ⟨s3, p3, q3⟩ := pick3 [110] [118] [97, 100, 106] r6 (by omega)
        have n1 : nm s1 := by rcases q1 with rfl | rfl | rfl <;> exact ⟨by decide, by decide, by decide⟩
        have n2 : nm s2 := by rcases q2 with rfl | rfl <;> exact ⟨by decide, by decide, by decide⟩
        have n3 : nm s3 := by rcases q3 with rfl | rfl | rfl <;> exact ⟨by decide, by decide, by decide⟩
        refine ⟨_, _, e4, ?_⟩
        dsimp only [back, List.set]
        decreasing_trivial_pre_omega
        refine ⟨_, _, e5, ?_⟩
        dsimp only [back, List.set]
        decreasing_trivial_pre_omega
        refine ⟨_, _, e6, ?_⟩
        dsimp only [back, List.set]
        decreasing_trivial_pre_omega
        refine ⟨h6, ms ++ [⟨s1, s2, a, a + 1 + r3, s3⟩], _, _, _, _, _, by rw [List.map_append]; rfl, g6, by simp; omega, ?_⟩
        intro m hm
        rcases List.mem_append.mp hm with hm | hm
        · exact ho m hm
        · simp at hm
          subst hm
          exact ⟨n1, n2, n3, by simp; omega, hle⟩
      · rintro ρ ⟨h', ms, x4, x5, x6, x7, x8, rfl, gg, hi, ho⟩
        rw [rngO_len] at hi
        decreasing_trivial_pre_omega
        exact ⟨ms, h', rfl, rfl, by omega, ho, gg⟩
  obtain ⟨d, outs, e, ms, h', rfl, rfl, q⟩ := main
  exact ⟨ms, h', e, q⟩
end Lk21

namespace Lk21
open PySem L2 VI
def BtP (d : D) (outs : List (Option D)) : Prop := d = .bl true ∧ outs = [none, none]
theorem rngO_at {k i : Nat} {x : D} (h : (rngO 0 (k : Int))[i]? = some x) : i < k ∧ x = .int (i : Int) := by
  have hi := (List.getElem?_eq_some_iff.mp h).1
  rw [rngO_len] at hi
  have hi : i < k := by simpa using hi
  refine ⟨hi, ?_⟩
  unfold rngO at h
  simp [hi] at h
  exact h.symm
theorem al_int (n : Nat) (k : Int) : cl (n + 1) "_law_alike" [.int k, .int k] = .ok (.bl true) [none, none] := by
  have main : ∃ d outs, cl (n + 1) "_law_alike" [.int k, .int k] = .ok d outs ∧ BtP d outs := by
    refine F_run (fd := i_law_alike) rfl rfl ?_
    show WX (exs (run tbl.fds n) i_law_alike.body [some (.int k), some (.int k), none]) _
    generalize run tbl.fds n = call
    unfold i_law_alike
    decreasing_trivial_pre_omega
    first | exact ⟨by simp [deq, b2n], rfl⟩ | exact ⟨rfl, rfl⟩ | exact rfl | (simp; done)
  obtain ⟨d, outs, e, rfl, rfl⟩ := main
  exact e
theorem al_str (n : Nat) (k : List Nat) : cl (n + 1) "_law_alike" [.str k, .str k] = .ok (.bl true) [none, none] := by
  have main : ∃ d outs, cl (n + 1) "_law_alike" [.str k, .str k] = .ok d outs ∧ BtP d outs := by
    refine F_run (fd := i_law_alike) rfl rfl ?_
    show WX (exs (run tbl.fds n) i_law_alike.body [some (.str k), some (.str k), none]) _
    generalize run tbl.fds n = call
    unfold i_law_alike
    decreasing_trivial_pre_omega
    first | exact ⟨by simp [deq, b2n], rfl⟩ | exact ⟨rfl, rfl⟩ | exact rfl | (simp; done)
  obtain ⟨d, outs, e, rfl, rfl⟩ := main
  exact e
set_option maxHeartbeats 1000000 in
theorem al_tup {n : Nat} (xs : List D) (hl : xs.length ≤ 1000) (hp : ∀ x ∈ xs, x.pure = true) (hc : ∀ x ∈ xs, cl n "_law_alike" [x, x] = .ok (.bl true) [none, none]) : cl (n + 1) "_law_alike" [.tup xs, .tup xs] = .ok (.bl true) [none, none] := by
  have main : ∃ d outs, cl (n + 1) "_law_alike" [.tup xs, .tup xs] = .ok d outs ∧ BtP d outs := by
    refine F_run (fd := i_law_alike) rfl rfl ?_
    show WX (exs (run tbl.fds n) i_law_alike.body [some (.tup xs), some (.tup xs), none]) _
    unfold cl at hc
    generalize run tbl.fds n = call at hc ⊢
    unfold i_law_alike
    decreasing_trivial_pre_omega
    refine W_lcloop (fun i acc ρ => ρ = [some (.tup xs), some (.tup xs), none] ∧ acc = []) ⟨rfl, rfl⟩ ?_ (by rw [rngO_len]; simp [lim]; omega) ?_
    · rintro i x acc ρ hx ha ⟨rfl, rfl⟩
      obtain ⟨hi, rfl⟩ := rngO_at hx
      have hat : atI xs (i : Int) = some xs[i] := by rw [atD_nat hi]; exact List.getElem?_eq_getElem hi
      have hpi := hp _ (List.getElem_mem hi)
      refine W_lcF1 rfl ?_
      decreasing_trivial_pre_omega
      try refine O_ixT hat ?_
      decreasing_trivial_pre_omega
      try refine O_ixT hat ?_
      decreasing_trivial_pre_omega
      decreasing_trivial_pre_omega
      refine ⟨_, _, hc _ (List.getElem_mem hi), ?_⟩
      dsimp only [back, List.set]
      decreasing_trivial_pre_omega
      all_goals (first | exact ⟨rfl, rfl⟩ | exact rfl)
    · rintro acc ρ ha ⟨rfl, rfl⟩
      decreasing_trivial_pre_omega
      all_goals (first | exact ⟨rfl, rfl⟩ | exact rfl)
  obtain ⟨d, outs, e, rfl, rfl⟩ := main
  exact e
set_option maxHeartbeats 1000000 in
theorem al_lst {n : Nat} (m m' : Bool) (xs : List D) (hl : xs.length ≤ 1000) (hp : ∀ x ∈ xs, x.pure = true) (hc : ∀ x ∈ xs, cl n "_law_alike" [x, x] = .ok (.bl true) [none, none]) : cl (n + 1) "_law_alike" [.lst m xs, .lst m' xs] = .ok (.bl true) [none, none] := by
  have main : ∃ d outs, cl (n + 1) "_law_alike" [.lst m xs, .lst m' xs] = .ok d outs ∧ BtP d outs := by
    refine F_run (fd := i_law_alike) rfl rfl ?_
    show WX (exs (run tbl.fds n) i_law_alike.body [some (.lst m xs), some (.lst m' xs), none]) _
    unfold cl at hc
    generalize run tbl.fds n = call at hc ⊢
    unfold i_law_alike
    decreasing_trivial_pre_omega
    refine W_lcloop (fun i acc ρ => ρ = [some (.lst m xs), some (.lst m' xs), none] ∧ acc = []) ⟨rfl, rfl⟩ ?_ (by rw [rngO_len]; simp [lim]; omega) ?_
    · rintro i x acc ρ hx ha ⟨rfl, rfl⟩
      obtain ⟨hi, rfl⟩ := rngO_at hx
      have hat : atI xs (i : Int) = some xs[i] := by rw [atD_nat hi]; exact List.getElem?_eq_getElem hi
      have hpi := hp _ (List.getElem_mem hi)
      refine W_lcF1 rfl ?_
      decreasing_trivial_pre_omega
      try refine O_ixL hat ?_
      decreasing_trivial_pre_omega
      try refine O_ixL hat ?_
      decreasing_trivial_pre_omega
      decreasing_trivial_pre_omega
      refine ⟨_, _, hc _ (List.getElem_mem hi), ?_⟩
      dsimp only [back, List.set]
      decreasing_trivial_pre_omega
      all_goals (first | exact ⟨rfl, rfl⟩ | exact rfl)
    · rintro acc ρ ha ⟨rfl, rfl⟩
      decreasing_trivial_pre_omega
      all_goals (first | exact ⟨rfl, rfl⟩ | exact rfl)
  obtain ⟨d, outs, e, rfl, rfl⟩ := main
  exact e
theorem al_ed (n : Nat) (e : Ed) : cl (n + 2) "_law_alike" [e.d, e.d] = .ok (.bl true) [none, none] := by
  cases e with
  | cut a k =>
    refine al_tup _ (by simp) (by simp [D.pure]) fun x hx => ?_
    simp only [List.mem_cons, List.not_mem_nil, or_false] at hx
    rcases hx with rfl | rfl | rfl
    · exact al_str n _
    · exact al_int n _
    · exact al_int n _
  | put a w =>
    refine al_tup _ (by simp) (by simp [D.pure]) fun x hx => ?_
    simp only [List.mem_cons, List.not_mem_nil, or_false] at hx
    rcases hx with rfl | rfl | rfl
    · exact al_str n _
    · exact al_int n _
    · exact al_str n _
theorem al_es (n : Nat) (m m' : Bool) (es : List Ed) (hl : es.length ≤ 1000) : cl (n + 3) "_law_alike" [.lst m (es.map Ed.d), .lst m' (es.map Ed.d)] = .ok (.bl true) [none, none] :=
  al_lst m m' _ (by simpa using hl) (fun x hx => by obtain ⟨e, _, rfl⟩ := List.mem_map.mp hx; exact pure_ed e) fun x hx => by obtain ⟨e, _, rfl⟩ := List.mem_map.mp hx; exact al_ed n e
end Lk21

namespace Lk21
open PySem L2 VI
theorem blsO_map : ∀ bs : List Bool, blsO (bs.map .bl) = some bs
  | [] => rfl
  | b :: bs => by simp only [List.map_cons, blsO, blsO_map bs]; rfl
theorem O_allB {m : Bool} {bs : List Bool} {Qd : D → Prop} (q : Qd (.bl (bs.all id))) : WO (opD (.fn .all) [.lst m (bs.map .bl)]) Qd := by
  refine ⟨_, ?_, q⟩
  show (blsO (bs.map .bl)).map _ = _
  rw [blsO_map]; rfl
def NbP (d : D) (outs : List (Option D)) : Prop := d = .bl false ∧ outs = [none]
theorem nameNo (n : Nat) (s : List Nat) (h : ¬ nm s) (hs : s.length ≤ 1000) : cl (n + 1) "is_name" [.str s] = .ok (.bl false) [none] := by
  have main : ∃ d outs, cl (n + 1) "is_name" [.str s] = .ok d outs ∧ NbP d outs := by
    refine F_run (fd := i_is_name) rfl rfl ?_
    show WX (exs (run tbl.fds n) i_is_name.body [some (.str s), none]) _
    generalize run tbl.fds n = call
    unfold i_is_name
    by_cases h0 : s = []
    · subst h0
      decreasing_trivial_pre_omega
      exact ⟨rfl, rfl⟩
    have h1 : 1 ≤ s.length := List.length_pos_iff.mpr h0
    by_cases h6 : ¬ s.length ≤ 6
    · have d1 : decide ((1 : Int) ≤ (s.length : Int)) = true := decide_eq_true (by omega)
      have d2 : decide ((s.length : Int) ≤ 6) = false := decide_eq_false (by omega)
      decreasing_trivial_pre_omega
      all_goals (first | exact ⟨rfl, rfl⟩ | exact rfl | skip)
    have h6 : s.length ≤ 6 := by omega
    decreasing_trivial_pre_omega
    refine W_lcloop (fun i acc ρ => ρ = [some (.str s), none] ∧ acc = ((s.take i).map fun c => decide (c ∈ abc)).map .bl) ⟨rfl, rfl⟩ ?_ (by simp [lim]; omega) ?_
    · rintro i x acc ρ hx ha ⟨rfl, rfl⟩
      have hi : i < s.length := by
        have := (List.getElem?_eq_some_iff.mp hx).1
        simpa using this
      have ex : x = .str [s[i]] := by
        rw [List.getElem?_map, List.getElem?_eq_getElem hi] at hx
        simpa using hx.symm
      subst ex
      try dsimp only
      rw [List.take_succ_eq_append_getElem hi, List.map_append, List.map_append]
      generalize s[i] = c
      refine W_lcF rfl ?_
      decreasing_trivial_pre_omega
      all_goals (first | exact ⟨rfl, rfl⟩ | exact rfl)
    · rintro acc ρ ha ⟨rfl, rfl⟩
      rw [List.length_map, List.take_length]
      decreasing_trivial_pre_omega
      have hno : (s.map fun c => decide (c ∈ abc)).all id = false := by
        rw [← Bool.not_eq_true]
        intro z
        rw [List.all_map, List.all_eq_true] at z
        exact h ⟨h1, h6, fun c hc => by simpa using z c hc⟩
      try refine O_allB ?_
      rw [hno]
      decreasing_trivial_pre_omega
      all_goals (first | exact ⟨rfl, rfl⟩ | exact rfl)
  obtain ⟨d, outs, e, rfl, rfl⟩ := main
  exact e

theorem nameB (n : Nat) (s : List Nat) (hs : s.length ≤ 1000) : ∃ b : Bool, (b = true ↔ nm s) ∧ cl (n + 1) "is_name" [.str s] = .ok (.bl b) [none] := by
  by_cases h : nm s
  · exact ⟨true, ⟨fun _ => h, fun _ => rfl⟩, nameOk n s h⟩
  · exact ⟨false, ⟨fun z => (by cases z), fun z => absurd z h⟩, nameNo n s h hs⟩
def ErP (z : Ex) (o : List (Option D)) (x : Ex) (outs : List (Option D)) : Prop := x = z ∧ outs = o
theorem of_ErP {call : CallT} {f : Str} {ds : List D} {z : Ex} {o : List (Option D)} (h : ∃ x outs, call f ds = .err x outs ∧ ErP z o x outs) : call f ds = .err z o := by
  obtain ⟨d, outs, e, rfl, rfl⟩ := h
  exact e
def bmE (k : Int) : Ex := ("BadMark", [("number", .int k)])
/-- what is no mark, or one too many -/
def BadD (len k : Nat) (x : D) : Prop := ∃ (h l w : List Nat) (f p : Int), x = .tup [.str h, .str l, .int f, .int p, .str w] ∧ h.length ≤ 1000 ∧ l.length ≤ 1000 ∧ w.length ≤ 1000 ∧ (k = 40 ∨ ¬ (nm h ∧ nm l ∧ nm w) ∨ ¬ (0 ≤ f ∧ f < p ∧ p ≤ (len : Int)))
structure BadL (N : Nat) (xs : List D) (k : Nat) : Prop where
  pur : pureL xs = true
  len : xs.length ≤ 2000
  k40 : k ≤ 40
  pre : ∀ i, i < k → ∃ m : Mk, xs[i]? = some m.d ∧ m.ok N
  bad : ∃ x, xs[k]? = some x ∧ BadD N k x
set_option maxHeartbeats 8000000 in
theorem marksNo {n : Nat} (hn : ∀ s : List Nat, s.length ≤ 1000 → ∃ b : Bool, (b = true ↔ nm s) ∧ cl n "is_name" [.str s] = .ok (.bl b) [none]) (b : Option Bool) (s : List Nat) (xs : List D) (k : Nat) (hs : s.length ≤ 80) (hB : BadL s.length xs k) :
    cl (n + 1) "need_marks" [.str s, seqL b xs] = .err (bmE k) [none, none] := by
  refine of_ErP ?_
  refine F_err (fd := i_need_marks) rfl rfl ?_
  show WX (exs (run tbl.fds n) i_need_marks.body [some (.str s), some (seqL b xs), none, none, none, none, none, none, none, none]) _
  unfold cl at hn
  generalize run tbl.fds n = call at hn ⊢
  unfold i_need_marks
  have hxl := hB.len
  have hpx := hB.pur
  decreasing_trivial_pre_omega
  try refine W_useQ rfl hpx ?_
  try dsimp only [List.set]
  decreasing_trivial_pre_omega
  refine I_enum hpx ?_
  refine ⟨fun i ρ => i ≤ k ∧ ∃ x2 x3 x4 x5 x6 x7 x8, ρ = [some (.str s), some (seqL (frzB b) xs), x2, x3, x4, x5, x6, x7, x8, none], ⟨Nat.zero_le _, _, _, _, _, _, _, _, rfl⟩, ?_, ?_⟩
  · rintro i x ρ hx ⟨hi, x2, x3, x4, x5, x6, x7, x8, rfl⟩
    have h40 := hB.k40
    have him : ∃ (h l w : List Nat) (f p : Int), xs[i]? = some (.tup [.str h, .str l, .int f, .int p, .str w]) ∧ h.length ≤ 1000 ∧ l.length ≤ 1000 ∧ w.length ≤ 1000 ∧
        ((i < k ∧ nm h ∧ nm l ∧ nm w ∧ 0 ≤ f ∧ f < p ∧ p ≤ (s.length : Int)) ∨ (i = k ∧ (k = 40 ∨ ¬ (nm h ∧ nm l ∧ nm w) ∨ ¬ (0 ≤ f ∧ f < p ∧ p ≤ (s.length : Int))))) := by
      by_cases hlt : i < k
      · obtain ⟨m, h1, h2⟩ := hB.pre i hlt
        obtain ⟨hand, layer, first, past, word⟩ := m
        obtain ⟨n1, n2, n3, n4, n5⟩ := h2
        dsimp only at n1 n2 n3 n4 n5
        have l1 := n1.2.1
        have l2 := n2.2.1
        have l3 := n3.2.1
        exact ⟨hand, layer, word, (first : Int), (past : Int), h1, by omega, by omega, by omega, .inl ⟨hlt, n1, n2, n3, by omega, by omega, by omega⟩⟩
      · have ei : i = k := by omega
        obtain ⟨x, h1, h, l, w, f, p, rfl, h2, h3, h4, h5⟩ := hB.bad
        exact ⟨h, l, w, f, p, by rw [ei]; exact h1, h2, h3, h4, .inr ⟨ei, h5⟩⟩
    obtain ⟨h, l, w, f, p, hxi, h2, h3, h4, h5⟩ := him
    have ex : x = .tup [.int (i : Int), .tup [.str h, .str l, .int f, .int p, .str w]] := by
      have := enumD_at 0 xs i _ hxi
      rw [this] at hx
      simpa using hx.symm
    subst ex
    have hp : pureL [D.str h, .str l, .int f, .int p, .str w] = true := rfl
    obtain ⟨b1, c1, e1⟩ := hn h h2
    obtain ⟨b2, c2, e2⟩ := hn l h3
    obtain ⟨b3, c3, e3⟩ := hn w h4
    refine ⟨_, rfl, ?_⟩
    try dsimp only [List.set]
    by_cases h40' : i = 40
    · have e40 : i = k := by omega
      subst e40
      rw [h40']
      decreasing_trivial_pre_omega
      exact ⟨rfl, rfl⟩
    have h41 : ((i : Int) == 40) = false := by simp; omega
    decreasing_trivial_pre_omega
    rw [show frzL [D.str h, .str l, .str w] = [D.str h, .str l, .str w] by simp [frzL, D.frz]]
    refine W_lcloop (fun j acc ρ => ρ = [some (.str s), some (seqL (frzB b) xs), some (.int (i : Int)), some (.tup [.str h, .str l, .int f, .int p, .str w]), some (.str h), some (.str l), some (.int f), some (.int p), some (.str w), none] ∧ acc = (([b1, b2, b3].take j).map D.bl)) ⟨rfl, rfl⟩ ?_ (by simp [lim]) ?_
    · rintro j x acc ρ hx ha ⟨rfl, rfl⟩
      match j, hx with
      | 0, hx =>
        cases hx
        refine W_lcF rfl ?_
        decreasing_trivial_pre_omega
        refine ⟨_, _, e1, ?_⟩
        dsimp only [back, List.set]
        decreasing_trivial_pre_omega
        all_goals (first | exact ⟨rfl, rfl⟩ | exact rfl)
      | 1, hx =>
        cases hx
        refine W_lcF rfl ?_
        decreasing_trivial_pre_omega
        refine ⟨_, _, e2, ?_⟩
        dsimp only [back, List.set]
        decreasing_trivial_pre_omega
        all_goals (first | exact ⟨rfl, rfl⟩ | exact rfl)
      | 2, hx =>
        cases hx
        refine W_lcF rfl ?_
        decreasing_trivial_pre_omega
        refine ⟨_, _, e3, ?_⟩
        dsimp only [back, List.set]
        decreasing_trivial_pre_omega
        all_goals (first | exact ⟨rfl, rfl⟩ | exact rfl)
      | j + 3, hx => simp at hx
    · rintro acc ρ ha ⟨rfl, rfl⟩
      decreasing_trivial_pre_omega
      try refine O_allB ?_
      have hall : (([b1, b2, b3] : List Bool).all id = true) ↔ nm h ∧ nm l ∧ nm w := by
        simp [c1, c2, c3]
      generalize ([b1, b2, b3] : List Bool).all id = t at hall ⊢
      cases t with
      | false =>
        have hno : ¬ (nm h ∧ nm l ∧ nm w) := fun z => by cases hall.mpr z
        have ei : i = k := by
          rcases h5 with ⟨_, n1, n2, n3, _⟩ | ⟨ei, _⟩
          · exact absurd ⟨n1, n2, n3⟩ hno
          · exact ei
        subst ei
        refine ⟨fun _ => ?_, fun z => by cases z⟩
        decreasing_trivial_pre_omega
        exact ⟨rfl, rfl⟩
      | true =>
        refine ⟨fun z => (by cases z), fun _ => ?_⟩
        rcases h5 with ⟨hlt, n1, n2, n3, g1, g2, g3⟩ | ⟨ei, hbad⟩
        · have d1 : decide ((0 : Int) ≤ f) = true := decide_eq_true g1
          have d2 : decide (f < p) = true := decide_eq_true g2
          have d3 : decide (p ≤ (s.length : Int)) = true := decide_eq_true g3
          decreasing_trivial_pre_omega
          exact ⟨hlt, _, _, _, _, _, _, _, rfl⟩
        · have hb2 := (hbad.resolve_left (by omega)).resolve_left (fun z => z (hall.mp rfl))
          subst ei
          by_cases g1 : 0 ≤ f
          · have d1 : decide ((0 : Int) ≤ f) = true := decide_eq_true g1
            by_cases g2 : f < p
            · have d2 : decide (f < p) = true := decide_eq_true g2
              have d3 : decide (p ≤ (s.length : Int)) = false := decide_eq_false fun g3 => hb2 ⟨g1, g2, g3⟩
              decreasing_trivial_pre_omega
              exact ⟨rfl, rfl⟩
            · have d2 : decide (f < p) = false := decide_eq_false g2
              decreasing_trivial_pre_omega
              exact ⟨rfl, rfl⟩
          · have d1 : decide ((0 : Int) ≤ f) = false := decide_eq_false g1
            decreasing_trivial_pre_omega
            exact ⟨rfl, rfl⟩
  · rintro ρ ⟨hi, x2, x3, x4, x5, x6, x7, x8, rfl⟩
    exfalso
    rw [enumD_len] at hi
    obtain ⟨x0, hx0, _⟩ := hB.bad
    have := (List.getElem?_eq_some_iff.mp hx0).1
    omega
end Lk21

namespace Lk21
open PySem L2 VI
/-- signs of a text that are handed in -/
def tx (s : List Nat) : Prop := ∀ c ∈ s, c < 128
def IbP (b : Bool) (d : D) (outs : List (Option D)) : Prop := d = .bl b ∧ outs = [none]
set_option maxHeartbeats 2000000 in
theorem isNumOk (n : Nat) (w : List Nat) (ht : tx w) (hl : w.length ≤ 1000) : cl (n + 1) "is_number" [.str w] = .ok (.bl (numB w)) [none] := by
  have main : ∃ d outs, cl (n + 1) "is_number" [.str w] = .ok d outs ∧ IbP (numB w) d outs := by
    refine F_run (fd := i_is_number) rfl rfl ?_
    show WX (exs (run tbl.fds n) i_is_number.body [some (.str w)]) _
    generalize run tbl.fds n = call
    unfold i_is_number
    match w, ht, hl with
    | [], _, _ =>
      decreasing_trivial_pre_omega
      exact ⟨rfl, rfl⟩
    | [a], ht, _ =>
      have ha : a < 1114112 := by have := ht a (by simp); omega
      decreasing_trivial_pre_omega
      try refine O_strip1 ha ?_
      cases h : dgB a with
      | false =>
        simp only [h, Bool.false_eq_true, if_false]
        decreasing_trivial_pre_omega
        all_goals (first | exact ⟨by simp [numB, h], rfl⟩ | skip)
      | true =>
        simp only [h, if_true]
        decreasing_trivial_pre_omega
        refine ⟨fun h0 => ?_, fun h0 => ⟨by simp [numB, h], rfl⟩⟩
        decreasing_trivial_pre_omega
        all_goals (refine ⟨?_, rfl⟩; simp [numB, h]; simpa using h0)
    | [a, b], ht, _ =>
      have ha : a < 1114112 := by have := ht a (by simp); omega
      have hb : b < 1114112 := by have := ht b (by simp); omega
      decreasing_trivial_pre_omega
      try refine O_strip2 ha hb ?_
      cases h : dgB a <;> cases h2 : dgB b <;> simp only [h, h2, Bool.false_eq_true, if_false, if_true]
      case true.true =>
        decreasing_trivial_pre_omega
        refine ⟨?_, rfl⟩
        by_cases h0 : a = 48 <;> simp [numB, h, h2, h0]
        all_goals (first | (subst h0; simp [h]; done) | skip)
      all_goals
        decreasing_trivial_pre_omega
      all_goals (first | exact ⟨by simp [numB, h, h2], rfl⟩ | skip)
    | a :: b :: c :: r, _, hl =>
      have d1 : decide ((1 : Int) ≤ ((a :: b :: c :: r).length : Int)) = true := decide_eq_true (by rw [List.length_cons]; omega)
      have d2 : decide (((a :: b :: c :: r).length : Int) ≤ 2) = false := decide_eq_false (by simp only [List.length_cons]; omega)
      have hb : numB (a :: b :: c :: r) = false := rfl
      generalize a :: b :: c :: r = w at hl d1 d2 hb ⊢
      decreasing_trivial_pre_omega
      refine ⟨fun _ => ?_, fun z => by rw [d1] at z; cases z⟩
      decreasing_trivial_pre_omega
      exact ⟨fun z => (by rw [d2] at z; cases z), fun _ => ⟨by rw [hb], rfl⟩⟩
  obtain ⟨d, outs, e, rfl, rfl⟩ := main
  exact e
end Lk21

namespace Lk21
open PySem L2 VI
/-- what comes of a text: the first row that is none, or its rows as marks -/
def firstF (ls : List (List Nat)) : Option Nat := ls.findIdx? fun l => (rowF l).isNone
def rowsF (ls : List (List Nat)) : List Mk := ls.filterMap rowF
theorem rowsF_take {ls : List (List Nat)} {i : Nat} {m : Mk} (h : ∃ l, ls[i]? = some l ∧ rowF l = some m) : rowsF (ls.take (i + 1)) = rowsF (ls.take i) ++ [m] := by
  obtain ⟨l, h1, h2⟩ := h
  obtain ⟨hi, rfl⟩ := List.getElem?_eq_some_iff.mp h1
  unfold rowsF
  rw [List.take_succ_eq_append_getElem hi, List.filterMap_append]
  simp [h2]
theorem rowsF_len {ls : List (List Nat)} : (rowsF ls).length ≤ ls.length := List.length_filterMap_le ..
def btE (k : Nat) : Ex := ("BadText", [("row", .int (k : Int))])
/-- the marks' first that is none -/
def okM (n : Nat) (m : Mk) : Prop := m.ok n
theorem rowF_of {l a b f p w : List Nat} (h : splS 32 [] l = [a, b, f, p, w]) : rowF l = if numB f && numB p then some ⟨a, b, numV f, numV p, w⟩ else none := by
  unfold rowF
  rw [h]
theorem rowF_no {l : List Nat} (h : (splS 32 [] l).length ≠ 5) : rowF l = none := by
  unfold rowF
  split
  · rename_i e
    rw [e] at h
    simp at h
  · rfl
theorem five {xs : List (List Nat)} (h : xs.length = 5) : ∃ a b f p w, xs = [a, b, f, p, w] := by
  match xs, h with
  | [a, b, f, p, w], _ => exact ⟨a, b, f, p, w, rfl⟩
structure TxOk (t : List Nat) : Prop where
  tx : tx t
  len : t.length ≤ 900
theorem lines_tx {t : List Nat} (h : TxOk t) : ∀ l ∈ linesF t, Lk21.tx l ∧ l.length ≤ 900 := by
  intro l hl
  unfold linesF at hl
  split at hl
  · cases hl
  · refine ⟨fun c hc => ?_, ?_⟩
    · rcases splS_mem 10 [] t l hl c hc with z | z
      · cases z
      · exact h.tx c z
    · have := splS_len 10 [] t l hl
      have := h.len
      simp at *; omega
theorem lines_many {t : List Nat} (h : TxOk t) : (linesF t).length ≤ 901 := by
  unfold linesF
  split
  · simp
  · have := splS_many 10 [] t
    have := h.len
    omega
theorem words_tx {l : List Nat} (h : Lk21.tx l ∧ l.length ≤ 900) : ∀ w ∈ splS 32 [] l, Lk21.tx w ∧ w.length ≤ 900 := by
  intro w hw
  refine ⟨fun c hc => ?_, ?_⟩
  · rcases splS_mem 32 [] l w hw c hc with z | z
    · cases z
    · exact h.1 c z
  · have := splS_len 32 [] l w hw
    have := h.2
    simp at *; omega
theorem I_enumN {b : Option Bool} {xs : List D} {P : List D → Prop} (hp : pureL xs = true) (q : P (enumD 0 xs)) : canL [seqL b xs] = true ∧ ∃ ys, itD .enum (frzL [seqL b xs]) = some ys ∧ P ys := by
  refine ⟨by simp only [canL, can_seqL hp, Bool.and_self], enumD 0 xs, ?_, q⟩
  simp only [frzL, frz_seqL hp, itD, walk_seqL, Option.map_some]
structure RdB (call : CallT) : Prop where
  sig : ∀ s : List Nat, s.length ≤ 80 → gd s → call "need_signs" [.str s] = .ok .non [none]
  num : ∀ w : List Nat, tx w → w.length ≤ 1000 → call "is_number" [.str w] = .ok (.bl (numB w)) [none]
def RdP (ms : List Mk) (d : D) (outs : List (Option D)) : Prop := d = .lst false (ms.map Mk.d) ∧ outs = [none, none]
set_option maxHeartbeats 4000000 in
theorem readOk {n : Nat} (B : RdB (cl n)) (s t : List Nat) (hs : s.length ≤ 80) (g : gd s) (ht : TxOk t) (hr : firstF (linesF t) = none)
    (hm : ∀ b : Option Bool, cl n "need_marks" [.str s, seqL b ((rowsF (linesF t)).map Mk.d)] = .ok .non [none, none]) : cl (n + 1) "read" [.str s, .str t] = .ok (.lst false ((rowsF (linesF t)).map Mk.d)) [none, none] := by
  have main : ∃ d outs, cl (n + 1) "read" [.str s, .str t] = .ok d outs ∧ RdP (rowsF (linesF t)) d outs := by
    refine F_run (fd := i_read) rfl rfl ?_
    show WX (exs (run tbl.fds n) i_read.body [some (.str s), some (.str t), none, none, none, none, none]) _
    unfold cl at B hm
    generalize run tbl.fds n = call at B hm ⊢
    unfold i_read
    decreasing_trivial_pre_omega
    refine ⟨_, _, B.sig s hs g, ?_⟩
    dsimp only [back, List.set]
    decreasing_trivial_pre_omega
    have hls : firstF (linesF t) = none → ∀ l ∈ linesF t, ∃ m, rowF l = some m := fun h l hl => by
      have := List.findIdx?_eq_none_iff.mp h l hl
      cases hq : rowF l with
      | none => rw [hq] at this; simp at this
      | some m => exact ⟨m, rfl⟩
    have hls := hls hr
    have htx := lines_tx ht
    have hmany := lines_many ht
    have tl := ht.len
    by_cases h0 : t = []
    · subst h0
      have hnil : linesF [] = [] := rfl
      refine ⟨fun z => by simp at z, fun _ => ?_⟩
      refine I_enumN (b := some true) (xs := []) rfl ?_
      refine ⟨fun i ρ => ρ = [some (.str s), some (.str []), some (.lst true []), none, none, none, none], rfl, ?_, ?_⟩
      · rintro i x ρ hx _
        simp [enumD] at hx
      · rintro ρ rfl
        decreasing_trivial_pre_omega
        refine ⟨_, _, hm (some false), ?_⟩
        dsimp only [back, List.set]
        decreasing_trivial_pre_omega
        exact ⟨rfl, rfl⟩
    · refine ⟨fun _ => ?_, fun z => by simp [h0] at z⟩
      have hsp : splS 10 [] t = linesF t := by unfold linesF; rw [if_neg h0]
      refine ⟨O_split (by decide) (by omega) ?_⟩
      rw [hsp]
      generalize linesF t = ls at hls htx hmany hm ⊢
      refine I_enumN (b := some true) (pure_strD ls) ?_
      refine ⟨fun i ρ => ∃ x3 x4 x5, ρ = [some (.str s), some (.str t), some (.lst true ((rowsF (ls.take i)).map Mk.d)), x3, x4, x5, none], ⟨_, _, _, rfl⟩, ?_, ?_⟩
      · rintro i x ρ hx ⟨x3, x4, x5, rfl⟩
        have hi : i < ls.length := by
          have := (List.getElem?_eq_some_iff.mp hx).1
          rw [enumD_len] at this; simpa using this
        have ex : x = .tup [.int (i : Int), .str ls[i]] := by
          have := enumD_at 0 (strD ls) i (.str ls[i]) (by simp [hi])
          rw [this] at hx
          simpa using hx.symm
        subst ex
        obtain ⟨m, hrow⟩ := hls _ (List.getElem_mem hi)
        have htl := htx _ (List.getElem_mem hi)
        have hnext := rowsF_take (ls := ls) (i := i) (m := m) ⟨_, List.getElem?_eq_getElem hi, hrow⟩
        generalize ls[i] = l at hrow htl
        have h5 : (splS 32 [] l).length = 5 := by
          by_cases h : (splS 32 [] l).length = 5
          · exact h
          · rw [rowF_no h] at hrow; cases hrow
        obtain ⟨wa, wb, wf, wp, ww, hw⟩ := five h5
        have wt := words_tx htl
        rw [hw] at wt
        rw [rowF_of hw] at hrow
        split at hrow
        case isFalse => cases hrow
        rename_i hnum
        cases hrow
        rw [Bool.and_eq_true] at hnum
        obtain ⟨n1, n2⟩ := hnum
        have c1 := B.num wf (wt wf (by simp)).1 (by have := (wt wf (by simp)).2; omega)
        have c2 := B.num wp (wt wp (by simp)).1 (by have := (wt wp (by simp)).2; omega)
        rw [n1] at c1
        rw [n2] at c2
        have tl2 := htl.2
        refine ⟨_, rfl, ?_⟩
        try dsimp only [List.set]
        decreasing_trivial_pre_omega
        try refine O_split (by decide) (by omega) ?_
        rw [hw]
        decreasing_trivial_pre_omega
        rw [show frzL (cutD (strD [wa, wb, wf, wp, ww]) (some 2) (some 4)) = [D.str wf, D.str wp] from rfl]
        refine W_lcloop (fun j acc ρ => ρ = [some (.str s), some (.str t), some (.lst true ((rowsF (ls.take i)).map Mk.d)), some (.int (i : Int)), some (.str l), some (.lst true (strD [wa, wb, wf, wp, ww])), none] ∧ acc = List.replicate j (.bl true)) ⟨rfl, rfl⟩ ?_ (by simp [lim]) ?_
        · rintro j x acc ρ hx ha ⟨rfl, rfl⟩
          match j, hx with
          | 0, hx =>
            cases hx
            refine W_lcF rfl ?_
            decreasing_trivial_pre_omega
            refine ⟨_, _, c1, ?_⟩
            dsimp only [back, List.set]
            decreasing_trivial_pre_omega
            all_goals (first | exact ⟨rfl, rfl⟩ | exact rfl)
          | 1, hx =>
            cases hx
            refine W_lcF rfl ?_
            decreasing_trivial_pre_omega
            refine ⟨_, _, c2, ?_⟩
            dsimp only [back, List.set]
            decreasing_trivial_pre_omega
            all_goals (first | exact ⟨rfl, rfl⟩ | exact rfl)
          | j + 2, hx => simp at hx
        · rintro acc ρ ha ⟨rfl, rfl⟩
          decreasing_trivial_pre_omega
          try refine O_intT n1 ?_
          decreasing_trivial_pre_omega
          try refine O_intT n2 ?_
          decreasing_trivial_pre_omega
          have hlen : (rowsF (ls.take i)).length ≤ 901 := by
            have := rowsF_len (ls := ls.take i)
            rw [List.length_take] at this; omega
          refine I_app (by rw [List.length_map]; simp only [lim]; omega) ?_
          decreasing_trivial_pre_omega
          refine ⟨some (.int (i : Int)), some (.str l), some (.lst true (strD [wa, wb, wf, wp, ww])), ?_⟩
          rw [hnext, List.map_append]
          rfl
      · rintro ρ ⟨x3, x4, x5, rfl⟩
        rw [enumD_len, show (strD ls).length = ls.length by simp [strD], List.take_length]
        decreasing_trivial_pre_omega
        refine ⟨_, _, hm (some false), ?_⟩
        dsimp only [back, List.set]
        have hpm : pureL ((rowsF ls).map Mk.d) = true := pure_ms _
        decreasing_trivial_pre_omega
        all_goals (first | exact ⟨rfl, rfl⟩ | exact rfl)
  obtain ⟨d, outs, e, rfl, rfl⟩ := main
  exact e
end Lk21

namespace Lk21
open PySem L2 VI
def ErQ (z : Ex) (x : Ex) (outs : List (Option D)) : Prop := x = z ∧ outs = [none, none]
theorem of_ErQ {call : CallT} {f : Str} {ds : List D} {z : Ex} (h : ∃ x outs, call f ds = .err x outs ∧ ErQ z x outs) : call f ds = .err z [none, none] := by
  obtain ⟨d, outs, e, rfl, rfl⟩ := h
  exact e
theorem firstF_at {ls : List (List Nat)} {k : Nat} (h : firstF ls = some k) : k < ls.length ∧ (∀ hk : k < ls.length, rowF ls[k] = none) ∧ ∀ j (hj : j < ls.length), j < k → ∃ m, rowF ls[j] = some m := by
  unfold firstF at h
  obtain ⟨hk, h1, h2⟩ := List.findIdx?_eq_some_iff_getElem.mp h
  refine ⟨hk, fun _ => by simpa using h1, fun j hj hjk => ?_⟩
  have := h2 j hjk
  cases hq : rowF ls[j] with
  | none => rw [hq] at this; simp at this
  | some m => exact ⟨m, rfl⟩
set_option maxHeartbeats 4000000 in
theorem readNo1 {n : Nat} (B : RdB (cl n)) (s t : List Nat) (k : Nat) (hs : s.length ≤ 80) (g : gd s) (ht : TxOk t) (hr : firstF (linesF t) = some k) : cl (n + 1) "read" [.str s, .str t] = .err (btE k) [none, none] := by
  refine of_ErQ ?_
  refine F_err (fd := i_read) rfl rfl ?_
  show WX (exs (run tbl.fds n) i_read.body [some (.str s), some (.str t), none, none, none, none, none]) _
  unfold cl at B
  generalize run tbl.fds n = call at B ⊢
  unfold i_read
  decreasing_trivial_pre_omega
  refine ⟨_, _, B.sig s hs g, ?_⟩
  dsimp only [back, List.set]
  decreasing_trivial_pre_omega
  have htx := lines_tx ht
  have hmany := lines_many ht
  have tl := ht.len
  have h0 : t ≠ [] := fun z => by
    subst z
    cases hr
  refine ⟨fun _ => ?_, fun z => by simp [h0] at z⟩
  have hsp : splS 10 [] t = linesF t := by unfold linesF; rw [if_neg h0]
  refine ⟨O_split (by decide) (by omega) ?_⟩
  rw [hsp]
  obtain ⟨hkl, hbad, hgood⟩ := firstF_at hr
  generalize linesF t = ls at htx hmany hkl hbad hgood ⊢
  refine I_enumN (b := some true) (pure_strD ls) ?_
  refine ⟨fun i ρ => i ≤ k ∧ ∃ x3 x4 x5, ρ = [some (.str s), some (.str t), some (.lst true ((rowsF (ls.take i)).map Mk.d)), x3, x4, x5, none], ⟨Nat.zero_le _, _, _, _, rfl⟩, ?_, ?_⟩
  · rintro i x ρ hx ⟨hik, x3, x4, x5, rfl⟩
    have hi : i < ls.length := by
      have := (List.getElem?_eq_some_iff.mp hx).1
      rw [enumD_len] at this; simpa using this
    have ex : x = .tup [.int (i : Int), .str ls[i]] := by
      have := enumD_at 0 (strD ls) i (.str ls[i]) (by simp [hi])
      rw [this] at hx
      simpa using hx.symm
    subst ex
    by_cases hlt : i < k
    · skip
      obtain ⟨m, hrow⟩ := hgood i hi hlt
      have htl := htx _ (List.getElem_mem hi)
      have hnext := rowsF_take (ls := ls) (i := i) (m := m) ⟨_, List.getElem?_eq_getElem hi, hrow⟩
      generalize ls[i] = l at hrow htl
      have h5 : (splS 32 [] l).length = 5 := by
        by_cases h : (splS 32 [] l).length = 5
        · exact h
        · rw [rowF_no h] at hrow; cases hrow
      obtain ⟨wa, wb, wf, wp, ww, hw⟩ := five h5
      have wt := words_tx htl
      rw [hw] at wt
      rw [rowF_of hw] at hrow
      split at hrow
      case isFalse => cases hrow
      rename_i hnum
      cases hrow
      rw [Bool.and_eq_true] at hnum
      obtain ⟨n1, n2⟩ := hnum
      have c1 := B.num wf (wt wf (by simp)).1 (by have := (wt wf (by simp)).2; omega)
      have c2 := B.num wp (wt wp (by simp)).1 (by have := (wt wp (by simp)).2; omega)
      rw [n1] at c1
      rw [n2] at c2
      have tl2 := htl.2
      refine ⟨_, rfl, ?_⟩
      try dsimp only [List.set]
      decreasing_trivial_pre_omega
      try refine O_split (by decide) (by omega) ?_
      rw [hw]
      decreasing_trivial_pre_omega
      rw [show frzL (cutD (strD [wa, wb, wf, wp, ww]) (some 2) (some 4)) = [D.str wf, D.str wp] from rfl]
      refine W_lcloop (fun j acc ρ => ρ = [some (.str s), some (.str t), some (.lst true ((rowsF (ls.take i)).map Mk.d)), some (.int (i : Int)), some (.str l), some (.lst true (strD [wa, wb, wf, wp, ww])), none] ∧ acc = List.replicate j (.bl true)) ⟨rfl, rfl⟩ ?_ (by simp [lim]) ?_
      · rintro j x acc ρ hx ha ⟨rfl, rfl⟩
        match j, hx with
        | 0, hx =>
          cases hx
          refine W_lcF rfl ?_
          decreasing_trivial_pre_omega
          refine ⟨_, _, c1, ?_⟩
          dsimp only [back, List.set]
          decreasing_trivial_pre_omega
          all_goals (first | exact ⟨rfl, rfl⟩ | exact rfl)
        | 1, hx =>
          cases hx
          refine W_lcF rfl ?_
          decreasing_trivial_pre_omega
          refine ⟨_, _, c2, ?_⟩
          dsimp only [back, List.set]
          decreasing_trivial_pre_omega
          all_goals (first | exact ⟨rfl, rfl⟩ | exact rfl)
        | j + 2, hx => simp at hx
      · rintro acc ρ ha ⟨rfl, rfl⟩
        decreasing_trivial_pre_omega
        try refine O_intT n1 ?_
        decreasing_trivial_pre_omega
        try refine O_intT n2 ?_
        decreasing_trivial_pre_omega
        have hlen : (rowsF (ls.take i)).length ≤ 901 := by
          have := rowsF_len (ls := ls.take i)
          rw [List.length_take] at this; omega
        refine I_app (by rw [List.length_map]; simp only [lim]; omega) ?_
        decreasing_trivial_pre_omega
        refine ⟨hlt, some (.int (i : Int)), some (.str l), some (.lst true (strD [wa, wb, wf, wp, ww])), ?_⟩
        rw [hnext, List.map_append]
        rfl
    · have ei : i = k := by omega
      subst ei
      have hrow := hbad hi
      have htl := htx _ (List.getElem_mem hi)
      generalize ls[i] = l at hrow htl
      have tl2 := htl.2
      refine ⟨_, rfl, ?_⟩
      try dsimp only [List.set]
      decreasing_trivial_pre_omega
      try refine O_split (by decide) (by omega) ?_
      by_cases h5 : (splS 32 [] l).length = 5
      · obtain ⟨wa, wb, wf, wp, ww, hw⟩ := five h5
        have wt := words_tx htl
        rw [hw] at wt
        rw [rowF_of hw] at hrow
        have hnum : (numB wf && numB wp) = false := by
          cases h : (numB wf && numB wp) with
          | false => rfl
          | true => rw [h] at hrow; cases hrow
        have c1 := B.num wf (wt wf (by simp)).1 (by have := (wt wf (by simp)).2; omega)
        have c2 := B.num wp (wt wp (by simp)).1 (by have := (wt wp (by simp)).2; omega)
        rw [hw]
        decreasing_trivial_pre_omega
        rw [show frzL (cutD (strD [wa, wb, wf, wp, ww]) (some 2) (some 4)) = [D.str wf, D.str wp] from rfl]
        refine W_lcloop (fun j acc ρ => ρ = [some (.str s), some (.str t), some (.lst true ((rowsF (ls.take i)).map Mk.d)), some (.int (i : Int)), some (.str l), some (.lst true (strD [wa, wb, wf, wp, ww])), none] ∧ acc = (([numB wf, numB wp].take j).map D.bl)) ⟨rfl, rfl⟩ ?_ (by simp [lim]) ?_
        · rintro j x acc ρ hx ha ⟨rfl, rfl⟩
          match j, hx with
          | 0, hx =>
            cases hx
            refine W_lcF rfl ?_
            decreasing_trivial_pre_omega
            refine ⟨_, _, c1, ?_⟩
            dsimp only [back, List.set]
            decreasing_trivial_pre_omega
            all_goals (first | exact ⟨rfl, rfl⟩ | exact rfl)
          | 1, hx =>
            cases hx
            refine W_lcF rfl ?_
            decreasing_trivial_pre_omega
            refine ⟨_, _, c2, ?_⟩
            dsimp only [back, List.set]
            decreasing_trivial_pre_omega
            all_goals (first | exact ⟨rfl, rfl⟩ | exact rfl)
          | j + 2, hx => simp at hx
        · rintro acc ρ ha ⟨rfl, rfl⟩
          decreasing_trivial_pre_omega
          try refine O_allB ?_
          have hall : (([numB wf, numB wp] : List Bool).all id) = false := by
            simpa using hnum
          generalize ([numB wf, numB wp] : List Bool).all id = tt at hall ⊢
          subst hall
          refine ⟨fun _ => ?_, fun z => by cases z⟩
          decreasing_trivial_pre_omega
          exact ⟨rfl, rfl⟩
      · have h5' : ((strD (splS 32 [] l)).length : Int) ≠ 5 := by
          rw [show (strD (splS 32 [] l)).length = (splS 32 [] l).length by simp [strD]]; omega
        generalize strD (splS 32 [] l) = ws at h5' ⊢
        have h6 : ((ws.length : Int) == 5) = false := by simpa using h5'
        decreasing_trivial_pre_omega
        exact ⟨rfl, rfl⟩
  · rintro ρ ⟨hik, x3, x4, x5, rfl⟩
    exfalso
    rw [enumD_len] at hik
    simp [strD] at hik
    omega
set_option maxHeartbeats 4000000 in
theorem readNo2 {n : Nat} (B : RdB (cl n)) (s t : List Nat) (hs : s.length ≤ 80) (g : gd s) (ht : TxOk t) (hr : firstF (linesF t) = none)
    (z : Ex) (hm : ∀ b : Option Bool, cl n "need_marks" [.str s, seqL b ((rowsF (linesF t)).map Mk.d)] = .err z [none, none]) : cl (n + 1) "read" [.str s, .str t] = .err z [none, none] := by
  refine of_ErQ ?_
  refine F_err (fd := i_read) rfl rfl ?_
  show WX (exs (run tbl.fds n) i_read.body [some (.str s), some (.str t), none, none, none, none, none]) _
  unfold cl at B hm
  generalize run tbl.fds n = call at B hm ⊢
  unfold i_read
  decreasing_trivial_pre_omega
  refine ⟨_, _, B.sig s hs g, ?_⟩
  dsimp only [back, List.set]
  decreasing_trivial_pre_omega
  have hls : firstF (linesF t) = none → ∀ l ∈ linesF t, ∃ m, rowF l = some m := fun h l hl => by
    have := List.findIdx?_eq_none_iff.mp h l hl
    cases hq : rowF l with
    | none => rw [hq] at this; simp at this
    | some m => exact ⟨m, rfl⟩
  have hls := hls hr
  have htx := lines_tx ht
  have hmany := lines_many ht
  have tl := ht.len
  by_cases h0 : t = []
  · subst h0
    have hnil : linesF [] = [] := rfl
    refine ⟨fun z => by simp at z, fun _ => ?_⟩
    refine I_enumN (b := some true) (xs := []) rfl ?_
    refine ⟨fun i ρ => ρ = [some (.str s), some (.str []), some (.lst true []), none, none, none, none], rfl, ?_, ?_⟩
    · rintro i x ρ hx _
      simp [enumD] at hx
    · rintro ρ rfl
      refine XE_expr (ER_call ?_)
      decreasing_trivial_pre_omega
      refine ⟨_, _, hm (some false), ?_⟩
      dsimp only [back, List.set]
      exact ⟨rfl, rfl⟩
  · refine ⟨fun _ => ?_, fun z => by simp [h0] at z⟩
    have hsp : splS 10 [] t = linesF t := by unfold linesF; rw [if_neg h0]
    refine ⟨O_split (by decide) (by omega) ?_⟩
    rw [hsp]
    generalize linesF t = ls at hls htx hmany hm ⊢
    refine I_enumN (b := some true) (pure_strD ls) ?_
    refine ⟨fun i ρ => ∃ x3 x4 x5, ρ = [some (.str s), some (.str t), some (.lst true ((rowsF (ls.take i)).map Mk.d)), x3, x4, x5, none], ⟨_, _, _, rfl⟩, ?_, ?_⟩
    · rintro i x ρ hx ⟨x3, x4, x5, rfl⟩
      have hi : i < ls.length := by
        have := (List.getElem?_eq_some_iff.mp hx).1
        rw [enumD_len] at this; simpa using this
      have ex : x = .tup [.int (i : Int), .str ls[i]] := by
        have := enumD_at 0 (strD ls) i (.str ls[i]) (by simp [hi])
        rw [this] at hx
        simpa using hx.symm
      subst ex
      obtain ⟨m, hrow⟩ := hls _ (List.getElem_mem hi)
      have htl := htx _ (List.getElem_mem hi)
      have hnext := rowsF_take (ls := ls) (i := i) (m := m) ⟨_, List.getElem?_eq_getElem hi, hrow⟩
      generalize ls[i] = l at hrow htl
      have h5 : (splS 32 [] l).length = 5 := by
        by_cases h : (splS 32 [] l).length = 5
        · exact h
        · rw [rowF_no h] at hrow; cases hrow
      obtain ⟨wa, wb, wf, wp, ww, hw⟩ := five h5
      have wt := words_tx htl
      rw [hw] at wt
      rw [rowF_of hw] at hrow
      split at hrow
      case isFalse => cases hrow
      rename_i hnum
      cases hrow
      rw [Bool.and_eq_true] at hnum
      obtain ⟨n1, n2⟩ := hnum
      have c1 := B.num wf (wt wf (by simp)).1 (by have := (wt wf (by simp)).2; omega)
      have c2 := B.num wp (wt wp (by simp)).1 (by have := (wt wp (by simp)).2; omega)
      rw [n1] at c1
      rw [n2] at c2
      have tl2 := htl.2
      refine ⟨_, rfl, ?_⟩
      try dsimp only [List.set]
      decreasing_trivial_pre_omega
      try refine O_split (by decide) (by omega) ?_
      rw [hw]
      decreasing_trivial_pre_omega
      rw [show frzL (cutD (strD [wa, wb, wf, wp, ww]) (some 2) (some 4)) = [D.str wf, D.str wp] from rfl]
      refine W_lcloop (fun j acc ρ => ρ = [some (.str s), some (.str t), some (.lst true ((rowsF (ls.take i)).map Mk.d)), some (.int (i : Int)), some (.str l), some (.lst true (strD [wa, wb, wf, wp, ww])), none] ∧ acc = List.replicate j (.bl true)) ⟨rfl, rfl⟩ ?_ (by simp [lim]) ?_
      · rintro j x acc ρ hx ha ⟨rfl, rfl⟩
        match j, hx with
        | 0, hx =>
          cases hx
          refine W_lcF rfl ?_
          decreasing_trivial_pre_omega
          refine ⟨_, _, c1, ?_⟩
          dsimp only [back, List.set]
          decreasing_trivial_pre_omega
          all_goals (first | exact ⟨rfl, rfl⟩ | exact rfl)
        | 1, hx =>
          cases hx
          refine W_lcF rfl ?_
          decreasing_trivial_pre_omega
          refine ⟨_, _, c2, ?_⟩
          dsimp only [back, List.set]
          decreasing_trivial_pre_omega
          all_goals (first | exact ⟨rfl, rfl⟩ | exact rfl)
        | j + 2, hx => simp at hx
      · rintro acc ρ ha ⟨rfl, rfl⟩
        decreasing_trivial_pre_omega
        try refine O_intT n1 ?_
        decreasing_trivial_pre_omega
        try refine O_intT n2 ?_
        decreasing_trivial_pre_omega
        have hlen : (rowsF (ls.take i)).length ≤ 901 := by
          have := rowsF_len (ls := ls.take i)
          rw [List.length_take] at this; omega
        refine I_app (by rw [List.length_map]; simp only [lim]; omega) ?_
        decreasing_trivial_pre_omega
        refine ⟨some (.int (i : Int)), some (.str l), some (.lst true (strD [wa, wb, wf, wp, ww])), ?_⟩
        rw [hnext, List.map_append]
        rfl
    · rintro ρ ⟨x3, x4, x5, rfl⟩
      rw [enumD_len, show (strD ls).length = ls.length by simp [strD], List.take_length]
      have hpm : pureL ((rowsF ls).map Mk.d) = true := pure_ms _
      refine XE_expr (ER_call ?_)
      decreasing_trivial_pre_omega
      refine ⟨_, _, hm (some false), ?_⟩
      dsimp only [back, List.set]
      exact ⟨rfl, rfl⟩
end Lk21

namespace Lk21
open PySem L2 VI
def sgs (w : List Nat) : List D := w.map fun c => D.str [c]
def InP (b : Bool) (d : D) (outs : List (Option D)) : Prop := d = .bl b ∧ outs = [none]
set_option maxHeartbeats 2000000 in
theorem lawNumOk (n : Nat) (w : List Nat) (ht : tx w) (hl : w.length ≤ 1000) : cl (n + 1) "_law_is_number" [.str w] = .ok (.bl (numB w)) [none] := by
  have main : ∃ d outs, cl (n + 1) "_law_is_number" [.str w] = .ok d outs ∧ InP (numB w) d outs := by
    refine F_run (fd := i_law_is_number) rfl rfl ?_
    show WX (exs (run tbl.fds n) i_law_is_number.body [some (.str w), none, none]) _
    generalize run tbl.fds n = call
    unfold i_law_is_number
    decreasing_trivial_pre_omega
    refine W_lcloop (fun i acc ρ => ρ = [some (.str w), none, none] ∧ acc = sgs ((w.take i).filter dgB)) ⟨rfl, rfl⟩ ?_ (by simp [lim]; omega) ?_
    · rintro i x acc ρ hx ha ⟨rfl, rfl⟩
      have hi : i < w.length := by
        have := (List.getElem?_eq_some_iff.mp hx).1
        simpa using this
      have ex : x = .str [w[i]] := by
        rw [List.getElem?_map, List.getElem?_eq_getElem hi] at hx
        simpa using hx.symm
      subst ex
      rw [List.take_succ_eq_append_getElem hi, List.filter_append]
      generalize w[i] = c
      refine W_lcF1 rfl ?_
      cases h : dgB c with
      | true =>
        have hd := h
        simp only [dgB, Bool.and_eq_true, decide_eq_true_eq] at hd
        have d1 : decide ([c] < [48]) = false := by rw [lt1]; simp; omega
        have d2 : decide ([57] < [c]) = false := by rw [lt1]; simp; omega
        decreasing_trivial_pre_omega
        rw [show List.filter dgB [c] = [c] by simp [h]]
        simp [sgs]
      | false =>
        rw [show List.filter dgB [c] = [] by simp [h]]
        by_cases h1 : c < 48
        · have d1 : decide ([c] < [48]) = true := by rw [lt1]; simp; omega
          decreasing_trivial_pre_omega
          simp [sgs]
        · have h2 : 57 < c := by
            simp only [dgB, Bool.and_eq_false_iff, decide_eq_false_iff_not] at h
            omega
          have d1 : decide ([c] < [48]) = false := by rw [lt1]; simp; omega
          have d2 : decide ([57] < [c]) = true := by rw [lt1]; simp; omega
          decreasing_trivial_pre_omega
          simp [sgs]
    · rintro acc ρ ha ⟨rfl, rfl⟩
      rw [show (w.map fun c => D.str [c]).length = w.length by simp, List.take_length]
      rcases w with _ | ⟨a, _ | ⟨b, _ | ⟨c, r⟩⟩⟩
      · decreasing_trivial_pre_omega
        exact ⟨rfl, rfl⟩
      · cases h : dgB a with
        | false =>
          rw [show List.filter dgB [a] = [] by simp [h]]
          decreasing_trivial_pre_omega
          exact ⟨by simp [numB, h], rfl⟩
        | true =>
          rw [show List.filter dgB [a] = [a] by simp [h]]
          decreasing_trivial_pre_omega
          refine ⟨fun h0 => ?_, fun h0 => ⟨by simp [numB, h], rfl⟩⟩
          decreasing_trivial_pre_omega
          all_goals (refine ⟨?_, rfl⟩; simp [numB, h]; simpa using h0)
      · cases h : dgB a <;> cases h2 : dgB b
        · rw [show List.filter dgB [a, b] = [] by simp [h, h2]]
          decreasing_trivial_pre_omega
          exact ⟨by simp [numB, h, h2], rfl⟩
        · rw [show List.filter dgB [a, b] = [b] by simp [h, h2]]
          decreasing_trivial_pre_omega
          exact ⟨by simp [numB, h, h2], rfl⟩
        · rw [show List.filter dgB [a, b] = [a] by simp [h, h2]]
          decreasing_trivial_pre_omega
          exact ⟨by simp [numB, h, h2], rfl⟩
        · rw [show List.filter dgB [a, b] = [a, b] by simp [h, h2]]
          decreasing_trivial_pre_omega
          refine ⟨?_, rfl⟩
          by_cases h0 : a = 48 <;> simp [numB, h, h2, h0]
          all_goals (first | (subst h0; simp [h]; done) | skip)
      · have d1 : decide ((1 : Int) ≤ ((a :: b :: c :: r).length : Int)) = true := decide_eq_true (by rw [List.length_cons]; omega)
        have d2 : decide (((a :: b :: c :: r).length : Int) ≤ 2) = false := decide_eq_false (by simp only [List.length_cons]; omega)
        have hb : numB (a :: b :: c :: r) = false := rfl
        generalize a :: b :: c :: r = w at hl d1 d2 hb ⊢
        decreasing_trivial_pre_omega
        refine ⟨fun _ => ?_, fun z => by rw [d1] at z; cases z⟩
        decreasing_trivial_pre_omega
        exact ⟨fun z => (by rw [d2] at z; cases z), fun _ => ⟨by rw [hb], rfl⟩⟩
  obtain ⟨d, outs, e, rfl, rfl⟩ := main
  exact e
end Lk21

namespace Lk21
open PySem L2 VI
def DueR (N : Nat) (t : List Nat) (d : D) : Prop :=
  (∃ k : Nat, firstF (linesF t) = some k ∧ d = .tup [.str [116, 101, 120, 116], .int (k : Int)]) ∨
  (firstF (linesF t) = none ∧ ∃ (k : Nat) (h : k < (rowsF (linesF t)).length), k ≤ 40 ∧ (∀ i (hi : i < (rowsF (linesF t)).length), i < k → (rowsF (linesF t))[i].ok N) ∧ (k = 40 ∨ ¬ (rowsF (linesF t))[k].ok N) ∧ d = .tup [.str [109, 97, 114, 107], .int (k : Int)]) ∨
  (firstF (linesF t) = none ∧ (∀ m ∈ rowsF (linesF t), m.ok N) ∧ (rowsF (linesF t)).length ≤ 40 ∧ d = .tup [.str [116, 111, 108, 100], .lst false ((rowsF (linesF t)).map Mk.d)])
/-- what a row's words are bounded by -/
structure MkB (m : Mk) : Prop where
  hand : m.hand.length ≤ 900
  layer : m.layer.length ≤ 900
  word : m.word.length ≤ 900
  first : m.first < 100
  past : m.past < 100
theorem row_b {l : List Nat} {m : Mk} (h : Lk21.tx l ∧ l.length ≤ 900) (e : rowF l = some m) : MkB m := by
  have h5 : (splS 32 [] l).length = 5 := by
    by_cases h5 : (splS 32 [] l).length = 5
    · exact h5
    · rw [rowF_no h5] at e; cases e
  obtain ⟨wa, wb, wf, wp, ww, hw⟩ := five h5
  have wt := words_tx h
  rw [hw] at wt
  rw [rowF_of hw] at e
  split at e
  case isFalse => cases e
  rename_i hnum
  cases e
  rw [Bool.and_eq_true] at hnum
  exact ⟨(wt wa (by simp)).2, (wt wb (by simp)).2, (wt ww (by simp)).2, numV_lt hnum.1, numV_lt hnum.2⟩
theorem rows_b {t : List Nat} (h : TxOk t) : ∀ m ∈ rowsF (linesF t), MkB m := by
  intro m hm
  unfold rowsF at hm
  obtain ⟨l, h1, h2⟩ := List.mem_filterMap.mp hm
  exact row_b (lines_tx h l h1) h2
/-- signs a..z -/
def azB (c : Nat) : Bool := decide (97 ≤ c) && decide (c ≤ 122)
theorem az_abc {c : Nat} : azB c = true ↔ c ∈ abc := by
  constructor
  · intro h
    simp only [azB, Bool.and_eq_true, decide_eq_true_eq] at h
    have : ∀ k, k < 26 → 97 + k ∈ abc := by decide
    have h2 := this (c - 97) (by omega)
    rwa [show 97 + (c - 97) = c by omega] at h2
  · intro h
    have : ∀ c ∈ abc, azB c = true := by decide
    exact this c h
theorem nm_az {w : List Nat} : nm w ↔ (1 ≤ w.length ∧ w.length ≤ 6) ∧ ¬ (w.filter azB).length < w.length := by
  have hle := List.length_filter_le azB w
  constructor
  · rintro ⟨h1, h2, h3⟩
    refine ⟨⟨h1, h2⟩, ?_⟩
    rw [List.filter_eq_self.mpr fun c hc => az_abc.mpr (h3 c hc)]
    omega
  · rintro ⟨⟨h1, h2⟩, h3⟩
    refine ⟨h1, h2, fun c hc => az_abc.mp ?_⟩
    have := List.length_filter_eq_length_iff.mp (show (w.filter azB).length = w.length by omega)
    exact this c hc
def DuP (N : Nat) (t : List Nat) (d : D) (outs : List (Option D)) : Prop := DueR N t d ∧ outs = [none, none]
structure DuB (call : CallT) : Prop where
  num : ∀ w : List Nat, tx w → w.length ≤ 1000 → call "_law_is_number" [.str w] = .ok (.bl (numB w)) [none]
theorem rngN_at {k i : Nat} {x : D} (h : (rngO 0 (k : Int))[i]? = some x) : i < k ∧ x = .int (i : Int) := rngO_at h
theorem firstF_of {ls : List (List Nat)} {i : Nat} (hi : i < ls.length) (h1 : rowF ls[i] = none) (h2 : ∀ j (hj : j < ls.length), j < i → ∃ m, rowF ls[j] = some m) : firstF ls = some i := by
  unfold firstF
  refine List.findIdx?_eq_some_iff_getElem.mpr ⟨hi, by rw [h1]; rfl, fun j hji => ?_⟩
  obtain ⟨m, e⟩ := h2 j (by omega) hji
  rw [e]; simp
theorem firstF_none {ls : List (List Nat)} (h2 : ∀ j (hj : j < ls.length), ∃ m, rowF ls[j] = some m) : firstF ls = none := by
  unfold firstF
  refine List.findIdx?_eq_none_iff.mpr fun l hl => ?_
  obtain ⟨j, hj, rfl⟩ := List.mem_iff_getElem.mp hl
  obtain ⟨m, e⟩ := h2 j hj
  rw [e]; rfl
theorem line_cut {t : List Nat} {K : D → Prop} (hl : t.length ≤ 900) (h : K (.lst true (strD (linesF t)))) : ((!decide (t = [])) = true → OP (.mt (.split [10])) [.str t] K) ∧ ((!decide (t = [])) = false → K (.lst true [])) := by
  by_cases h0 : t = []
  · subst h0
    exact ⟨fun z => by simp at z, fun _ => h⟩
  · refine ⟨fun _ => ⟨O_split (by decide) (by omega) ?_⟩, fun z => by simp [h0] at z⟩
    have hsp : splS 10 [] t = linesF t := by unfold linesF; rw [if_neg h0]
    rw [hsp]; exact h
set_option maxHeartbeats 8000000 in
theorem dueOk {n : Nat} (B : DuB (cl n)) (s t : List Nat) (hs : s.length ≤ 80) (ht : TxOk t) : ∃ d, cl (n + 1) "_law_due" [.str s, .str t] = .ok d [none, none] ∧ DueR s.length t d := by
  have main : ∃ d outs, cl (n + 1) "_law_due" [.str s, .str t] = .ok d outs ∧ DuP s.length t d outs := by
    refine F_run (fd := i_law_due) rfl rfl ?_
    show WX (exs (run tbl.fds n) i_law_due.body [some (.str s), some (.str t), none, none, none, none, none, none, none, none]) _
    unfold cl at B
    generalize run tbl.fds n = call at B ⊢
    unfold i_law_due
    have htx := lines_tx ht
    have hmany := lines_many ht
    have hrb := rows_b ht
    have tl := ht.len
    decreasing_trivial_pre_omega
    refine line_cut tl ?_
    unfold DuP DueR
    generalize hL : linesF t = ls at htx hmany hrb ⊢
    have hsl : (strD ls).length = ls.length := by simp [strD]
    decreasing_trivial_pre_omega
    refine ⟨fun i ρ => i ≤ ls.length ∧ (∀ j (hj : j < ls.length), j < i → ∃ m, rowF ls[j] = some m) ∧ ∃ x4 x5, ρ = [some (.str s), some (.str t), some (.lst true ((rowsF (ls.take i)).map Mk.d)), some (.lst true (strD ls)), x4, x5, none, none, none, none], ⟨Nat.zero_le _, fun j _ h => by omega, _, _, rfl⟩, ?_, ?_⟩
    · rintro i x ρ hx ⟨hil, hgood, x4, x5, rfl⟩
      rw [hsl] at hx
      obtain ⟨hi, rfl⟩ := rngN_at hx
      have hat : atI (strD ls) (i : Int) = some (.str ls[i]) := by rw [atD_nat (by rw [hsl]; exact hi)]; simp [strD, hi]
      have htl := htx _ (List.getElem_mem hi)
      have hfs : rowF ls[i] = none → firstF ls = some i := fun h => firstF_of hi h hgood
      have hnx : ∀ m, rowF ls[i] = some m → rowsF (ls.take (i + 1)) = rowsF (ls.take i) ++ [m] := fun m h => rowsF_take ⟨_, List.getElem?_eq_getElem hi, h⟩
      have hgd : ∀ m, rowF ls[i] = some m → ∀ j (hj : j < ls.length), j < i + 1 → ∃ m, rowF ls[j] = some m := fun m h j hj hji => by
        by_cases e : j = i
        · subst e; exact ⟨m, h⟩
        · exact hgood j hj (by omega)
      generalize ls[i] = l at hat htl hfs hnx hgd
      have tl2 := htl.2
      refine ⟨_, rfl, ?_⟩
      try dsimp only [List.set]
      decreasing_trivial_pre_omega
      try refine O_ixL hat ?_
      decreasing_trivial_pre_omega
      try refine O_split (by decide) (by omega) ?_
      by_cases h5 : (splS 32 [] l).length = 5
      · obtain ⟨wa, wb, wf, wp, ww, hw⟩ := five h5
        have wt := words_tx htl
        rw [hw] at wt
        have hrow := rowF_of hw
        have c1 := B.num wf (wt wf (by simp)).1 (by have := (wt wf (by simp)).2; omega)
        have c2 := B.num wp (wt wp (by simp)).1 (by have := (wt wp (by simp)).2; omega)
        rw [hw]
        decreasing_trivial_pre_omega
        refine ⟨_, _, c1, ?_⟩
        dsimp only [back, List.set]
        cases n1 : numB wf with
        | false =>
          rw [n1] at hrow
          decreasing_trivial_pre_omega
          exact ⟨.inl ⟨i, hfs (by rw [hrow]; rfl), rfl⟩, rfl⟩
        | true =>
          decreasing_trivial_pre_omega
          refine ⟨_, _, c2, ?_⟩
          dsimp only [back, List.set]
          cases n2 : numB wp with
          | false =>
            rw [n1, n2] at hrow
            decreasing_trivial_pre_omega
            exact ⟨.inl ⟨i, hfs (by rw [hrow]; rfl), rfl⟩, rfl⟩
          | true =>
            rw [n1, n2] at hrow
            have hrow : rowF l = some ⟨wa, wb, numV wf, numV wp, ww⟩ := by rw [hrow]; rfl
            decreasing_trivial_pre_omega
            try refine O_intT n1 ?_
            decreasing_trivial_pre_omega
            try refine O_intT n2 ?_
            decreasing_trivial_pre_omega
            have hlen : (rowsF (ls.take i)).length ≤ 901 := by
              have := rowsF_len (ls := ls.take i)
              rw [List.length_take] at this; omega
            refine I_app (by rw [List.length_map]; simp only [lim]; omega) ?_
            decreasing_trivial_pre_omega
            refine ⟨hi, hgd _ hrow, some (.int (i : Int)), some (.lst true (strD [wa, wb, wf, wp, ww])), ?_⟩
            rw [hnx _ hrow, List.map_append]
            rfl
      · have h5' : ((strD (splS 32 [] l)).length : Int) ≠ 5 := by
          rw [show (strD (splS 32 [] l)).length = (splS 32 [] l).length by simp [strD]]; omega
        have hrow := rowF_no h5
        generalize strD (splS 32 [] l) = ws at h5' ⊢
        have h6 : ((ws.length : Int) == 5) = false := by simpa using h5'
        decreasing_trivial_pre_omega
        exact ⟨.inl ⟨i, hfs hrow, rfl⟩, rfl⟩
    · rintro ρ ⟨hil, hgood, x4, x5, rfl⟩
      rw [rngO_len, hsl] at hgood ⊢
      have hnone := firstF_none fun j hj => hgood j hj (by simpa using hj)
      rw [show ls.take ((ls.length : Int) - 0).toNat = ls by simp]
      have hmm := rowsF_len (ls := ls)
      generalize hms : rowsF ls = ms at hrb hmm ⊢
      have hml : (ms.map Mk.d).length = ms.length := List.length_map ..
      have hm9 : (ms.map Mk.d).length ≤ 901 := by omega
      decreasing_trivial_pre_omega
      refine ⟨fun i ρ => i ≤ 40 ∧ (∀ j (hj : j < ms.length), j < i → ms[j].ok s.length) ∧ ∃ x4 x5 x6 x7 x8, ρ = [some (.str s), some (.str t), some (.lst true (ms.map Mk.d)), some (.lst true (strD ls)), x4, x5, x6, x7, x8, none], ⟨Nat.zero_le _, fun j _ h => by omega, _, _, _, _, _, rfl⟩, ?_, ?_⟩
      · rintro i x ρ hx ⟨hi40, hok, x4', x5', x6, x7, x8, rfl⟩
        rw [hml] at hx
        obtain ⟨hi, rfl⟩ := rngN_at hx
        have hat : atI (ms.map Mk.d) (i : Int) = some (ms[i]).d := by rw [atD_nat (by rw [hml]; exact hi)]; simp [hi]
        have hb := hrb _ (List.getElem_mem hi)
        have hnext : ms[i].ok s.length → ∀ j (hj : j < ms.length), j < i + 1 → ms[j].ok s.length := fun h j hj hji => by
          by_cases e : j = i
          · subst e; exact h
          · exact hok j hj (by omega)
        have hret : (i = 40 ∨ ¬ ms[i].ok s.length) → ∃ (k : Nat) (h : k < ms.length), k ≤ 40 ∧ (∀ i (hi : i < ms.length), i < k → ms[i].ok s.length) ∧ (k = 40 ∨ ¬ ms[k].ok s.length) ∧ D.tup [.str [109, 97, 114, 107], .int (i : Int)] = D.tup [.str [109, 97, 114, 107], .int (k : Int)] := fun h => ⟨i, hi, hi40, fun j hj hji => hok j hj hji, h, rfl⟩
        generalize ms[i] = m at hat hb hnext hret
        obtain ⟨hand, layer, first, past, word⟩ := m
        obtain ⟨b1, b2, b3, b4, b5⟩ := hb
        dsimp only at b1 b2 b3 b4 b5
        have hpm : pureL (ms.map Mk.d) = true := pure_ms _
        rw [show (Mk.mk hand layer first past word).d = D.tup [.str hand, .str layer, .int (first : Int), .int (past : Int), .str word] from rfl] at hat
        refine ⟨_, rfl, ?_⟩
        try dsimp only [List.set]
        decreasing_trivial_pre_omega
        rw [show frzL [D.str hand, D.str layer, D.str word] = [D.str hand, .str layer, .str word] by simp [frzL, D.frz]]
        refine ⟨fun j ρ => ∃ (Bd : List (List Nat)) (x7 x8 : Option D), ρ = [some (.str s), some (.str t), some (.lst true (ms.map Mk.d)), some (.lst true (strD ls)), some (.int (i : Int)), x5', some (.lst true (strD Bd)), x7, x8, none] ∧ (Bd = [] ↔ ∀ q ∈ ([hand, layer, word].take j), nm q) ∧ Bd.length ≤ j, ⟨[], _, _, rfl, by simp, by simp⟩, ?_, ?_⟩
        · rintro j x ρ hx ⟨Bd, y7, y8, rfl, hBd, hBl⟩
          have hj3 : j < 3 := (List.getElem?_eq_some_iff.mp hx).1
          obtain ⟨q, hq, rfl, hq9⟩ : ∃ q, [hand, layer, word][j]? = some q ∧ x = .str q ∧ q.length ≤ 900 := by
            match j, hx with
            | 0, hx => cases hx; exact ⟨_, rfl, rfl, b1⟩
            | 1, hx => cases hx; exact ⟨_, rfl, rfl, b2⟩
            | 2, hx => cases hx; exact ⟨_, rfl, rfl, b3⟩
            | j + 3, hx => simp at hx
          have htk : [hand, layer, word].take (j + 1) = [hand, layer, word].take j ++ [q] := by
            obtain ⟨h1, h2⟩ := List.getElem?_eq_some_iff.mp hq
            rw [List.take_succ_eq_append_getElem h1, h2]
          refine ⟨_, rfl, ?_⟩
          try dsimp only [List.set]
          decreasing_trivial_pre_omega
          refine W_lcloop (fun c acc ρ => ρ = [some (.str s), some (.str t), some (.lst true (ms.map Mk.d)), some (.lst true (strD ls)), some (.int (i : Int)), x5', some (.lst true (strD Bd)), some (.str q), y8, none] ∧ acc = sgs ((q.take c).filter azB)) ⟨rfl, rfl⟩ ?_ (by simp [lim]; omega) ?_
          · rintro c x acc ρ hx ha ⟨rfl, rfl⟩
            have hc : c < q.length := by
              have := (List.getElem?_eq_some_iff.mp hx).1
              simpa using this
            have ex : x = .str [q[c]] := by
              rw [List.getElem?_map, List.getElem?_eq_getElem hc] at hx
              simpa using hx.symm
            subst ex
            rw [List.take_succ_eq_append_getElem hc, List.filter_append]
            generalize q[c] = z
            refine W_lcF1 rfl ?_
            cases h : azB z with
            | true =>
              have hd := h
              simp only [azB, Bool.and_eq_true, decide_eq_true_eq] at hd
              have d1 : decide ([z] < [97]) = false := by rw [lt1]; simp; omega
              have d2 : decide ([122] < [z]) = false := by rw [lt1]; simp; omega
              decreasing_trivial_pre_omega
              rw [show List.filter azB [z] = [z] by simp [h]]
              simp [sgs]
            | false =>
              rw [show List.filter azB [z] = [] by simp [h]]
              by_cases h1 : z < 97
              · have d1 : decide ([z] < [97]) = true := by rw [lt1]; simp; omega
                decreasing_trivial_pre_omega
                simp [sgs]
              · have h2 : 122 < z := by
                  simp only [azB, Bool.and_eq_false_iff, decide_eq_false_iff_not] at h
                  omega
                have d1 : decide ([z] < [97]) = false := by rw [lt1]; simp; omega
                have d2 : decide ([122] < [z]) = true := by rw [lt1]; simp; omega
                decreasing_trivial_pre_omega
                simp [sgs]
          · rintro acc ρ ha ⟨rfl, rfl⟩
            rw [show (q.map fun c => D.str [c]).length = q.length by simp, List.take_length]
            have hfl : (sgs (q.filter azB)).length = (q.filter azB).length := by simp [sgs]
            have hfle := List.length_filter_le azB q
            have hnm := nm_az (w := q)
            generalize hG : sgs (q.filter azB) = G at hfl ha ⊢
            have good : nm q → ∃ (Bd' : List (List Nat)), Bd' = Bd ∧ (Bd' = [] ↔ ∀ q ∈ [hand, layer, word].take (j + 1), nm q) ∧ Bd'.length ≤ j + 1 := fun h => ⟨Bd, rfl, by
              rw [htk, hBd]
              constructor
              · intro z q' hq'
                rcases List.mem_append.mp hq' with h' | h'
                · exact z q' h'
                · rw [List.mem_singleton.mp h']; exact h
              · intro z q' hq'
                exact z q' (List.mem_append_left _ hq'), by omega⟩
            have bad : ¬ nm q → ((Bd ++ [q] : List (List Nat)) = [] ↔ ∀ q ∈ [hand, layer, word].take (j + 1), nm q) ∧ (Bd ++ [q]).length ≤ j + 1 := fun h => ⟨by
              constructor
              · intro z; simp at z
              · intro z
                exact absurd (z q (by rw [htk]; simp)) h, by simp; omega⟩
            have hBs : (strD Bd).length = Bd.length := by simp [strD]
            by_cases hL1 : 1 ≤ q.length
            · have d1 : decide ((1 : Int) ≤ (q.length : Int)) = true := decide_eq_true (by omega)
              by_cases hL2 : q.length ≤ 6
              · have d2 : decide ((q.length : Int) ≤ 6) = true := decide_eq_true (by omega)
                by_cases hL3 : (q.filter azB).length < q.length
                · have d3 : decide ((G.length : Int) < (q.length : Int)) = true := decide_eq_true (by omega)
                  obtain ⟨g1, g2⟩ := bad fun h => (hnm.mp h).2 hL3
                  decreasing_trivial_pre_omega
                  refine ⟨Bd ++ [q], some (.str q), some (.lst true G), by simp [strD], g1, g2⟩
                · have d3 : decide ((G.length : Int) < (q.length : Int)) = false := decide_eq_false (by omega)
                  obtain ⟨_, rfl, g1, g2⟩ := good (hnm.mpr ⟨⟨hL1, hL2⟩, hL3⟩)
                  decreasing_trivial_pre_omega
                  exact ⟨_, some (.str q), some (.lst true G), rfl, g1, g2⟩
              · have d2 : decide ((q.length : Int) ≤ 6) = false := decide_eq_false (by omega)
                obtain ⟨g1, g2⟩ := bad fun h => hL2 h.2.1
                decreasing_trivial_pre_omega
                refine ⟨Bd ++ [q], some (.str q), some (.lst true G), by simp [strD], g1, g2⟩
            · have d1 : decide ((1 : Int) ≤ (q.length : Int)) = false := decide_eq_false (by omega)
              obtain ⟨g1, g2⟩ := bad fun h => hL1 h.1
              decreasing_trivial_pre_omega
              refine ⟨Bd ++ [q], some (.str q), some (.lst true G), by simp [strD], g1, g2⟩
        · rintro ρ ⟨Bd, y7, y8, rfl, hBd, hBl⟩
          have hall : (∀ q ∈ [hand, layer, word].take 3, nm q) ↔ nm hand ∧ nm layer ∧ nm word := by simp
          have hBd : Bd = [] ↔ nm hand ∧ nm layer ∧ nm word := hBd.trans hall
          by_cases h40 : i = 40
          · have d1 : ((i : Int) == 40) = true := by simp; omega
            decreasing_trivial_pre_omega
            exact ⟨.inr (.inl ⟨hnone, hret (.inl h40)⟩), rfl⟩
          have d1 : ((i : Int) == 40) = false := by simp; omega
          by_cases hB0 : Bd = []
          · subst hB0
            obtain ⟨n1, n2, n3⟩ := hBd.mp rfl
            by_cases g1 : first < past
            · have d2 : decide ((first : Int) < (past : Int)) = true := decide_eq_true (by omega)
              by_cases g2 : past ≤ s.length
              · have d3 : decide ((past : Int) ≤ (s.length : Int)) = true := decide_eq_true (by omega)
                decreasing_trivial_pre_omega
                exact ⟨hnext ⟨n1, n2, n3, g1, g2⟩, _, _, _, _, _, rfl⟩
              · have d3 : decide ((past : Int) ≤ (s.length : Int)) = false := decide_eq_false (by omega)
                decreasing_trivial_pre_omega
                exact ⟨.inr (.inl ⟨hnone, hret (.inr fun z => g2 z.2.2.2.2)⟩), rfl⟩
            · have d2 : decide ((first : Int) < (past : Int)) = false := decide_eq_false (by omega)
              decreasing_trivial_pre_omega
              exact ⟨.inr (.inl ⟨hnone, hret (.inr fun z => g1 z.2.2.2.1)⟩), rfl⟩
          · decreasing_trivial_pre_omega
            try refine O_neStr (b := []) ?_
            rw [decide_eq_false hB0]
            decreasing_trivial_pre_omega
            exact ⟨.inr (.inl ⟨hnone, hret (.inr fun z => hB0 (hBd.mpr ⟨z.1, z.2.1, z.2.2.1⟩))⟩), rfl⟩
      · rintro ρ ⟨hi40, hok, x4', x5', x6, x7, x8, rfl⟩
        have hpm : pureL (ms.map Mk.d) = true := pure_ms _
        rw [rngO_len, hml] at hok hi40
        decreasing_trivial_pre_omega
        exact ⟨.inr (.inr ⟨hnone, fun m hm => by
          obtain ⟨j, hj, rfl⟩ := List.mem_iff_getElem.mp hm
          exact hok j hj (by simpa using hj), by simpa using hi40, rfl⟩), rfl⟩
  obtain ⟨d, outs, e, h1, rfl⟩ := main
  exact ⟨d, e, h1⟩
end Lk21

namespace Lk21
open PySem L2 VI
theorem O_joinW {s : List Nat} {ws : List (List Nat)} {m : Bool} {Qd : D → Prop} (h : (ws.map (·.length)).sum + ws.length * s.length ≤ lim) (q : Qd (.str (joinS s ws))) : WO (opD (.mt (.join s)) [.lst m (strD ws)]) Qd := by
  refine ⟨_, ?_, q⟩
  show (strsO (strD ws)).bind (fun ys => if (ys.map (·.length)).sum + ys.length * s.length ≤ lim then some (D.str (joinS s ys)) else none) = _
  rw [strsO_strD, Option.bind_some, if_pos h]
theorem len_join (s : List Nat) : ∀ ys : List (List Nat), (joinS s ys).length ≤ (ys.map (·.length)).sum + ys.length * s.length
  | [] => by simp [joinS]
  | [x] => by simp [joinS]
  | x :: y :: r => by
    have := len_join s (y :: r)
    show (x ++ s ++ joinS s (y :: r)).length ≤ _
    simp only [List.length_append, List.map_cons, List.sum_cons, List.length_cons, Nat.add_mul] at *
    omega
theorem sum_le {c : Nat} : ∀ {l : List Nat}, (∀ x ∈ l, x ≤ c) → l.sum ≤ l.length * c
  | [], _ => by simp
  | x :: r, h => by
    have h1 := h x List.mem_cons_self
    have h2 := sum_le fun y hy => h y (List.mem_cons_of_mem _ hy)
    simp only [List.sum_cons, List.length_cons, Nat.add_mul]
    omega
theorem parts_sum {m : Mk} {n : Nat} (h : m.ok n) (hn : n < 100) : ((partsF m).map (·.length)).sum ≤ 22 := by
  obtain ⟨h1, h2, h3, h4, h5⟩ := h
  have a := (dgS_no m.first (by omega)).2
  have b := (dgS_no m.past (by omega)).2
  have c := h1.2.1
  have d := h2.2.1
  have e := h3.2.1
  simp only [partsF, List.map_cons, List.map_nil, List.sum_cons, List.sum_nil]
  omega
theorem line_len {m : Mk} {n : Nat} (h : m.ok n) (hn : n < 100) : (lineF m).length ≤ 27 := by
  have h1 := len_join [32] (partsF m)
  have h2 := parts_sum h hn
  have h3 : (partsF m).length = 5 := rfl
  unfold lineF
  rw [h3] at h1
  simp at h1
  omega
theorem lines_sum {ms : List Mk} {n : Nat} (h : ∀ m ∈ ms, m.ok n) (hn : n < 100) : ((ms.map lineF).map (·.length)).sum ≤ ms.length * 27 := by
  have := sum_le (c := 27) (l := (ms.map lineF).map (·.length)) fun x hx => by
    obtain ⟨y, hy, rfl⟩ := List.mem_map.mp hx
    obtain ⟨m, hm, rfl⟩ := List.mem_map.mp hy
    exact line_len (h m hm) hn
  simpa using this
theorem text_len {ms : List Mk} {n : Nat} (h : ∀ m ∈ ms, m.ok n) (hn : n < 100) : (textF ms).length ≤ ms.length * 28 := by
  have h1 := len_join [10] (ms.map lineF)
  have h2 := lines_sum h hn
  unfold textF
  simp only [List.length_map, List.length_cons, List.length_nil, Nat.mul_one, Nat.zero_add] at h1
  omega
theorem text_tx {ms : List Mk} {n : Nat} (h : ∀ m ∈ ms, m.ok n) (hn : n < 100) : tx (textF ms) := by
  intro c hc
  rcases joinS_mem _ _ c hc with hc | ⟨y, h1, h2⟩
  · rw [List.mem_singleton.mp hc]; decide
  · obtain ⟨m, hm, rfl⟩ := List.mem_map.mp h1
    exact (line_no (h m hm) hn c h2).2
/-- what the marks' comprehension does at one mark -/
theorem parts_at (m : Mk) (j : Nat) (x : D) (h : ([.str m.hand, .str m.layer, .int (m.first : Int), .int (m.past : Int), .str m.word] : List D)[j]? = some x) :
    (∃ w, x = .str w ∧ (partsF m)[j]? = some w) ∨ ∃ k : Nat, x = .int (k : Int) ∧ (k = m.first ∨ k = m.past) ∧ (partsF m)[j]? = some (dgS k) := by
  match j, h with
  | 0, h => cases h; exact .inl ⟨_, rfl, rfl⟩
  | 1, h => cases h; exact .inl ⟨_, rfl, rfl⟩
  | 2, h => cases h; exact .inr ⟨_, rfl, .inl rfl, rfl⟩
  | 3, h => cases h; exact .inr ⟨_, rfl, .inr rfl, rfl⟩
  | 4, h => cases h; exact .inl ⟨_, rfl, rfl⟩
  | j + 5, h => simp at h
theorem take_at {l : List (List Nat)} {j : Nat} {w : List Nat} (h : l[j]? = some w) : strD (l.take (j + 1)) = strD (l.take j) ++ [.str w] := by
  obtain ⟨h1, rfl⟩ := List.getElem?_eq_some_iff.mp h
  show (l.take (j + 1)).map D.str = (l.take j).map D.str ++ [D.str l[j]]
  rw [List.take_succ_eq_append_getElem h1, List.map_append]
  rfl
structure WrB (call : CallT) : Prop where
  sig : ∀ s : List Nat, s.length ≤ 80 → gd s → call "need_signs" [.str s] = .ok .non [none]
  mks : ∀ (b : Option Bool) (s : List Nat) (ms : List Mk), s.length ≤ 80 → ms.length ≤ 40 → (∀ m ∈ ms, m.ok s.length) → call "need_marks" [.str s, seqL b (ms.map Mk.d)] = .ok .non [none, none]
def WrP (ms : List Mk) (d : D) (outs : List (Option D)) : Prop := d = .str (textF ms) ∧ outs = [none, none]
set_option maxHeartbeats 4000000 in
theorem writtenOk {n : Nat} (B : WrB (cl n)) (b : Option Bool) (s : List Nat) (ms : List Mk) (hs : s.length ≤ 80) (g : gd s) (hl : ms.length ≤ 40) (ho : ∀ m ∈ ms, m.ok s.length) :
    cl (n + 1) "written" [.str s, seqL b (ms.map Mk.d)] = .ok (.str (textF ms)) [none, none] := by
  have main : ∃ d outs, cl (n + 1) "written" [.str s, seqL b (ms.map Mk.d)] = .ok d outs ∧ WrP ms d outs := by
    refine F_run (n := n) (fd := i_written) rfl rfl ?_
    show WX (exs (run tbl.fds n) i_written.body [some (.str s), some (seqL b (ms.map Mk.d)), none, none]) _
    unfold cl at B
    generalize run tbl.fds n = call at B ⊢
    have hp : pureL (ms.map Mk.d) = true := pure_ms _
    unfold i_written
    decreasing_trivial_pre_omega
    refine ⟨_, _, B.sig s hs g, ?_⟩
    dsimp only [back, List.set]
    decreasing_trivial_pre_omega
    refine ⟨_, _, B.mks _ s ms hs hl ho, ?_⟩
    dsimp only [back, List.set]
    decreasing_trivial_pre_omega
    simp only [frzB2]
    refine I_seq hp ?_
    refine W_lcloop (fun i acc ρ => ρ = [some (.str s), some (seqL (frzB b) (ms.map Mk.d)), none, none] ∧ acc = strD ((ms.take i).map lineF)) ⟨rfl, rfl⟩ ?_ (by rw [List.length_map]; simp only [lim]; omega) ?_
    · rintro i x acc ρ hx ha ⟨rfl, rfl⟩
      have hi : i < ms.length := by
        have := (List.getElem?_eq_some_iff.mp hx).1
        rwa [List.length_map] at this
      have ex : x = ms[i].d := by
        rw [List.getElem?_map, List.getElem?_eq_getElem hi] at hx
        simpa using hx.symm
      subst ex
      have hmo := ho _ (List.getElem_mem hi)
      have hnx : strD ((ms.take (i + 1)).map lineF) = strD ((ms.take i).map lineF) ++ [.str (lineF ms[i])] := by
        rw [List.take_succ_eq_append_getElem hi, List.map_append]
        simp [strD]
      generalize hG : strD ((ms.take (i + 1)).map lineF) = G at hnx ⊢
      subst hnx
      generalize ms[i] = m at hmo ⊢
      refine W_lcF rfl ?_
      have hpm : pureL [D.str m.hand, .str m.layer, .int (m.first : Int), .int (m.past : Int), .str m.word] = true := rfl
      rw [show m.d = D.tup [.str m.hand, .str m.layer, .int (m.first : Int), .int (m.past : Int), .str m.word] from rfl]
      decreasing_trivial_pre_omega
      rw [show frzL [D.str m.hand, .str m.layer, .int (m.first : Int), .int (m.past : Int), .str m.word] = [D.str m.hand, .str m.layer, .int (m.first : Int), .int (m.past : Int), .str m.word] by simp [frzL, D.frz]]
      refine W_lcloop (fun j acc ρ => ρ = [some (.str s), some (seqL (frzB b) (ms.map Mk.d)), some (.tup [.str m.hand, .str m.layer, .int (m.first : Int), .int (m.past : Int), .str m.word]), none] ∧ acc = strD ((partsF m).take j)) ⟨rfl, rfl⟩ ?_ (by simp [lim]) ?_
      · rintro j x acc ρ hx ha ⟨rfl, rfl⟩
        rcases parts_at m j x hx with ⟨w, rfl, hw⟩ | ⟨k, rfl, hk, hw⟩
        · rw [take_at hw]
          refine W_lcF rfl ?_
          decreasing_trivial_pre_omega
          try refine O_strT ?_
          decreasing_trivial_pre_omega
          all_goals (first | exact ⟨rfl, rfl⟩ | exact rfl)
        · rw [take_at hw]
          have hk2 : k < 100 := by
            have h4 := hmo.2.2.2.1
            have h5 := hmo.2.2.2.2
            rcases hk with rfl | rfl <;> omega
          refine W_lcF rfl ?_
          decreasing_trivial_pre_omega
          try refine O_strN hk2 ?_
          decreasing_trivial_pre_omega
          all_goals (first | exact ⟨rfl, rfl⟩ | exact rfl)
      · rintro acc ρ ha ⟨rfl, rfl⟩
        rw [show [D.str m.hand, .str m.layer, .int (m.first : Int), .int (m.past : Int), .str m.word].length = (partsF m).length from rfl, List.take_length]
        decreasing_trivial_pre_omega
        try refine O_joinW (by have := parts_sum hmo (by omega); have h5 : (partsF m).length = 5 := rfl; rw [h5]; simp only [lim, List.length_cons, List.length_nil]; omega) ?_
        decreasing_trivial_pre_omega
        all_goals (first | exact ⟨rfl, rfl⟩ | exact rfl | skip)
    · rintro acc ρ ha ⟨rfl, rfl⟩
      rw [List.length_map, List.take_length]
      decreasing_trivial_pre_omega
      try refine O_joinW (by have := lines_sum ho (by omega); rw [List.length_map]; simp only [lim, List.length_cons, List.length_nil]; omega) ?_
      decreasing_trivial_pre_omega
      all_goals (first | exact ⟨rfl, rfl⟩ | exact rfl)
  obtain ⟨d, outs, e, rfl, rfl⟩ := main
  exact e
end Lk21

namespace Lk21
open PySem L2 VI
theorem rdB (n : Nat) : RdB (cl (n + 1)) where
  sig := fun s h g => needOk n s h g
  num := fun w h1 h2 => isNumOk n w h1 h2
theorem mks3 (n : Nat) (b : Option Bool) (s : List Nat) (ms : List Mk) (h1 : s.length ≤ 80) (h2 : ms.length ≤ 40) (h3 : ∀ m ∈ ms, m.ok s.length) : cl (n + 2) "need_marks" [.str s, seqL b (ms.map Mk.d)] = .ok .non [none, none] :=
  marksOk (n := n + 1) (fun s h => nameOk n s h) b s ms h1 h2 h3
theorem bad_of {s : List Nat} {ms : List Mk} {k : Nat} (hb : ∀ m ∈ ms, MkB m) (hl : ms.length ≤ 901) (h : k < ms.length) (hk : k ≤ 40) (hpre : ∀ i (hi : i < ms.length), i < k → ms[i].ok s.length) (hbad : k = 40 ∨ ¬ ms[k].ok s.length) : BadL s.length (ms.map Mk.d) k where
  pur := pure_ms _
  len := by rw [List.length_map]; omega
  k40 := hk
  pre := fun i hi => ⟨ms[i], by rw [List.getElem?_map, List.getElem?_eq_getElem (by omega)]; rfl, hpre i (by omega) hi⟩
  bad := by
    refine ⟨ms[k].d, by rw [List.getElem?_map, List.getElem?_eq_getElem h]; rfl, ?_⟩
    have hb := hb _ (List.getElem_mem h)
    generalize ms[k] = m at hb hbad
    obtain ⟨hand, layer, first, past, word⟩ := m
    obtain ⟨b1, b2, b3, b4, b5⟩ := hb
    dsimp only at b1 b2 b3 b4 b5
    refine ⟨hand, layer, word, (first : Int), (past : Int), rfl, by omega, by omega, by omega, ?_⟩
    rcases hbad with h | h
    · exact .inl h
    · by_cases hn : nm hand ∧ nm layer ∧ nm word
      · refine .inr (.inr fun z => h ⟨hn.1, hn.2.1, hn.2.2, ?_, ?_⟩)
        · have := z.2.1; show first < past; omega
        · have := z.2.2; show past ≤ s.length; omega
      · exact .inr (.inl hn)
theorem kindO_bt (k : Nat) : kindO (btE k) = some (.tup [.str [116, 101, 120, 116], .int (k : Int)]) := rfl
theorem kindO_bm (k : Nat) : kindO (bmE (k : Int)) = some (.tup [.str [109, 97, 114, 107], .int (k : Int)]) := rfl
/-- what is read, and what is due -/
def Rd (call : CallT) (s t : List Nat) (d : D) : Prop :=
  (∃ ms : List Mk, d = .tup [.str [116, 111, 108, 100], .lst false (ms.map Mk.d)] ∧ ms.length ≤ 40 ∧ call "read" [.str s, .str t] = .ok (.lst false (ms.map Mk.d)) [none, none]) ∨
  (∃ (w : List Nat) (k : Nat) (z : Ex), d = .tup [.str w, .int (k : Int)] ∧ w ≠ [] ∧ call "read" [.str s, .str t] = .err z [none, none] ∧ kindO z = some d)
theorem rdOk (n : Nat) (s t : List Nat) (hs : s.length ≤ 80) (g : gd s) (ht : TxOk t) : ∃ d, cl (n + 4) "_law_due" [.str s, .str t] = .ok d [none, none] ∧ Rd (cl (n + 4)) s t d := by
  obtain ⟨d, e, h⟩ := dueOk (n := n + 3) ⟨fun w h1 h2 => lawNumOk (n + 2) w h1 h2⟩ s t hs ht
  refine ⟨d, e, ?_⟩
  rcases h with ⟨k, h1, rfl⟩ | ⟨h1, k, hk, h2, h3, h4, rfl⟩ | ⟨h1, h2, h3, rfl⟩
  · exact .inr ⟨_, k, _, rfl, by simp, readNo1 (n := n + 3) (rdB (n + 2)) s t k hs g ht h1, kindO_bt k⟩
  · have hB := bad_of (s := s) (rows_b ht) (by have := rowsF_len (ls := linesF t); have := lines_many ht; omega) hk h2 h3 h4
    exact .inr ⟨_, k, _, rfl, by simp, readNo2 (n := n + 3) (rdB (n + 2)) s t hs g ht h1 _ (fun b => marksNo (n := n + 2) (fun s h => nameB (n + 1) s h) b s _ k hs hB), kindO_bm k⟩
  · exact .inl ⟨_, rfl, h3, readOk (n := n + 3) (rdB (n + 2)) s t hs g ht h1 (fun b => mks3 (n + 1) b s _ hs h3 h2)⟩
theorem rows_text {ms : List Mk} {N : Nat} (h : ∀ m ∈ ms, m.ok N) (hN : N < 100) : firstF (linesF (textF ms)) = none ∧ rowsF (linesF (textF ms)) = ms := by
  rw [lines_text h hN]
  refine ⟨firstF_none fun j hj => ?_, ?_⟩
  · rw [List.length_map] at hj
    exact ⟨ms[j], by rw [List.getElem_map]; exact row_line (h _ (List.getElem_mem hj)) hN⟩
  · unfold rowsF
    rw [List.filterMap_map]
    have : ∀ l : List Mk, (∀ m ∈ l, m.ok N) → List.filterMap (rowF ∘ lineF) l = l := by
      intro l
      induction l with
      | nil => intro _; rfl
      | cons m r ih =>
        intro hl
        rw [List.filterMap_cons]
        simp only [Function.comp, row_line (hl m List.mem_cons_self) hN]
        exact congrArg (m :: ·) (ih fun x hx => hl x (List.mem_cons_of_mem _ hx))
    exact this ms h
theorem rdText (n : Nat) (s : List Nat) (ms : List Mk) (hs : s.length ≤ 80) (g : gd s) (hl : ms.length ≤ 12) (ho : ∀ m ∈ ms, m.ok s.length) : cl (n + 4) "read" [.str s, .str (textF ms)] = .ok (.lst false (ms.map Mk.d)) [none, none] := by
  obtain ⟨h1, h2⟩ := rows_text ho (by omega)
  have ht : TxOk (textF ms) := ⟨text_tx ho (by omega), by have := text_len ho (by omega); omega⟩
  have q := readOk (n := n + 3) (rdB (n + 2)) s (textF ms) hs g ht h1 (fun b => by rw [h2]; exact mks3 (n + 1) b s ms hs (by omega) ho)
  rw [h2] at q
  exact q
/-! ### alike -/
theorem al_mk (n : Nat) (m : Mk) : cl (n + 2) "_law_alike" [m.d, m.d] = .ok (.bl true) [none, none] := by
  refine al_tup _ (by simp) (fun x hx => ?_) fun x hx => ?_
  · simp only [List.mem_cons, List.not_mem_nil, or_false] at hx
    rcases hx with rfl | rfl | rfl | rfl | rfl <;> rfl
  · simp only [List.mem_cons, List.not_mem_nil, or_false] at hx
    rcases hx with rfl | rfl | rfl | rfl | rfl
    · exact al_str n _
    · exact al_str n _
    · exact al_int n _
    · exact al_int n _
    · exact al_str n _
theorem al_ms (n : Nat) (m m' : Bool) (ms : List Mk) (hl : ms.length ≤ 40) : cl (n + 3) "_law_alike" [.lst m (ms.map Mk.d), .lst m' (ms.map Mk.d)] = .ok (.bl true) [none, none] :=
  al_lst m m' _ (by rw [List.length_map]; omega) (fun x hx => by obtain ⟨e, _, rfl⟩ := List.mem_map.mp hx; exact pure_mk e) fun x hx => by obtain ⟨e, _, rfl⟩ := List.mem_map.mp hx; exact al_mk n e
theorem al_rd {call : CallT} (n : Nat) {s t : List Nat} {d : D} (h : Rd call s t d) : cl (n + 4) "_law_alike" [d, d] = .ok (.bl true) [none, none] := by
  rcases h with ⟨ms, rfl, hl, _⟩ | ⟨w, k, z, rfl, _⟩
  · refine al_tup _ (by simp) (fun x hx => ?_) fun x hx => ?_
    · simp only [List.mem_cons, List.not_mem_nil, or_false] at hx
      rcases hx with rfl | rfl
      · rfl
      · simp only [D.pure, pure_ms]; rfl
    · simp only [List.mem_cons, List.not_mem_nil, or_false] at hx
      rcases hx with rfl | rfl
      · exact al_str (n + 2) _
      · exact al_ms n false false ms hl
  · refine al_tup _ (by simp) (fun x hx => ?_) fun x hx => ?_
    · simp only [List.mem_cons, List.not_mem_nil, or_false] at hx
      rcases hx with rfl | rfl <;> rfl
    · simp only [List.mem_cons, List.not_mem_nil, or_false] at hx
      rcases hx with rfl | rfl
      · exact al_str (n + 2) _
      · exact al_int (n + 2) _
structure Top (call : CallT) : Prop where
  nxt : NextOk call
  mix : ∀ (ns : List Int) (seed : Int), ns.length ≤ 63 → ∃ h outs, call "_law_mix" [.scr ns, .int seed] = .ok h outs ∧ outs = [none, none] ∧ G h
  sgn : SignsOk call
  mrk : MarksOk call
  rd : ∀ s t : List Nat, s.length ≤ 80 → gd s → TxOk t → ∃ d, call "_law_due" [.str s, .str t] = .ok d [none, none] ∧ Rd call s t d
  ald : ∀ (s t : List Nat) (d : D), Rd call s t d → call "_law_alike" [d, d] = .ok (.bl true) [none, none]
  rdt : ∀ (s : List Nat) (ms : List Mk), s.length ≤ 80 → gd s → ms.length ≤ 12 → (∀ m ∈ ms, m.ok s.length) → call "read" [.str s, .str (textF ms)] = .ok (.lst false (ms.map Mk.d)) [none, none]
  als : ∀ (m m' : Bool) (ms : List Mk), ms.length ≤ 40 → call "_law_alike" [.lst m (ms.map Mk.d), .lst m' (ms.map Mk.d)] = .ok (.bl true) [none, none]
  wrt : ∀ (b : Option Bool) (s : List Nat) (ms : List Mk), s.length ≤ 80 → gd s → ms.length ≤ 40 → (∀ m ∈ ms, m.ok s.length) → call "written" [.str s, seqL b (ms.map Mk.d)] = .ok (.str (textF ms)) [none, none]
theorem top : Top (cl 6) where
  nxt := nextOk 5
  mix := fun ns seed h => mix_ok 5 ns seed h
  sgn := signsOk (n := 5) (nextOk 4)
  mrk := lawMarksOk (n := 5) (nextOk 4)
  rd := fun s t h1 h2 h3 => rdOk 2 s t h1 h2 h3
  ald := fun s t d h => al_rd 2 h
  rdt := fun s ms h1 h2 h3 h4 => rdText 2 s ms h1 h2 h3 h4
  als := fun m m' ms h => al_ms 3 m m' ms h
  wrt := fun b s ms h1 h2 h3 h4 => writtenOk (n := 5) ⟨fun s h g => needOk 4 s h g, fun b s ms h1 h2 h3 => mks3 3 b s ms h1 h2 h3⟩ b s ms h1 h2 h3 h4
end Lk21

namespace Lk21
open PySem L2 VI
theorem O_neMs {m m' : Bool} {ms : List Mk} {Qd : D → Prop} (q : Qd (.bl (!decide (ms = [])))) : WO (opD (.cmp .NotEq) [.lst m (ms.map Mk.d), .lst m' []]) Qd := by
  refine ⟨_, ?_, q⟩
  have e : deq (.lst m (ms.map Mk.d)) (.lst m' []) = decide (ms = []) := by
    cases ms with
    | nil => rfl
    | cons a R => simp [deq, deqL]
  show ((if (okD deep (.lst m (ms.map Mk.d)) && okD deep (.lst m' [])) = true then some (deq (.lst m (ms.map Mk.d)) (.lst m' [])) else none).map (!·)).map D.bl = _
  rw [okD_ms, e]
  rfl
theorem line_ms {m : Bool} {ms : List Mk} {N : Nat} {K : D → Prop} (ho : ∀ m ∈ ms, m.ok N) (hN : N < 100) (hl : (textF ms).length ≤ 1000) (h : K (.lst true (strD (ms.map lineF)))) : WO (opD (.cmp .NotEq) [.lst m (ms.map Mk.d), .lst true []]) fun d => truP d fun t => brB t (OP (.mt (.split [10])) [.str (textF ms)] K) (K (.lst true [])) := by
  try refine O_neMs ?_
  by_cases h0 : ms = []
  · subst h0
    exact h
  · rw [decide_eq_false h0]
    refine ⟨O_split (by decide) (by omega) ?_⟩
    have e := lines_text ho hN
    unfold linesF at e
    rw [if_neg fun z => h0 (text_nil.mp z)] at e
    rw [e]; exact h
theorem bent_ok {ms : List Mk} {N r : Nat} {o : List Nat} (ho : ∀ m ∈ ms, m.ok N) (hN : N < 100) (hl : ms.length ≤ 12) (hr : r ≤ ms.length) (h1 : ∀ c ∈ o, c < 128) (h2 : o.length ≤ 20) :
    ((((ms.map lineF).take r ++ [o] ++ (ms.map lineF).drop r).map (·.length)).sum ≤ 400 ∧ ((ms.map lineF).take r ++ [o] ++ (ms.map lineF).drop r).length ≤ 13) ∧ TxOk (joinS [10] ((ms.map lineF).take r ++ [o] ++ (ms.map lineF).drop r)) := by
  have hs := lines_sum ho hN
  have e1 : (((ms.map lineF).take r ++ [o] ++ (ms.map lineF).drop r).map (·.length)).sum = ((ms.map lineF).map (·.length)).sum + o.length := by
    have h := List.take_append_drop r (ms.map lineF)
    have h2 := congrArg (fun l : List (List Nat) => (l.map (·.length)).sum) h
    simp only [List.map_append, List.sum_append, List.map_cons, List.map_nil, List.sum_cons, List.sum_nil] at h2 ⊢
    omega
  have e2 : ((ms.map lineF).take r ++ [o] ++ (ms.map lineF).drop r).length = ms.length + 1 := by
    simp only [List.length_append, List.length_take, List.length_drop, List.length_map, List.length_cons, List.length_nil]
    omega
  refine ⟨⟨by omega, by omega⟩, fun c hc => ?_, ?_⟩
  · rcases joinS_mem _ _ c hc with hc | ⟨y, h3, h4⟩
    · rw [List.mem_singleton.mp hc]; decide
    · have key : ∀ y ∈ ms.map lineF, ∀ c ∈ y, c < 128 := fun y hy c hc => by
        obtain ⟨m, hm, rfl⟩ := List.mem_map.mp hy
        exact (line_no (ho m hm) hN c hc).2
      rcases List.mem_append.mp h3 with h3 | h3
      · rcases List.mem_append.mp h3 with h3 | h3
        · exact key y (List.mem_of_mem_take h3) c h4
        · rw [List.mem_singleton.mp h3] at h4; exact h1 c h4
      · exact key y (List.mem_of_mem_drop h3) c h4
  · have := len_join [10] ((ms.map lineF).take r ++ [o] ++ (ms.map lineF).drop r)
    rw [e2, e1] at this
    simp only [List.length_cons, List.length_nil] at this
    omega
theorem strD_app (a b : List (List Nat)) : strD a ++ strD b = strD (a ++ b) := by simp [strD]
theorem strD_take (a : List (List Nat)) (k : Nat) : (strD a).take k = strD (a.take k) := by simp [strD, List.map_take]
theorem strD_drop (a : List (List Nat)) (k : Nat) : (strD a).drop k = strD (a.drop k) := by simp [strD, List.map_drop]
theorem O_ix6 {r : Nat} {Qd : D → Prop} (h : r < 6) (q : ∀ z, z < 128 → Qd (.str [z])) : WO (opD .ix [.str [97, 48, 32, 57, 10, 90], .int (r : Int)]) Qd := by
  have : r = 0 ∨ r = 1 ∨ r = 2 ∨ r = 3 ∨ r = 4 ∨ r = 5 := by omega
  rcases this with rfl | rfl | rfl | rfl | rfl | rfl
  · exact ⟨_, rfl, q 97 (by decide)⟩
  · exact ⟨_, rfl, q 48 (by decide)⟩
  · exact ⟨_, rfl, q 32 (by decide)⟩
  · exact ⟨_, rfl, q 57 (by decide)⟩
  · exact ⟨_, rfl, q 10 (by decide)⟩
  · exact ⟨_, rfl, q 90 (by decide)⟩
theorem ER_mutC {call : CallT} {ρ : Env'} {P : Ex → Env' → Prop} {o : Mo} {i : Nat} {e : E} {xs0 : List D} (h0 : ρ[i]? = some (some (.lst true xs0))) (q : ER (ev call e ρ) P) : ER (ev call (.mut o i [] [e]) ρ) P := by
  obtain ⟨x, ρ', h, hp⟩ := q
  have hp0 : isPath [] (D.lst true xs0) = true := rfl
  exact ⟨x, ρ', by simp [ev, evR, intsO, R.bind, h0, evC, h, hp0], hp⟩
theorem W_kindOk {call : CallT} {ρ : Env'} {e : E} {Q : D → Env' → Prop} (q : WR (ev call e ρ) fun _ ρ1 => Q (.tup [.str [], .int 0]) ρ1) : WR (ev call (.kind e) ρ) Q := by
  obtain ⟨d, ρ1, h, hq⟩ := q
  exact ⟨_, ρ1, by simp only [ev, h, kindR], hq⟩
def LwP (d : D) (outs : List (Option D)) : Prop := d = .bl true
/-- the odd rows -/
def oddR : List (List Nat) := [[], [97, 32, 98, 32, 48, 32, 49], [97, 32, 98, 32, 48, 32, 49, 32, 99, 32, 100], [97, 32, 98, 32, 48, 48, 32, 49, 32, 99], [97, 32, 98, 32, 48, 32, 49, 48, 48, 32, 99], [97, 32, 98, 32, 48, 32, 32, 49, 32, 99], [97, 32, 98, 32, 120, 32, 49, 32, 99], [97, 32, 98, 32, 48, 32, 45, 49, 32, 99], [65, 32, 98, 32, 48, 32, 49, 32, 99], [97, 32, 98, 32, 48, 32, 48, 32, 99], [97, 98, 99, 100, 101, 102, 103, 32, 98, 32, 48, 32, 49, 32, 99], [97, 32, 98, 32, 48, 32, 49, 32], [32, 98, 32, 48, 32, 49, 32, 99], [97, 32, 98, 32, 48, 32, 56, 49, 32, 99]]
theorem odd_tx : ∀ w ∈ oddR, (∀ c ∈ w, c < 128) ∧ w.length ≤ 20 := by decide
set_option maxHeartbeats 16000000 in
theorem hrun : ∀ ns : List Int, ns.length ≤ 63 → ∃ outs, run tbl.fds 7 "law" [.scr ns] = .ok (.bl true) outs := fun ns hns => by
  have main : ∃ d outs, run tbl.fds 7 "law" [.scr ns] = .ok d outs ∧ LwP d outs := by
    refine F_run (n := 6) (fd := i_law) rfl rfl ?_
    show WX (exs (run tbl.fds 6) i_law.body [some (.scr ns), none, none, none, none, none, none, none, none, none, none, none, none, none, none, none, none, none]) _
    have lo := top
    unfold cl at lo
    generalize run tbl.fds 6 = call at lo ⊢
    unfold i_law
    obtain ⟨h0, outs0, e0, rfl, g0⟩ := lo.mix ns 79 hns
    decreasing_trivial_pre_omega
    refine ⟨_, _, e0, ?_⟩
    dsimp only [back, List.set]
    decreasing_trivial_pre_omega
    generalize hodd : (_ ++ _ : List D) = odd
    have hodd2 : odd = strD oddR := by rw [← hodd]; rfl
    clear hodd
    refine ⟨fun _ ρ => ∃ h x3 x4 x5 x6 x7 x8 x9 x10 x11 x12 x13 x14 x15, G h ∧ ρ = [some (.scr ns), some h, some (.lst true odd), x3, x4, x5, x6, x7, x8, x9, x10, x11, x12, x13, x14, x15, none, none], ⟨_, _, _, _, _, _, _, _, _, _, _, _, _, _, g0, rfl⟩, ?_, ?_⟩
    · rintro i x ρ hx ⟨h, x3, x4, x5, x6, x7, x8, x9, x10, x11, x12, x13, x14, x15, g, rfl⟩
      refine ⟨_, rfl, ?_⟩
      try dsimp only [List.set]
      decreasing_trivial_pre_omega
      obtain ⟨s0, h1, e1, hs0, gs0, g1⟩ := lo.sgn h 60 g (by decide)
      refine ⟨_, _, e1, ?_⟩
      dsimp only [back, List.set]
      decreasing_trivial_pre_omega
      have hs : ([120] ++ s0).length ≤ 61 := by simp; omega
      have gs : gd ([120] ++ s0) := fun c hc => by
        rcases List.mem_append.mp hc with hc | hc
        · rw [List.mem_singleton.mp hc]; decide
        · exact gs0 c hc
      generalize [120] ++ s0 = s at hs gs ⊢
      obtain ⟨ms, h2, e2, hml, ho, g2⟩ := lo.mrk h1 s 12 g1 (by omega) (by decide)
      refine ⟨_, _, e2, ?_⟩
      dsimp only [back, List.set]
      have hp : pureL (ms.map Mk.d) = true := pure_ms _
      decreasing_trivial_pre_omega
      refine I_seq (b := some true) hp ?_
      refine W_lcloop (fun i acc ρ => ρ = [some (.scr ns), some h2, some (.lst true odd), some x, some (.str s), some (.lst false (ms.map Mk.d)), x6, x7, x8, x9, x10, x11, x12, x13, x14, x15, none, none] ∧ acc = strD ((ms.take i).map lineF)) ⟨rfl, rfl⟩ ?_ (by rw [List.length_map]; simp only [lim]; omega) ?_
      · rintro i x acc ρ hx ha ⟨rfl, rfl⟩
        have hi : i < ms.length := by
          have := (List.getElem?_eq_some_iff.mp hx).1
          rwa [List.length_map] at this
        have ex : x = ms[i].d := by
          rw [List.getElem?_map, List.getElem?_eq_getElem hi] at hx
          simpa using hx.symm
        subst ex
        have hmo := ho _ (List.getElem_mem hi)
        have hnx : strD ((ms.take (i + 1)).map lineF) = strD ((ms.take i).map lineF) ++ [.str (lineF ms[i])] := by
          rw [List.take_succ_eq_append_getElem hi, List.map_append]
          simp [strD]
        generalize hG : strD ((ms.take (i + 1)).map lineF) = G at hnx ⊢
        subst hnx
        generalize ms[i] = m at hmo ⊢
        refine W_lcF rfl ?_
        have hpm : pureL [D.str m.hand, .str m.layer, .int (m.first : Int), .int (m.past : Int), .str m.word] = true := rfl
        rw [show m.d = D.tup [.str m.hand, .str m.layer, .int (m.first : Int), .int (m.past : Int), .str m.word] from rfl]
        decreasing_trivial_pre_omega
        rw [show frzL [D.str m.hand, .str m.layer, .int (m.first : Int), .int (m.past : Int), .str m.word] = [D.str m.hand, .str m.layer, .int (m.first : Int), .int (m.past : Int), .str m.word] by simp [frzL, D.frz]]
        refine W_lcloop (fun j acc ρ => ρ = [some (.scr ns), some h2, some (.lst true odd), some x, some (.str s), some (.lst false (ms.map Mk.d)), x6, x7, x8, x9, x10, x11, x12, x13, x14, x15, some (.tup [.str m.hand, .str m.layer, .int (m.first : Int), .int (m.past : Int), .str m.word]), none] ∧ acc = strD ((partsF m).take j)) ⟨rfl, rfl⟩ ?_ (by simp [lim]) ?_
        · rintro j x acc ρ hx ha ⟨rfl, rfl⟩
          rcases parts_at m j x hx with ⟨w, rfl, hw⟩ | ⟨k, rfl, hk, hw⟩
          · rw [take_at hw]
            refine W_lcF rfl ?_
            decreasing_trivial_pre_omega
            try refine O_strT ?_
            decreasing_trivial_pre_omega
            all_goals (first | exact ⟨rfl, rfl⟩ | exact rfl)
          · rw [take_at hw]
            have hk2 : k < 100 := by
              have h4 := hmo.2.2.2.1
              have h5 := hmo.2.2.2.2
              rcases hk with rfl | rfl <;> omega
            refine W_lcF rfl ?_
            decreasing_trivial_pre_omega
            try refine O_strN hk2 ?_
            decreasing_trivial_pre_omega
            all_goals (first | exact ⟨rfl, rfl⟩ | exact rfl)
        · rintro acc ρ ha ⟨rfl, rfl⟩
          rw [show [D.str m.hand, .str m.layer, .int (m.first : Int), .int (m.past : Int), .str m.word].length = (partsF m).length from rfl, List.take_length]
          decreasing_trivial_pre_omega
          try refine O_joinW (by have := parts_sum hmo (by omega); have h5 : (partsF m).length = 5 := rfl; rw [h5]; simp only [lim, List.length_cons, List.length_nil]; omega) ?_
          decreasing_trivial_pre_omega
          all_goals (first | exact ⟨rfl, rfl⟩ | exact rfl | skip)
      · rintro acc ρ ha ⟨rfl, rfl⟩
        rw [List.length_map, List.take_length]
        decreasing_trivial_pre_omega
        try refine O_joinW (by have := lines_sum ho (by omega); rw [List.length_map]; simp only [lim, List.length_cons, List.length_nil]; omega) ?_
        decreasing_trivial_pre_omega
        rw [show joinS [10] (ms.map lineF) = textF ms from rfl]
        refine ⟨_, _, lo.rdt s ms (by omega) gs hml ho, ?_⟩
        dsimp only [back, List.set]
        decreasing_trivial_pre_omega
        refine ⟨_, _, lo.als false false ms (by omega), ?_⟩
        dsimp only [back, List.set]
        decreasing_trivial_pre_omega
        refine ⟨_, _, lo.wrt (some false) s ms (by omega) gs (by omega) ho, ?_⟩
        dsimp only [back, List.set]
        decreasing_trivial_pre_omega
        refine ⟨_, _, lo.wrt none s ms (by omega) gs (by omega) ho, ?_⟩
        dsimp only [back, List.set]
        decreasing_trivial_pre_omega
        have htl : (textF ms).length ≤ 336 := by have := text_len ho (by omega); omega
        have htt := text_tx ho (by omega)
        have eD : (!deq (D.lst true [D.str (textF ms), .str (textF ms)]) (D.lst true (List.replicate (Int.toNat 2) [D.str (textF ms)]).flatten)) = false := by
          rw [show (D.lst true (List.replicate (Int.toNat 2) [D.str (textF ms)]).flatten) = D.lst true [D.str (textF ms), .str (textF ms)] from rfl, deq_okd 9 _ rfl]; rfl
        refine ⟨fun hh => Bool.noConfusion (Eq.trans eD.symm hh), fun _ => ?_⟩
        decreasing_trivial_pre_omega
        refine line_ms ho (by omega) (by omega) ?_
        have hsl : (strD (ms.map lineF)).length = ms.length := by simp [strD]
        decreasing_trivial_pre_omega
        obtain ⟨r3, h3, e3, l3, g3⟩ := lo.nxt h2 (((strD (ms.map lineF)).length : Int) + 1) g2 (by omega) (by omega)
        refine ⟨_, _, e3, ?_⟩
        dsimp only [back, List.set]
        decreasing_trivial_pre_omega
        try refine O_slToL (pure_strD _) ?_
        obtain ⟨r4, h4, e4, l4, g4⟩ := lo.nxt h3 14 g3 (by decide) (by decide)
        refine ⟨_, _, e4, ?_⟩
        dsimp only [back, List.set]
        have l4b : r4 < oddR.length := by show r4 < 14; omega
        have hat : atI odd (r4 : Int) = some (.str oddR[r4]) := by
          rw [hodd2, atD_nat (by simp only [strD, List.length_map]; exact l4b)]
          simp [strD, l4b]
        obtain ⟨o1, o2⟩ := odd_tx _ (List.getElem_mem l4b)
        generalize oddR[r4] = o at hat o1 o2
        decreasing_trivial_pre_omega
        try refine O_ixL hat ?_
        decreasing_trivial_pre_omega
        rw [strD_take]
        obtain ⟨⟨sum1, len1⟩, tb⟩ := bent_ok (N := s.length) (r := r3) ho (by omega) hml (by omega) o1 o2
        try refine O_addL (pure_strD _) rfl (by simp [strD, lim]; omega) ?_
        decreasing_trivial_pre_omega
        try refine O_slFromL (pure_strD _) ?_
        rw [strD_drop, show strD (List.take r3 (List.map lineF ms)) ++ [D.str o] = strD (List.take r3 (List.map lineF ms) ++ [o]) from strD_app _ [o]]
        refine ⟨O_addL (pure_strD _) (pure_strD _) (by simp [strD, lim]; omega) ?_⟩
        rw [strD_app]
        refine ⟨O_joinW (by simp only [lim, List.length_cons, List.length_nil]; omega) ?_⟩
        generalize joinS [10] (List.take r3 (List.map lineF ms) ++ [o] ++ List.drop r3 (List.map lineF ms)) = bent at tb ⊢
        decreasing_trivial_pre_omega
        obtain ⟨r5, h5, e5, l5, g5⟩ := lo.nxt h4 (((textF ms).length : Int) + 1) g4 (by omega) (by omega)
        refine ⟨_, _, e5, ?_⟩
        dsimp only [back, List.set]
        decreasing_trivial_pre_omega
        obtain ⟨r6, h6, e6, l6, g6⟩ := lo.nxt h5 6 g5 (by decide) (by decide)
        refine ⟨_, _, e6, ?_⟩
        dsimp only [back, List.set]
        decreasing_trivial_pre_omega
        try refine O_ix6 (by omega) fun z hz => ?_
        have hr5 : (List.take r5 (textF ms)).length ≤ 336 := by rw [List.length_take]; omega
        decreasing_trivial_pre_omega
        obtain ⟨r7, h7, e7, l7, g7⟩ := lo.nxt h6 2 g6 (by decide) (by decide)
        refine ⟨_, _, e7, ?_⟩
        dsimp only [back, List.set]
        decreasing_trivial_pre_omega
        have tx1 : TxOk (textF ms) := ⟨htt, by omega⟩
        have tx2 : TxOk (textF ms ++ [10]) := ⟨fun c hc => by
          rcases List.mem_append.mp hc with hc | hc
          · exact htt c hc
          · rw [List.mem_singleton.mp hc]; decide, by simp; omega⟩
        have tx3 : TxOk (List.take r5 (textF ms) ++ [z] ++ List.drop (r5 + r7) (textF ms)) := ⟨fun c hc => by
          rcases List.mem_append.mp hc with hc | hc
          · rcases List.mem_append.mp hc with hc | hc
            · exact htt c (List.mem_of_mem_take hc)
            · rw [List.mem_singleton.mp hc]; exact hz
          · exact htt c (List.mem_of_mem_drop hc), by simp; omega⟩
        generalize List.take r5 (textF ms) ++ [z] ++ List.drop (r5 + r7) (textF ms) = other at tx3 ⊢
        generalize textF ms ++ [10] = third at tx2 ⊢
        refine ⟨fun _ ρ => ∃ y12 y13 y14 y15, ρ = [some (.scr ns), some h7, some (.lst true odd), some x, some (.str s), some (.lst false (List.map Mk.d ms)), some (.str (textF ms)), some (.lst true (strD (List.map lineF ms))), some (.int (r3 : Int)), some (.str bent), some (.int (r5 : Int)), some (.str other), y12, y13, y14, y15, none, none], ⟨_, _, _, _, rfl⟩, ?_, ?_⟩
        · rintro j y ρ hy ⟨y12, y13, y14, y15, rfl⟩
          obtain ⟨t, rfl, ht⟩ : ∃ t, y = .str t ∧ TxOk t := by
            match j, hy with
            | 0, hy => cases hy; exact ⟨_, rfl, tb⟩
            | 1, hy => cases hy; exact ⟨_, rfl, tx3⟩
            | 2, hy => cases hy; exact ⟨_, rfl, tx2⟩
            | 3, hy => cases hy; exact ⟨_, rfl, tx1⟩
            | j + 4, hy => simp [frzL] at hy
          obtain ⟨d, ed, hrd⟩ := lo.rd s t (by omega) gs ht
          have hal := lo.ald s t d hrd
          refine ⟨_, rfl, ?_⟩
          try dsimp only [List.set]
          decreasing_trivial_pre_omega
          rcases hrd with ⟨ms', rfl, hl', er⟩ | ⟨w, k, z', rfl, hw, er, hk⟩
          · refine ⟨W_kindOk ?_⟩
            decreasing_trivial_pre_omega
            refine ⟨_, _, er, ?_⟩
            dsimp only [back, List.set]
            decreasing_trivial_pre_omega
            have hpd : (D.tup [D.str [116, 111, 108, 100], D.lst false (ms'.map Mk.d)]).pure = true := by
              simp only [D.pure, pureL, pure_ms]; rfl
            refine useP_P hpd ?_
            refine ⟨_, _, ed, ?_⟩
            dsimp only [back, List.set]
            decreasing_trivial_pre_omega
            refine ⟨_, _, hal, ?_⟩
            dsimp only [back, List.set]
            decreasing_trivial_pre_omega
            exact ⟨_, _, _, _, rfl⟩
          · refine ⟨W_kindE (ER_mutC rfl (ER_call ?_))⟩
            decreasing_trivial_pre_omega
            refine ⟨_, _, er, _, hk, ?_⟩
            dsimp only [back, List.set]
            decreasing_trivial_pre_omega
            have hne : deq (D.tup [D.str w, D.int (k : Int)]) (D.tup [D.str [], D.int 0]) = false := by
              simp [deq, deqL, hw]
            refine ⟨fun zz => (by rw [hne] at zz; cases zz), fun _ => ?_⟩
            decreasing_trivial_pre_omega
            refine ⟨_, _, ed, ?_⟩
            dsimp only [back, List.set]
            decreasing_trivial_pre_omega
            refine ⟨_, _, hal, ?_⟩
            dsimp only [back, List.set]
            decreasing_trivial_pre_omega
            exact ⟨_, _, _, _, rfl⟩
        · rintro ρ ⟨y12, y13, y14, y15, rfl⟩
          decreasing_trivial_pre_omega
          exact ⟨h7, _, _, _, _, _, _, _, _, _, _, _, _, _, g7, rfl⟩
    · rintro ρ ⟨h, x3, x4, x5, x6, x7, x8, x9, x10, x11, x12, x13, x14, x15, g, rfl⟩
      decreasing_trivial_pre_omega
      all_goals (first | exact rfl | skip)
  obtain ⟨d, outs, e, rfl⟩ := main
  exact ⟨outs, e⟩
end Lk21


namespace Lk21
open PySem PySem.Spec PyProof.Rows L2 VI
theorem hok : ∀ f d, tbl.lookup f = some d → okDef tbl gl d = true := hok_of (by decide +kernel)
set_option maxHeartbeats 0 in
theorem all_mk {l : PySem.W.OpenLaw} {q : Program} {w : World} {K : PySem.W.Frag} {h : Heap} {mg : Str → Option Value} {fa : Addr} (X : K.In h) (G : h.Ns mainGlobals mg) (hfa : mg "law" = some (.ref fa)) (tabs : TabsAt q K h)
    {f0 : Addr} {od0 an0 : Option Addr} {sl0 : Array (Option Value)} {oc0 kV0 dc0 pm0 cd0 ct0 : Value}
    (a0 : PySem.W.nsIn K mainGlobals "need_signs" = some (some (.ref f0)))
    (l0 : K.lookup f0 = some ⟨oc0, od0, .func (PySem.W.fnOf "need_signs" "need_signs" (defArgs d_need_signs.st) (defBody d_need_signs.st) (defScope d_need_signs.st) .none kV0 dc0 pm0 an0 cd0 ct0), sl0⟩)
    (c0 : PySem.W.codeIn K cd0 "need_signs" = true) (k0 : PySem.W.keepIn K (.ref f0) = true)
    {f1 : Addr} {od1 an1 : Option Addr} {sl1 : Array (Option Value)} {oc1 kV1 dc1 pm1 cd1 ct1 : Value}
    (a1 : PySem.W.nsIn K mainGlobals "is_name" = some (some (.ref f1)))
    (l1 : K.lookup f1 = some ⟨oc1, od1, .func (PySem.W.fnOf "is_name" "is_name" (defArgs d_is_name.st) (defBody d_is_name.st) (defScope d_is_name.st) .none kV1 dc1 pm1 an1 cd1 ct1), sl1⟩)
    (c1 : PySem.W.codeIn K cd1 "is_name" = true) (k1 : PySem.W.keepIn K (.ref f1) = true)
    {f2 : Addr} {od2 an2 : Option Addr} {sl2 : Array (Option Value)} {oc2 kV2 dc2 pm2 cd2 ct2 : Value}
    (a2 : PySem.W.nsIn K mainGlobals "need_marks" = some (some (.ref f2)))
    (l2 : K.lookup f2 = some ⟨oc2, od2, .func (PySem.W.fnOf "need_marks" "need_marks" (defArgs d_need_marks.st) (defBody d_need_marks.st) (defScope d_need_marks.st) .none kV2 dc2 pm2 an2 cd2 ct2), sl2⟩)
    (c2 : PySem.W.codeIn K cd2 "need_marks" = true) (k2 : PySem.W.keepIn K (.ref f2) = true)
    {f3 : Addr} {od3 an3 : Option Addr} {sl3 : Array (Option Value)} {oc3 kV3 dc3 pm3 cd3 ct3 : Value}
    (a3 : PySem.W.nsIn K mainGlobals "written" = some (some (.ref f3)))
    (l3 : K.lookup f3 = some ⟨oc3, od3, .func (PySem.W.fnOf "written" "written" (defArgs d_written.st) (defBody d_written.st) (defScope d_written.st) .none kV3 dc3 pm3 an3 cd3 ct3), sl3⟩)
    (c3 : PySem.W.codeIn K cd3 "written" = true) (k3 : PySem.W.keepIn K (.ref f3) = true)
    {f4 : Addr} {od4 an4 : Option Addr} {sl4 : Array (Option Value)} {oc4 kV4 dc4 pm4 cd4 ct4 : Value}
    (a4 : PySem.W.nsIn K mainGlobals "is_number" = some (some (.ref f4)))
    (l4 : K.lookup f4 = some ⟨oc4, od4, .func (PySem.W.fnOf "is_number" "is_number" (defArgs d_is_number.st) (defBody d_is_number.st) (defScope d_is_number.st) .none kV4 dc4 pm4 an4 cd4 ct4), sl4⟩)
    (c4 : PySem.W.codeIn K cd4 "is_number" = true) (k4 : PySem.W.keepIn K (.ref f4) = true)
    {f5 : Addr} {od5 an5 : Option Addr} {sl5 : Array (Option Value)} {oc5 kV5 dc5 pm5 cd5 ct5 : Value}
    (a5 : PySem.W.nsIn K mainGlobals "read" = some (some (.ref f5)))
    (l5 : K.lookup f5 = some ⟨oc5, od5, .func (PySem.W.fnOf "read" "read" (defArgs d_read.st) (defBody d_read.st) (defScope d_read.st) .none kV5 dc5 pm5 an5 cd5 ct5), sl5⟩)
    (c5 : PySem.W.codeIn K cd5 "read" = true) (k5 : PySem.W.keepIn K (.ref f5) = true)
    {f6 : Addr} {od6 an6 : Option Addr} {sl6 : Array (Option Value)} {oc6 kV6 dc6 pm6 cd6 ct6 : Value}
    (a6 : PySem.W.nsIn K mainGlobals "_law_mix" = some (some (.ref f6)))
    (l6 : K.lookup f6 = some ⟨oc6, od6, .func (PySem.W.fnOf "_law_mix" "_law_mix" (defArgs d_law_mix.st) (defBody d_law_mix.st) (defScope d_law_mix.st) .none kV6 dc6 pm6 an6 cd6 ct6), sl6⟩)
    (c6 : PySem.W.codeIn K cd6 "_law_mix" = true) (k6 : PySem.W.keepIn K (.ref f6) = true)
    {f7 : Addr} {od7 an7 : Option Addr} {sl7 : Array (Option Value)} {oc7 kV7 dc7 pm7 cd7 ct7 : Value}
    (a7 : PySem.W.nsIn K mainGlobals "_law_next" = some (some (.ref f7)))
    (l7 : K.lookup f7 = some ⟨oc7, od7, .func (PySem.W.fnOf "_law_next" "_law_next" (defArgs d_law_next.st) (defBody d_law_next.st) (defScope d_law_next.st) .none kV7 dc7 pm7 an7 cd7 ct7), sl7⟩)
    (c7 : PySem.W.codeIn K cd7 "_law_next" = true) (k7 : PySem.W.keepIn K (.ref f7) = true)
    {f8 : Addr} {od8 an8 : Option Addr} {sl8 : Array (Option Value)} {oc8 kV8 dc8 pm8 cd8 ct8 : Value}
    (a8 : PySem.W.nsIn K mainGlobals "_law_alike" = some (some (.ref f8)))
    (l8 : K.lookup f8 = some ⟨oc8, od8, .func (PySem.W.fnOf "_law_alike" "_law_alike" (defArgs d_law_alike.st) (defBody d_law_alike.st) (defScope d_law_alike.st) .none kV8 dc8 pm8 an8 cd8 ct8), sl8⟩)
    (c8 : PySem.W.codeIn K cd8 "_law_alike" = true) (k8 : PySem.W.keepIn K (.ref f8) = true)
    {f9 : Addr} {od9 an9 : Option Addr} {sl9 : Array (Option Value)} {oc9 kV9 dc9 pm9 cd9 ct9 : Value}
    (a9 : PySem.W.nsIn K mainGlobals "_law_signs" = some (some (.ref f9)))
    (l9 : K.lookup f9 = some ⟨oc9, od9, .func (PySem.W.fnOf "_law_signs" "_law_signs" (defArgs d_law_signs.st) (defBody d_law_signs.st) (defScope d_law_signs.st) .none kV9 dc9 pm9 an9 cd9 ct9), sl9⟩)
    (c9 : PySem.W.codeIn K cd9 "_law_signs" = true) (k9 : PySem.W.keepIn K (.ref f9) = true)
    {f10 : Addr} {od10 an10 : Option Addr} {sl10 : Array (Option Value)} {oc10 kV10 dc10 pm10 cd10 ct10 : Value}
    (a10 : PySem.W.nsIn K mainGlobals "_law_marks" = some (some (.ref f10)))
    (l10 : K.lookup f10 = some ⟨oc10, od10, .func (PySem.W.fnOf "_law_marks" "_law_marks" (defArgs d_law_marks.st) (defBody d_law_marks.st) (defScope d_law_marks.st) .none kV10 dc10 pm10 an10 cd10 ct10), sl10⟩)
    (c10 : PySem.W.codeIn K cd10 "_law_marks" = true) (k10 : PySem.W.keepIn K (.ref f10) = true)
    {f11 : Addr} {od11 an11 : Option Addr} {sl11 : Array (Option Value)} {oc11 kV11 dc11 pm11 cd11 ct11 : Value}
    (a11 : PySem.W.nsIn K mainGlobals "_law_is_number" = some (some (.ref f11)))
    (l11 : K.lookup f11 = some ⟨oc11, od11, .func (PySem.W.fnOf "_law_is_number" "_law_is_number" (defArgs d_law_is_number.st) (defBody d_law_is_number.st) (defScope d_law_is_number.st) .none kV11 dc11 pm11 an11 cd11 ct11), sl11⟩)
    (c11 : PySem.W.codeIn K cd11 "_law_is_number" = true) (k11 : PySem.W.keepIn K (.ref f11) = true)
    {f12 : Addr} {od12 an12 : Option Addr} {sl12 : Array (Option Value)} {oc12 kV12 dc12 pm12 cd12 ct12 : Value}
    (a12 : PySem.W.nsIn K mainGlobals "_law_due" = some (some (.ref f12)))
    (l12 : K.lookup f12 = some ⟨oc12, od12, .func (PySem.W.fnOf "_law_due" "_law_due" (defArgs d_law_due.st) (defBody d_law_due.st) (defScope d_law_due.st) .none kV12 dc12 pm12 an12 cd12 ct12), sl12⟩)
    (c12 : PySem.W.codeIn K cd12 "_law_due" = true) (k12 : PySem.W.keepIn K (.ref f12) = true)
    {f13 : Addr} {od13 an13 : Option Addr} {sl13 : Array (Option Value)} {oc13 kV13 dc13 pm13 cd13 ct13 : Value}
    (a13 : PySem.W.nsIn K mainGlobals "law" = some (some (.ref f13)))
    (l13 : K.lookup f13 = some ⟨oc13, od13, .func (PySem.W.fnOf "law" "law" (defArgs d_law.st) (defBody d_law.st) (defScope d_law.st) .none kV13 dc13 pm13 an13 cd13 ct13), sl13⟩)
    (c13 : PySem.W.codeIn K cd13 "law" = true) (k13 : PySem.W.keepIn K (.ref f13) = true)
    (z0 : PySem.W.nsIn K mainGlobals "isinstance" = some none)
    (z1 : PySem.W.nsIn K mainGlobals "range" = some none)
    (z2 : PySem.W.nsIn K mainGlobals "enumerate" = some none)
    (z3 : PySem.W.nsIn K mainGlobals "zip" = some none)
    (z4 : PySem.W.nsIn K mainGlobals "list" = some none)
    (z5 : PySem.W.nsIn K mainGlobals "len" = some none)
    (z6 : PySem.W.nsIn K mainGlobals "abs" = some none)
    (z7 : PySem.W.nsIn K mainGlobals "max" = some none)
    (z8 : PySem.W.nsIn K mainGlobals "min" = some none)
    (z9 : PySem.W.nsIn K mainGlobals "sum" = some none)
    (z10 : PySem.W.nsIn K mainGlobals "sorted" = some none)
    (z11 : PySem.W.nsIn K mainGlobals "tuple" = some none)
    (z12 : PySem.W.nsIn K mainGlobals "int" = some none)
    (z13 : PySem.W.nsIn K mainGlobals "str" = some none)
    (z14 : PySem.W.nsIn K mainGlobals "all" = some none)
    (z15 : PySem.W.nsIn K mainGlobals "any" = some none)
    (z16 : PySem.W.nsIn K mainGlobals "dict" = some none)
    (z17 : PySem.W.nsIn K mainGlobals "set" = some none)
    (z18 : PySem.W.nsIn K mainGlobals "bool" = some none)
    {u0 : Value} (gg0 : PySem.W.nsIn K mainGlobals "MOST_SIGNS" = some (some u0)) (rr0 : RelV (GV.v (.int (80))) u0)
    {u1 : Value} (gg1 : PySem.W.nsIn K mainGlobals "MOST_MARKS" = some (some u1)) (rr1 : RelV (GV.v (.int (40))) u1)
    {u2 : Value} (gg2 : PySem.W.nsIn K mainGlobals "MOST_NAME" = some (some u2)) (rr2 : RelV (GV.v (.int (6))) u2)
    {u3 : Value} (gg3 : PySem.W.nsIn K mainGlobals "LETTERS" = some (some u3)) (rr3 : RelV (GV.v (.str [97, 98, 99, 100, 101, 102, 103, 104, 105, 106, 107, 108, 109, 110, 111, 112, 113, 114, 115, 116, 117, 118, 119, 120, 121, 122])) u3)
    {u4 : Value} (gg4 : PySem.W.nsIn K mainGlobals "FIGURES" = some (some u4)) (rr4 : RelV (GV.v (.str [48, 49, 50, 51, 52, 53, 54, 55, 56, 57])) u4)
    {lc13 lp13 : Addr} (t13 : PySem.W.tabIn K "law" = some (lc13, lp13)) (n13 : K.lookup lp13 = none) (r13 : ∃ dL, (recsOf q).find? (fun e => e.name == ("law" : Str)) = some dL)
    (uu : LT.uniqB [(lc13, lp13, "law")] = true)
    {kc0 : Addr} (ka0 : PySem.W.nsIn K mainGlobals "BadEdit" = some (some (.ref kc0)))
    {kc1 : Addr} (ka1 : PySem.W.nsIn K mainGlobals "BadMark" = some (some (.ref kc1)))
    {kc2 : Addr} (ka2 : PySem.W.nsIn K mainGlobals "NoMark" = some (some (.ref kc2)))
    {kc3 : Addr} (ka3 : PySem.W.nsIn K mainGlobals "NoEdition" = some (some (.ref kc3)))
    {kc4 : Addr} (ka4 : PySem.W.nsIn K mainGlobals "BadDeed" = some (some (.ref kc4)))
    {kc5 : Addr} (ka5 : PySem.W.nsIn K mainGlobals "BadSigns" = some (some (.ref kc5)))
    {kc6 : Addr} (ka6 : PySem.W.nsIn K mainGlobals "Crossed" = some (some (.ref kc6)))
    {kc7 : Addr} (ka7 : PySem.W.nsIn K mainGlobals "BadName" = some (some (.ref kc7)))
    {kc8 : Addr} (ka8 : PySem.W.nsIn K mainGlobals "BadPattern" = some (some (.ref kc8)))
    {kc9 : Addr} (ka9 : PySem.W.nsIn K mainGlobals "BadText" = some (some (.ref kc9)))
    {kc10 : Addr} (ka10 : PySem.W.nsIn K mainGlobals "BadCount" = some (some (.ref kc10)))
    {kS : Addr} (kaS : PySem.W.nsIn K mainGlobals "ShelfError" = some (some (.ref kS))) (kaV : PySem.W.nsIn K mainGlobals "ValueError" = some none)
    (kb : kindB K [kc0, kc1, kc2, kc3, kc4, kc5, kc6, kc7, kc8, kc9, kc10] kS = true) (kib : iniB K kS = true)
    {fk : Addr} {odk ank : Option Addr} {slk : Array (Option Value)} {ock kVk dck pmk cdk ctk : Value} (ak : PySem.W.nsIn K mainGlobals "_law_kind" = some (some (.ref fk))) (lk : K.lookup fk = some ⟨ock, odk, .func (PySem.W.fnOf "_law_kind" "_law_kind" (defArgs (topS 34)) (defBody (topS 34)) (defScope (topS 34)) .none kVk dck pmk ank cdk ctk), slk⟩) (ck : PySem.W.codeIn K cdk "_law_kind" = true) (kk : PySem.W.keepIn K (.ref fk) = true)
    {fi1 : Addr} {odi1 ani1 : Option Addr} {sli1 : Array (Option Value)} {oci1 kVi1 dci1 pmi1 cdi1 cti1 : Value} (fh1 : PySem.W.findIn K (.ref kc1) "__init__" = some (some (.ref fi1)))
    (li1 : K.lookup fi1 = some ⟨oci1, odi1, .func (PySem.W.fnOf "__init__" "BadMark.__init__" (defArgs (iniS (topS 4))) (defBody (iniS (topS 4))) (defScope (iniS (topS 4))) .none kVi1 dci1 pmi1 ani1 cdi1 cti1), sli1⟩) (ci1 : PySem.W.codeIn K cdi1 "BadMark.__init__" = true) (kki1 : PySem.W.keepIn K (.ref fi1) = true) (rb1 : rzB K kc1 fi1 ["number"] = true)
    {fi5 : Addr} {odi5 ani5 : Option Addr} {sli5 : Array (Option Value)} {oci5 kVi5 dci5 pmi5 cdi5 cti5 : Value} (fh5 : PySem.W.findIn K (.ref kc5) "__init__" = some (some (.ref fi5)))
    (li5 : K.lookup fi5 = some ⟨oci5, odi5, .func (PySem.W.fnOf "__init__" "BadSigns.__init__" (defArgs (iniS (topS 2))) (defBody (iniS (topS 2))) (defScope (iniS (topS 2))) .none kVi5 dci5 pmi5 ani5 cdi5 cti5), sli5⟩) (ci5 : PySem.W.codeIn K cdi5 "BadSigns.__init__" = true) (kki5 : PySem.W.keepIn K (.ref fi5) = true) (rb5 : rzB K kc5 fi5 ["at"] = true)
    {fi9 : Addr} {odi9 ani9 : Option Addr} {sli9 : Array (Option Value)} {oci9 kVi9 dci9 pmi9 cdi9 cti9 : Value} (fh9 : PySem.W.findIn K (.ref kc9) "__init__" = some (some (.ref fi9)))
    (li9 : K.lookup fi9 = some ⟨oci9, odi9, .func (PySem.W.fnOf "__init__" "BadText.__init__" (defArgs (iniS (topS 12))) (defBody (iniS (topS 12))) (defScope (iniS (topS 12))) .none kVi9 dci9 pmi9 ani9 cdi9 cti9), sli9⟩) (ci9 : PySem.W.codeIn K cdi9 "BadText.__init__" = true) (kki9 : PySem.W.keepIn K (.ref fi9) = true) (rb9 : rzB K kc9 fi9 ["row"] = true) :
    LamX.LawAtS l w K (L2.CX l.prog w) (VI.lv 7) 63 "_law_script" mg fa h := by
  have e := hfa.symm.trans (PySem.W.mg_of X G a13)
  cases e
  have F0 := fun_mk (st := d_need_signs.st) l0 c0 k0
  have b0 := F0.binds (ps := ["signs"]) fun _ _ _ _ _ _ us hl => match us, hl with | [_], _ => rfl
  have F1 := fun_mk (st := d_is_name.st) l1 c1 k1
  have b1 := F1.binds (ps := ["word"]) fun _ _ _ _ _ _ us hl => match us, hl with | [_], _ => rfl
  have F2 := fun_mk (st := d_need_marks.st) l2 c2 k2
  have b2 := F2.binds (ps := ["signs", "some"]) fun _ _ _ _ _ _ us hl => match us, hl with | [_, _], _ => rfl
  have F3 := fun_mk (st := d_written.st) l3 c3 k3
  have b3 := F3.binds (ps := ["signs", "some"]) fun _ _ _ _ _ _ us hl => match us, hl with | [_, _], _ => rfl
  have F4 := fun_mk (st := d_is_number.st) l4 c4 k4
  have b4 := F4.binds (ps := ["word"]) fun _ _ _ _ _ _ us hl => match us, hl with | [_], _ => rfl
  have F5 := fun_mk (st := d_read.st) l5 c5 k5
  have b5 := F5.binds (ps := ["signs", "text"]) fun _ _ _ _ _ _ us hl => match us, hl with | [_, _], _ => rfl
  have F6 := fun_mk (st := d_law_mix.st) l6 c6 k6
  have b6 := F6.binds (ps := ["_law_script", "_law_seed"]) fun _ _ _ _ _ _ us hl => match us, hl with | [_, _], _ => rfl
  have F7 := fun_mk (st := d_law_next.st) l7 c7 k7
  have b7 := F7.binds (ps := ["_law_h", "_law_many"]) fun _ _ _ _ _ _ us hl => match us, hl with | [_, _], _ => rfl
  have F8 := fun_mk (st := d_law_alike.st) l8 c8 k8
  have b8 := F8.binds (ps := ["_law_found", "_law_due_here"]) fun _ _ _ _ _ _ us hl => match us, hl with | [_, _], _ => rfl
  have F9 := fun_mk (st := d_law_signs.st) l9 c9 k9
  have b9 := F9.binds (ps := ["_law_h", "_law_most"]) fun _ _ _ _ _ _ us hl => match us, hl with | [_, _], _ => rfl
  have F10 := fun_mk (st := d_law_marks.st) l10 c10 k10
  have b10 := F10.binds (ps := ["_law_h", "_law_body", "_law_most"]) fun _ _ _ _ _ _ us hl => match us, hl with | [_, _, _], _ => rfl
  have F11 := fun_mk (st := d_law_is_number.st) l11 c11 k11
  have b11 := F11.binds (ps := ["_law_word"]) fun _ _ _ _ _ _ us hl => match us, hl with | [_], _ => rfl
  have F12 := fun_mk (st := d_law_due.st) l12 c12 k12
  have b12 := F12.binds (ps := ["_law_body", "_law_text"]) fun _ _ _ _ _ _ us hl => match us, hl with | [_, _], _ => rfl
  have F13 := fun_mk (st := d_law.st) l13 c13 k13
  have b13 := F13.binds (ps := ["_law_script"]) fun _ _ _ _ _ _ us hl => match us, hl with | [_], _ => rfl
  have Fk := fun_mk (st := (topS 34)) lk ck kk
  have bk := Fk.binds (ps := ["_law_call"]) fun _ _ _ _ _ _ us hl => match us, hl with | [_], _ => rfl
  have KC : KindC K mg [kc0, kc1, kc2, kc3, kc4, kc5, kc6, kc7, kc8, kc9, kc10] kS := kindB_ok kb (PySem.W.mg_of X G kaS) (PySem.W.mg_none_of X G z0) (PySem.W.mg_none_of X G kaV) fun i n h => by
    have hi : i < 11 := (List.getElem?_eq_some_iff.mp h).1
    match i, hi, h with
    | 0, _, h => cases h; exact PySem.W.mg_of X G ka0
    | 1, _, h => cases h; exact PySem.W.mg_of X G ka1
    | 2, _, h => cases h; exact PySem.W.mg_of X G ka2
    | 3, _, h => cases h; exact PySem.W.mg_of X G ka3
    | 4, _, h => cases h; exact PySem.W.mg_of X G ka4
    | 5, _, h => cases h; exact PySem.W.mg_of X G ka5
    | 6, _, h => cases h; exact PySem.W.mg_of X G ka6
    | 7, _, h => cases h; exact PySem.W.mg_of X G ka7
    | 8, _, h => cases h; exact PySem.W.mg_of X G ka8
    | 9, _, h => cases h; exact PySem.W.mg_of X G ka9
    | 10, _, h => cases h; exact PySem.W.mg_of X G ka10
  have fx : Facts K mg tbl gl := ⟨fun x hx => ?_, glB_ok ?_, ?_, ?_, ?_, ?_⟩
  · refine law_at (T := [(lc13, lp13, "law")]) uu tabs (fun e he => ?_) fx ?_ (fun base => lk_cons (rz1_ok (fun_mk (st := iniS (topS 4)) li1 ci1 kki1) rb1 kib (PySem.W.mg_of X G ka1) (PySem.W.mg_of X G kaS) (scope_of (by decide)) rfl rfl rfl (by decide) (by decide) rfl rfl (fun _ _ _ _ _ _ _ _ => rfl)) (lk_cons (rz1_ok (fun_mk (st := iniS (topS 2)) li5 ci5 kki5) rb5 kib (PySem.W.mg_of X G ka5) (PySem.W.mg_of X G kaS) (scope_of (by decide)) rfl rfl rfl (by decide) (by decide) rfl rfl (fun _ _ _ _ _ _ _ _ => rfl)) (lk_cons (rz1_ok (fun_mk (st := iniS (topS 12)) li9 ci9 kki9) rb9 kib (PySem.W.mg_of X G ka9) (PySem.W.mg_of X G kaS) (scope_of (by decide)) rfl rfl rfl (by decide) (by decide) rfl rfl (fun _ _ _ _ _ _ _ _ => rfl)) (lk_nil)))) (fun _ => kindK_ok Fk (PySem.W.mg_of X G ak) bk (by decide) kqN kqB (by decide) KC) hok (t := tbl) (d := d_law) rfl rfl rfl hfa F13 (fun s v => .of_eq rfl) hrun
    · simp only [List.mem_cons, List.not_mem_nil, or_false] at he
      rcases he with rfl
      · exact ⟨t13, n13, r13⟩
    · exact lk_cons (fun h => absurd h (by decide)) (lk_cons (fun h => absurd h (by decide)) (lk_cons (fun h => absurd h (by decide)) (lk_cons (fun h => absurd h (by decide)) (lk_cons (fun h => absurd h (by decide)) (lk_cons (fun h => absurd h (by decide)) (lk_cons (fun h => absurd h (by decide)) (lk_cons (fun h => absurd h (by decide)) (lk_cons (fun h => absurd h (by decide)) (lk_cons (fun h => absurd h (by decide)) (lk_cons (fun h => absurd h (by decide)) (lk_cons (fun h => absurd h (by decide)) (lk_cons (fun h => absurd h (by decide)) (lk_cons (fun _ => ⟨(lc13, lp13, "law"), by simp, rfl, _, a13, PySem.W.mg_of X G a13⟩) (lk_nil))))))))))))))
  · exact blt_ok (fun y hy => by
      simp only [bltL, List.mem_cons, List.not_mem_nil, or_false] at hy
      rcases hy with rfl | rfl | rfl | rfl | rfl | rfl | rfl | rfl | rfl | rfl | rfl | rfl | rfl | rfl | rfl | rfl | rfl | rfl | rfl
      · exact PySem.W.mg_none_of X G z0
      · exact PySem.W.mg_none_of X G z1
      · exact PySem.W.mg_none_of X G z2
      · exact PySem.W.mg_none_of X G z3
      · exact PySem.W.mg_none_of X G z4
      · exact PySem.W.mg_none_of X G z5
      · exact PySem.W.mg_none_of X G z6
      · exact PySem.W.mg_none_of X G z7
      · exact PySem.W.mg_none_of X G z8
      · exact PySem.W.mg_none_of X G z9
      · exact PySem.W.mg_none_of X G z10
      · exact PySem.W.mg_none_of X G z11
      · exact PySem.W.mg_none_of X G z12
      · exact PySem.W.mg_none_of X G z13
      · exact PySem.W.mg_none_of X G z14
      · exact PySem.W.mg_none_of X G z15
      · exact PySem.W.mg_none_of X G z16
      · exact PySem.W.mg_none_of X G z17
      · exact PySem.W.mg_none_of X G z18) x hx
  · exact lk_cons ⟨_, PySem.W.mg_of X G gg0, rr0⟩ (lk_cons ⟨_, PySem.W.mg_of X G gg1, rr1⟩ (lk_cons ⟨_, PySem.W.mg_of X G gg2, rr2⟩ (lk_cons ⟨_, PySem.W.mg_of X G gg3, rr3⟩ (lk_cons ⟨_, PySem.W.mg_of X G gg4, rr4⟩ (lk_nil)))))
  · exact lk_cons (fun _ => ⟨_, _, F0, PySem.W.mg_of X G a0, b0⟩) (lk_cons (fun _ => ⟨_, _, F1, PySem.W.mg_of X G a1, b1⟩) (lk_cons (fun _ => ⟨_, _, F2, PySem.W.mg_of X G a2, b2⟩) (lk_cons (fun _ => ⟨_, _, F3, PySem.W.mg_of X G a3, b3⟩) (lk_cons (fun _ => ⟨_, _, F4, PySem.W.mg_of X G a4, b4⟩) (lk_cons (fun _ => ⟨_, _, F5, PySem.W.mg_of X G a5, b5⟩) (lk_cons (fun _ => ⟨_, _, F6, PySem.W.mg_of X G a6, b6⟩) (lk_cons (fun _ => ⟨_, _, F7, PySem.W.mg_of X G a7, b7⟩) (lk_cons (fun _ => ⟨_, _, F8, PySem.W.mg_of X G a8, b8⟩) (lk_cons (fun _ => ⟨_, _, F9, PySem.W.mg_of X G a9, b9⟩) (lk_cons (fun _ => ⟨_, _, F10, PySem.W.mg_of X G a10, b10⟩) (lk_cons (fun _ => ⟨_, _, F11, PySem.W.mg_of X G a11, b11⟩) (lk_cons (fun _ => ⟨_, _, F12, PySem.W.mg_of X G a12, b12⟩) (lk_cons (fun _ => ⟨_, _, F13, PySem.W.mg_of X G a13, b13⟩) (lk_nil))))))))))))))
  · exact fun f d C m hf => (lk_cons (Pp := MetF K mg) (metF_no (by decide))
      (lk_cons (Pp := MetF K mg) (metF_no (by decide))
      (lk_cons (Pp := MetF K mg) (metF_no (by decide))
      (lk_cons (Pp := MetF K mg) (metF_no (by decide))
      (lk_cons (Pp := MetF K mg) (metF_no (by decide))
      (lk_cons (Pp := MetF K mg) (metF_no (by decide))
      (lk_cons (Pp := MetF K mg) (metF_no (by decide))
      (lk_cons (Pp := MetF K mg) (metF_no (by decide))
      (lk_cons (Pp := MetF K mg) (metF_no (by decide))
      (lk_cons (Pp := MetF K mg) (metF_no (by decide))
      (lk_cons (Pp := MetF K mg) (metF_no (by decide))
      (lk_cons (Pp := MetF K mg) (metF_no (by decide))
      (lk_cons (Pp := MetF K mg) (metF_no (by decide))
      (lk_cons (Pp := MetF K mg) (metF_no (by decide))
      (lk_nil)))))))))))))) : ∀ f d, tbl.lookup f = some d → MetF K mg f d) f d hf C m
  · exact lk_nil
  · exact lk_nil
end Lk21
open PySem PySem.W PyProof.Rows
set_option maxHeartbeats 0 in
theorem PySem.Challenge.cw_marksheaf_k21_marks_written_and_read_holds : PySem.Challenge.rw_marksheaf_k21_marks_written_and_read.Holds := by
  w_on; o_law; k_head; (case hw => w_witness2)
  k_fill
  refine VI.walk_tabs (l := PySem.Challenge.rw_marksheaf_k21_marks_written_and_read) (n := 63) (k := VI.lv 7) (x := "_law_script") (CX := fun w => L2.CX PySem.Challenge.rw_marksheaf_k21_marks_written_and_read.prog w) rfl (by decide) rfl ⟨rfl, by decide, by decide⟩ (fun w h Y => by first | exact PySem.W.km_in_of Y | exact PySem.W.kIn_of Y) ?F (fun _ _ _ _ _ h => VI.cx_false h)
  case F =>
    intro w mg fa h KX G hmg tabs
    refine' Lk21.all_mk KX G hmg tabs ?a0 ?l0 ?c0 ?k0 ?a1 ?l1 ?c1 ?k1 ?a2 ?l2 ?c2 ?k2 ?a3 ?l3 ?c3 ?k3 ?a4 ?l4 ?c4 ?k4 ?a5 ?l5 ?c5 ?k5 ?a6 ?l6 ?c6 ?k6 ?a7 ?l7 ?c7 ?k7 ?a8 ?l8 ?c8 ?k8 ?a9 ?l9 ?c9 ?k9 ?a10 ?l10 ?c10 ?k10 ?a11 ?l11 ?c11 ?k11 ?a12 ?l12 ?c12 ?k12 ?a13 ?l13 ?c13 ?k13 ?z0 ?z1 ?z2 ?z3 ?z4 ?z5 ?z6 ?z7 ?z8 ?z9 ?z10 ?z11 ?z12 ?z13 ?z14 ?z15 ?z16 ?z17 ?z18 ?gg0 ?rr0 ?gg1 ?rr1 ?gg2 ?rr2 ?gg3 ?rr3 ?gg4 ?rr4 ?t13 ?n13 ?r13 ?uu ?ka0 ?ka1 ?ka2 ?ka3 ?ka4 ?ka5 ?ka6 ?ka7 ?ka8 ?ka9 ?ka10 ?kaS ?kaV ?kb ?kib ?ak ?lk ?ck ?kk ?fh1 ?li1 ?ci1 ?kki1 ?rb1 ?fh5 ?li5 ?ci5 ?kki5 ?rb5 ?fh9 ?li9 ?ci9 ?kki9 ?rb9
    (case a0 => k_is); (case l0 => k_is); (case c0 => k_is); (case k0 => k_is); (case a1 => k_is); (case l1 => k_is); (case c1 => k_is); (case k1 => k_is); (case a2 => k_is); (case l2 => k_is); (case c2 => k_is); (case k2 => k_is); (case a3 => k_is); (case l3 => k_is); (case c3 => k_is); (case k3 => k_is); (case a4 => k_is); (case l4 => k_is); (case c4 => k_is); (case k4 => k_is); (case a5 => k_is); (case l5 => k_is); (case c5 => k_is); (case k5 => k_is); (case a6 => k_is); (case l6 => k_is); (case c6 => k_is); (case k6 => k_is); (case a7 => k_is); (case l7 => k_is); (case c7 => k_is); (case k7 => k_is); (case a8 => k_is); (case l8 => k_is); (case c8 => k_is); (case k8 => k_is); (case a9 => k_is); (case l9 => k_is); (case c9 => k_is); (case k9 => k_is); (case a10 => k_is); (case l10 => k_is); (case c10 => k_is); (case k10 => k_is); (case a11 => k_is); (case l11 => k_is); (case c11 => k_is); (case k11 => k_is); (case a12 => k_is); (case l12 => k_is); (case c12 => k_is); (case k12 => k_is); (case a13 => k_is); (case l13 => k_is); (case c13 => k_is); (case k13 => k_is); (case z0 => k_is); (case z1 => k_is); (case z2 => k_is); (case z3 => k_is); (case z4 => k_is); (case z5 => k_is); (case z6 => k_is); (case z7 => k_is); (case z8 => k_is); (case z9 => k_is); (case z10 => k_is); (case z11 => k_is); (case z12 => k_is); (case z13 => k_is); (case z14 => k_is); (case z15 => k_is); (case z16 => k_is); (case z17 => k_is); (case z18 => k_is); (case gg0 => k_is); (case rr0 => exact ⟨_, rfl⟩); (case gg1 => k_is); (case rr1 => exact ⟨_, rfl⟩); (case gg2 => k_is); (case rr2 => exact ⟨_, rfl⟩); (case gg3 => k_is); (case rr3 => exact ⟨_, rfl⟩); (case gg4 => k_is); (case rr4 => exact ⟨_, rfl⟩); (case t13 => with_unfolding_all exact rfl); (case n13 => first | kernel_rfl | with_unfolding_all exact rfl); (case r13 => first | exact ⟨_, rfl⟩ | with_unfolding_all exact ⟨_, rfl⟩); (case uu => decide +kernel); (case ka0 => k_is); (case ka1 => k_is); (case ka2 => k_is); (case ka3 => k_is); (case ka4 => k_is); (case ka5 => k_is); (case ka6 => k_is); (case ka7 => k_is); (case ka8 => k_is); (case ka9 => k_is); (case ka10 => k_is); (case kaS => k_is); (case kaV => k_is); (case kb => first | kernel_rfl | with_unfolding_all exact rfl); (case kib => first | kernel_rfl | with_unfolding_all exact rfl); (case ak => k_is); (case lk => k_is); (case ck => k_is); (case kk => k_is); (case fh1 => k_is); (case li1 => k_is); (case ci1 => k_is); (case kki1 => k_is); (case rb1 => first | kernel_rfl | with_unfolding_all exact rfl); (case fh5 => k_is); (case li5 => k_is); (case ci5 => k_is); (case kki5 => k_is); (case rb5 => first | kernel_rfl | with_unfolding_all exact rfl); (case fh9 => k_is); (case li9 => k_is); (case ci9 => k_is); (case kki9 => k_is); (case rb9 => first | kernel_rfl | with_unfolding_all exact rfl)

