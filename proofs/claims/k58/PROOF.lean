import PyProof.Rows.All
import HandS.ForMost
import HandS.ForExc
import HandS.IsInst
import HandS.Wide
import HandS.WideBits
import HandS.SortInts
import HandS.Deep
import HandS.Defaults
import HandS.TupAny
import HandS.SetFor
import HandS.Star
import KE.DataFind
import HandS.CallSlots
import HandS.Zip
import HandS.WordsExc
import HandS.EndBits
import HandS.Small
import HandS.Dict
import HandS.RaiseMore
import PyProof.ReprRoads
import PyProof.ReprBulk
import PyProof.FitsInt
import PySem.Challenge.RW_neverbehind_k58_whole_who_parks_where
set_option Elab.async false
set_option linter.all false
set_option maxRecDepth 100000
/-! MpCore: data trees with cells; what it is that a value of the abstract heap stands for one; results; the readings of combinators. -/
namespace MP
open PySem PySem.Spec PyProof.Rows L2

/-! ### data -/
/-- the built-in classes -/
inductive Ty where
  | int | bool | str | list | tuple | dict | none
  deriving DecidableEq
def Ty.name : Ty → String
  | .int => "int" | .bool => "bool" | .str => "str" | .list => "list" | .tuple => "tuple" | .dict => "dict" | .none => "NoneType"
inductive D where
  | non | bl (b : Bool) | int (i : Int) | str (s : Str)
  | lst (xs : List D) | tup (xs : List D)
  | dk (ks : List Key) (xs : List D) | dt (ks : List (List Key)) (xs : List D)
  | cel (n : Nat) | ty (n : Ty) | fn (n : Nat) | scr (ns : List Int)
inductive O where
  | lst (xs : List D) | dk (ks : List Key) (xs : List D)
abbrev Stt := List (Option O)
abbrev Ev := List (Option D)
inductive R (α : Type) where
  | ok (a : α) (st : Stt) | exc (c : Nat) (d : D) (st : Stt) | fail
inductive RS where
  | nx (σ : Ev) (st : Stt) | rt (d : D) (st : Stt) | bk (σ : Ev) (st : Stt) | ct (σ : Ev) (st : Stt)
  | exc (c : Nat) (d : D) (σ : Ev) (st : Stt) | fail
abbrev SE := Ev → Stt → R D
abbrev SB := Ev → Stt → R Bool
/-- a list that stands in a cell while it is gone through: the cell's number, what stood there -/
abbrev Gs := List (Nat × List D)
abbrev SI := Ev → Stt → R (List D × Gs)
abbrev SA := Ev → Stt → R (List D)
abbrev SS := Ev → Stt → RS
abbrev SG := D → Ev → Stt → Option Ev
/-- the semantics of a def -/
abbrev SF := List D → Stt → R D
@[simp] def R.bind {α β : Type} (r : R α) (f : α → Stt → R β) : R β := match r with
  | .ok a st => f a st
  | .exc c d st => .exc c d st
  | .fail => .fail
@[simp] def R.st {α : Type} (r : R α) (σ : Ev) (f : α → Stt → RS) : RS := match r with
  | .ok a st => f a st
  | .exc c d st => .exc c d σ st
  | .fail => .fail
mutual
def D.beq : D → D → Bool
  | .non, .non => true
  | .bl a, .bl b => decide (a = b)
  | .int a, .int b => decide (a = b)
  | .str a, .str b => decide (a = b)
  | .lst a, .lst b => D.beqs a b
  | .tup a, .tup b => D.beqs a b
  | .dk k a, .dk l b => decide (k = l) && D.beqs a b
  | .dt k a, .dt l b => decide (k = l) && D.beqs a b
  | .cel a, .cel b => decide (a = b)
  | .ty a, .ty b => decide (a = b)
  | .fn a, .fn b => decide (a = b)
  | .scr a, .scr b => decide (a = b)
  | _, _ => false
def D.beqs : List D → List D → Bool
  | [], [] => true
  | a :: r, b :: s => D.beq a b && D.beqs r s
  | _, _ => false
end
mutual
theorem D.beq_eq : ∀ {a b : D}, D.beq a b = true → a = b
  | .non, b, h => by cases b <;> simp_all [D.beq]
  | .bl _, b, h => by cases b <;> simp_all [D.beq]
  | .int _, b, h => by cases b <;> simp_all [D.beq]
  | .str _, b, h => by cases b <;> simp_all [D.beq]
  | .cel _, b, h => by cases b <;> simp_all [D.beq]
  | .ty _, b, h => by cases b <;> simp_all [D.beq]
  | .fn _, b, h => by cases b <;> simp_all [D.beq]
  | .scr _, b, h => by cases b <;> simp_all [D.beq]
  | .lst xs, b, h => by
    cases b <;> simp [D.beq] at h
    rw [D.beqs_eq h]
  | .tup xs, b, h => by
    cases b <;> simp [D.beq] at h
    rw [D.beqs_eq h]
  | .dk ks xs, b, h => by
    cases b <;> simp [D.beq] at h
    rw [D.beqs_eq h.2, h.1]
  | .dt ks xs, b, h => by
    cases b <;> simp [D.beq] at h
    rw [D.beqs_eq h.2, h.1]
theorem D.beqs_eq : ∀ {a b : List D}, D.beqs a b = true → a = b
  | [], b, h => by cases b <;> simp_all [D.beqs]
  | x :: xs, b, h => by
    cases b with
    | nil => simp [D.beqs] at h
    | cons y ys =>
      simp [D.beqs] at h
      rw [D.beq_eq h.1, D.beqs_eq h.2]
end
mutual
@[simp] theorem D.beq_refl : ∀ a : D, D.beq a a = true
  | .non => rfl
  | .bl _ => by simp [D.beq]
  | .int _ => by simp [D.beq]
  | .str _ => by simp [D.beq]
  | .cel _ => by simp [D.beq]
  | .ty _ => by simp [D.beq]
  | .fn _ => by simp [D.beq]
  | .scr _ => by simp [D.beq]
  | .lst xs => by simp [D.beq, D.beqs_refl xs]
  | .tup xs => by simp [D.beq, D.beqs_refl xs]
  | .dk ks xs => by simp [D.beq, D.beqs_refl xs]
  | .dt ks xs => by simp [D.beq, D.beqs_refl xs]
@[simp] theorem D.beqs_refl : ∀ a : List D, D.beqs a a = true
  | [] => rfl
  | x :: xs => by simp [D.beqs, D.beq_refl x, D.beqs_refl xs]
end
/-- the cells stand as they stood -/
def chk : Gs → Stt → Bool
  | [], _ => true
  | (n, xs) :: r, st => (match st[n]? with
    | some (some (.lst ys)) => D.beqs xs ys
    | _ => false) && chk r st
theorem chk_at : ∀ {gs : Gs} {st : Stt} {n : Nat} {xs : List D}, chk gs st = true → (n, xs) ∈ gs → st[n]? = some (some (.lst xs))
  | (m, ys) :: r, st, n, xs, h, hm => by
    simp only [chk, Bool.and_eq_true] at h
    rcases List.mem_cons.mp hm with e | hm
    · cases e
      split at h
      · rename_i zs hz
        rw [hz, D.beqs_eq h.1]
      · simp at h
    · exact chk_at h.2 hm
theorem chk_append {a b : Gs} {st : Stt} (h : chk (a ++ b) st = true) : chk a st = true ∧ chk b st = true := by
  induction a with
  | nil => exact ⟨rfl, h⟩
  | cons x r ih =>
    simp only [List.cons_append, chk, Bool.and_eq_true] at h ⊢
    exact ⟨⟨h.1, (ih h.2).1⟩, (ih h.2).2⟩
/-- what an operation gives: a value that stands, a new list, tuple, dict -/
inductive N where
  | v (d : D) | l (ds : List D) | t (ds : List D) | k (ks : List Key) (ds : List D)
/-- b: a new list or dict is a cell -/
def fin (b : Bool) (o : Option N) (st : Stt) : R D := match o with
  | some (.v d) => .ok d st
  | some (.l ds) => if b = true then .ok (.cel st.length) (st ++ [some (.lst ds)]) else .ok (.lst ds) st
  | some (.t ds) => .ok (.tup ds) st
  | some (.k ks ds) => if b = true then .ok (.cel st.length) (st ++ [some (.dk ks ds)]) else .ok (.dk ks ds) st
  | none => .fail

/-! ### the world -/
structure Wd where
  ρ : List Addr
  st : Stt
  H : Hp
  hid : List Addr
def CellL (ρ : List Addr) (st : Stt) (a : Addr) : Prop := ∃ (n : Nat) (o : O), st[n]? = some (some o) ∧ ρ[n]? = some a
def Wd.Live (w : Wd) (a : Addr) : Prop := CellL w.ρ w.st a ∨ a ∈ w.hid

/-- the addresses of the program's own defs and classes (by number) -/
structure Tb where
  fa : Nat → Addr
  K : PySem.W.Frag
/-- the script, where the ground holds it -/
def ScrK (K : PySem.W.Frag) (a : Addr) (ns : List Int) : Prop := ∃ (o : Obj) (its : Array Value) (n : Nat), K.lookup a = some o ∧ o.cls = .type "list" ∧ o.dict = none ∧ o.data = .seq its n ∧ its.size ≤ sizeLine ∧ Vals (ns.map V.int) its.toList

mutual
def Rep (T : Tb) (w : Wd) : D → V → Prop
  | .non, v => v = .non
  | .bl b, v => v = .bl b
  | .int i, v => v = .int i
  | .str s, v => v = .str s
  | .lst ds, v => ∃ a vs, v = .ref a ∧ w.H a = some (.lst vs) ∧ ¬ w.Live a ∧ Reps T w ds vs
  | .tup ds, v => ∃ a vs, v = .ref a ∧ w.H a = some (.tup vs) ∧ ¬ w.Live a ∧ Reps T w ds vs
  | .dk ks ds, v => ∃ a vs, v = .ref a ∧ w.H a = some (.dK (ks.zip vs)) ∧ ks.length = vs.length ∧ ¬ w.Live a ∧ Reps T w ds vs
  | .dt ks ds, v => ∃ a vs, v = .ref a ∧ w.H a = some (.dT (ks.zip vs)) ∧ ks.length = vs.length ∧ ¬ w.Live a ∧ Reps T w ds vs
  | .cel n, v => ∃ a, v = .ref a ∧ w.ρ[n]? = some a
  | .ty n, v => v = .ty n.name
  | .fn n, v => v = .ref (T.fa n)
  | .scr ns, v => ∃ a, v = .ref a ∧ ((∃ o, w.H a = some (.frz o (.lst (ns.map V.int))) ∧ ¬ w.Live a) ∨ ScrK T.K a ns)
def Reps (T : Tb) (w : Wd) : List D → List V → Prop
  | [], vs => vs = []
  | d :: ds, vs => ∃ v r, vs = v :: r ∧ Rep T w d v ∧ Reps T w ds r
end
def RepO (T : Tb) (w : Wd) (a : Addr) : O → Prop
  | .lst ds => ∃ vs, w.H a = some (.lst vs) ∧ Reps T w ds vs
  | .dk ks ds => ∃ vs, w.H a = some (.dK (ks.zip vs)) ∧ ks.length = vs.length ∧ Reps T w ds vs
structure COk (T : Tb) (w : Wd) : Prop where
  len : w.ρ.length = w.st.length
  inj : ∀ (m n : Nat) (a : Addr) (om on : O), w.st[m]? = some (some om) → w.st[n]? = some (some on) → w.ρ[m]? = some a → w.ρ[n]? = some a → m = n
  cell : ∀ (n : Nat) (o : O) (a : Addr), w.st[n]? = some (some o) → w.ρ[n]? = some a → RepO T w a o
  hid : ∀ a ∈ w.hid, (∃ o, w.H a = some o) ∧ ¬ CellL w.ρ w.st a
/-- enough for data to stay -/
structure Stp0 (w w' : Wd) : Prop where
  pre : w.ρ <+: w'.ρ
  keep : ∀ a o, w.H a = some o → ¬ w.Live a → w'.H a = some o ∧ ¬ w'.Live a
structure Stp (w w' : Wd) : Prop where
  s0 : Stp0 w w'
  hid : w'.hid = w.hid
  hk : ∀ a ∈ w.hid, w'.H a = w.H a
theorem Stp0.refl (w : Wd) : Stp0 w w := ⟨List.prefix_refl _, fun _ _ h n => ⟨h, n⟩⟩
theorem Stp.refl (w : Wd) : Stp w w := ⟨.refl w, rfl, fun _ _ => rfl⟩
theorem Stp0.trans {w w1 w2 : Wd} (a : Stp0 w w1) (b : Stp0 w1 w2) : Stp0 w w2 :=
  ⟨a.pre.trans b.pre, fun x o h n => let ⟨h1, n1⟩ := a.keep x o h n; b.keep x o h1 n1⟩
theorem Stp.trans {w w1 w2 : Wd} (a : Stp w w1) (b : Stp w1 w2) : Stp w w2 :=
  ⟨a.s0.trans b.s0, b.hid.trans a.hid, fun x h => (b.hk x (by rw [a.hid]; exact h)).trans (a.hk x h)⟩
theorem pre_get {l l' : List Addr} (h : l <+: l') {n : Nat} {a : Addr} (e : l[n]? = some a) : l'[n]? = some a := by
  obtain ⟨r, rfl⟩ := h
  have hn : n < l.length := (List.getElem?_eq_some_iff.mp e).1
  rw [List.getElem?_append_left hn]
  exact e
section
variable {T : Tb}
mutual
theorem Rep.mono {w w' : Wd} (s : Stp0 w w') : ∀ (d : D) {v : V}, Rep T w d v → Rep T w' d v
  | .non, _, h => h
  | .bl _, _, h => h
  | .int _, _, h => h
  | .str _, _, h => h
  | .ty _, _, h => h
  | .fn _, _, h => h
  | .lst ds, _, h => by
    simp only [Rep] at h ⊢
    obtain ⟨a, vs, e, h1, h2, h3⟩ := h
    obtain ⟨k1, k2⟩ := s.keep a _ h1 h2
    exact ⟨a, vs, e, k1, k2, Reps.mono s ds h3⟩
  | .tup ds, _, h => by
    simp only [Rep] at h ⊢
    obtain ⟨a, vs, e, h1, h2, h3⟩ := h
    obtain ⟨k1, k2⟩ := s.keep a _ h1 h2
    exact ⟨a, vs, e, k1, k2, Reps.mono s ds h3⟩
  | .dk ks ds, _, h => by
    simp only [Rep] at h ⊢
    obtain ⟨a, vs, e, h1, hl, h2, h3⟩ := h
    obtain ⟨k1, k2⟩ := s.keep a _ h1 h2
    exact ⟨a, vs, e, k1, hl, k2, Reps.mono s ds h3⟩
  | .dt ks ds, _, h => by
    simp only [Rep] at h ⊢
    obtain ⟨a, vs, e, h1, hl, h2, h3⟩ := h
    obtain ⟨k1, k2⟩ := s.keep a _ h1 h2
    exact ⟨a, vs, e, k1, hl, k2, Reps.mono s ds h3⟩
  | .cel n, _, h => by
    simp only [Rep] at h ⊢
    obtain ⟨a, e, h1⟩ := h
    exact ⟨a, e, pre_get s.pre h1⟩
  | .scr ns, _, h => by
    simp only [Rep] at h ⊢
    obtain ⟨a, e, h⟩ := h
    refine ⟨a, e, ?_⟩
    rcases h with ⟨o, h1, h2⟩ | h
    · exact .inl ⟨o, s.keep a _ h1 h2⟩
    · exact .inr h
theorem Reps.mono {w w' : Wd} (s : Stp0 w w') : ∀ (ds : List D) {vs : List V}, Reps T w ds vs → Reps T w' ds vs
  | [], _, h => h
  | d :: ds, _, h => by
    simp only [Reps] at h ⊢
    obtain ⟨v, r, e, h1, h2⟩ := h
    exact ⟨v, r, e, Rep.mono s d h1, Reps.mono s ds h2⟩
end
theorem RepO.mono {w w' : Wd} (s : Stp0 w w') {a : Addr} {o : O} (h : RepO T w a o) (e : w'.H a = w.H a) : RepO T w' a o := by
  cases o with
  | lst ds =>
    obtain ⟨vs, h1, h2⟩ := h
    exact ⟨vs, e.trans h1, Reps.mono s ds h2⟩
  | dk ks ds =>
    obtain ⟨vs, h1, hl, h2⟩ := h
    exact ⟨vs, e.trans h1, hl, Reps.mono s ds h2⟩
theorem RepO.some {w : Wd} {a : Addr} {o : O} (h : RepO T w a o) : ∃ x, w.H a = some x := by
  cases o with
  | lst ds => obtain ⟨vs, h1, _⟩ := h; exact ⟨_, h1⟩
  | dk ks ds => obtain ⟨vs, h1, _⟩ := h; exact ⟨_, h1⟩
theorem Reps.length {w : Wd} : ∀ {ds : List D} {vs : List V}, Reps T w ds vs → ds.length = vs.length
  | [], _, h => by simp only [Reps] at h; subst h; rfl
  | d :: ds, _, h => by
    simp only [Reps] at h
    obtain ⟨v, r, rfl, _, h2⟩ := h
    exact congrArg Nat.succ (Reps.length h2)
theorem Reps.get {w : Wd} : ∀ {ds : List D} {vs : List V} {i : Nat} {d : D}, Reps T w ds vs → ds[i]? = .some d → ∃ v, vs[i]? = .some v ∧ Rep T w d v
  | [], _, _, _, _, e => by simp at e
  | d :: ds, _, 0, x, h, e => by
    simp only [Reps] at h
    obtain ⟨v, r, rfl, h1, h2⟩ := h
    simp at e
    subst e
    exact ⟨v, rfl, h1⟩
  | d :: ds, _, i + 1, x, h, e => by
    simp only [Reps] at h
    obtain ⟨v, r, rfl, h1, h2⟩ := h
    obtain ⟨u, h3, h4⟩ := Reps.get (i := i) h2 (by simpa using e)
    exact ⟨u, by simpa using h3, h4⟩
theorem Reps.append {w : Wd} : ∀ {ds es : List D} {vs us : List V}, Reps T w ds vs → Reps T w es us → Reps T w (ds ++ es) (vs ++ us)
  | [], _, _, _, h, h' => by simp only [Reps] at h; subst h; exact h'
  | d :: ds, _, _, _, h, h' => by
    simp only [Reps] at h
    obtain ⟨v, r, rfl, h1, h2⟩ := h
    show Reps T w (d :: (ds ++ _)) (v :: (r ++ _))
    simp only [Reps]
    exact ⟨v, _, rfl, h1, Reps.append h2 h'⟩
theorem Reps.nil {w : Wd} : Reps T w [] [] := by simp only [Reps]
theorem Reps.cons {w : Wd} {d : D} {ds : List D} {v : V} {vs : List V} (h : Rep T w d v) (t : Reps T w ds vs) : Reps T w (d :: ds) (v :: vs) := by
  simp only [Reps]
  exact ⟨v, vs, rfl, h, t⟩
theorem Reps.one {w : Wd} {d : D} {v : V} (h : Rep T w d v) : Reps T w [d] [v] := .cons h .nil
theorem Reps.take {w : Wd} : ∀ (n : Nat) {ds : List D} {vs : List V}, Reps T w ds vs → Reps T w (ds.take n) (vs.take n)
  | 0, _, _, _ => by simp; exact .nil
  | _ + 1, [], _, h => by simp only [Reps] at h; subst h; simp; exact .nil
  | n + 1, d :: ds, _, h => by
    simp only [Reps] at h
    obtain ⟨v, r, rfl, h1, h2⟩ := h
    exact .cons h1 (Reps.take n h2)
theorem Reps.drop {w : Wd} : ∀ (n : Nat) {ds : List D} {vs : List V}, Reps T w ds vs → Reps T w (ds.drop n) (vs.drop n)
  | 0, _, _, h => h
  | _ + 1, [], _, h => by simp only [Reps] at h; subst h; simp; exact .nil
  | n + 1, d :: ds, _, h => by
    simp only [Reps] at h
    obtain ⟨v, r, rfl, h1, h2⟩ := h
    exact Reps.drop n h2
theorem Reps.set {w : Wd} {d : D} {v : V} (h : Rep T w d v) : ∀ (i : Nat) {ds : List D} {vs : List V}, Reps T w ds vs → Reps T w (ds.set i d) (vs.set i v)
  | _, [], _, t => by simp only [Reps] at t; subst t; exact .nil
  | 0, _ :: ds, _, t => by
    simp only [Reps] at t
    obtain ⟨u, r, rfl, h1, h2⟩ := t
    exact .cons h h2
  | i + 1, _ :: ds, _, t => by
    simp only [Reps] at t
    obtain ⟨u, r, rfl, h1, h2⟩ := t
    exact .cons h1 (Reps.set h i h2)
theorem Reps.reverse {w : Wd} : ∀ {ds : List D} {vs : List V}, Reps T w ds vs → Reps T w ds.reverse vs.reverse
  | [], _, h => by simp only [Reps] at h; subst h; exact .nil
  | d :: ds, _, h => by
    simp only [Reps] at h
    obtain ⟨v, r, rfl, h1, h2⟩ := h
    rw [List.reverse_cons, List.reverse_cons]
    exact (Reps.reverse h2).append (.one h1)
theorem Reps.ints {w : Wd} : ∀ {ns : List Int} {vs : List V}, Reps T w (ns.map D.int) vs ↔ vs = ns.map V.int
  | [], _ => by simp [Reps]
  | n :: ns, vs => by
    simp only [List.map_cons, Reps, Rep]
    constructor
    · rintro ⟨v, r, rfl, rfl, h⟩
      rw [Reps.ints.mp h]
    · rintro rfl
      exact ⟨_, _, rfl, rfl, Reps.ints.mpr rfl⟩

/-! ### new objects -/
theorem COk.fresh {w : Wd} (c : COk T w) {p : Addr} (hp : w.H p = none) : ¬ w.Live p := by
  rintro (⟨n, o, h1, h2⟩ | h)
  · obtain ⟨x, e⟩ := (c.cell n o p h1 h2).some
    rw [hp] at e
    cases e
  · obtain ⟨⟨x, e⟩, _⟩ := c.hid p h
    rw [hp] at e
    cases e
theorem alloc_stp {w : Wd} (c : COk T w) {p : Addr} (hp : w.H p = none) (o : HO) : Stp w { w with H := upd w.H p o } :=
  ⟨⟨List.prefix_refl _, fun a x h n => ⟨(upd_ne (ne_of_none h hp)).trans h, n⟩⟩, rfl, fun a h => by
    obtain ⟨⟨x, e⟩, _⟩ := c.hid a h
    exact upd_ne (ne_of_none e hp)⟩
theorem alloc_ok {w : Wd} (c : COk T w) {p : Addr} (hp : w.H p = none) (o : HO) : COk T { w with H := upd w.H p o } where
  len := c.len
  inj := c.inj
  cell := fun n o' a h1 h2 => by
    have r := c.cell n o' a h1 h2
    obtain ⟨x, e⟩ := r.some
    exact r.mono (alloc_stp c hp o).s0 (upd_ne (ne_of_none e hp))
  hid := fun a h => by
    obtain ⟨⟨x, e⟩, h2⟩ := c.hid a h
    exact ⟨⟨x, (upd_ne (ne_of_none e hp)).trans e⟩, h2⟩
theorem alloc_live {w : Wd} (c : COk T w) {p : Addr} (hp : w.H p = none) (o : HO) : ¬ ({ w with H := upd w.H p o } : Wd).Live p := c.fresh hp

theorem pre_none {w : Wd} {l : List Addr} : w.ρ <+: w.ρ ++ l := ⟨l, rfl⟩
theorem cellL_snoc {ρ : List Addr} {st : Stt} {p a : Addr} {o : O} (hl : ρ.length = st.length) : CellL (ρ ++ [p]) (st ++ [some o]) a ↔ CellL ρ st a ∨ a = p := by
  constructor
  · rintro ⟨n, x, h1, h2⟩
    by_cases hn : n < st.length
    · rw [List.getElem?_append_left hn] at h1
      rw [List.getElem?_append_left (by omega)] at h2
      exact .inl ⟨n, x, h1, h2⟩
    · have e : n = st.length := by
        have := (List.getElem?_eq_some_iff.mp h1).1
        rw [List.length_append, List.length_singleton] at this
        omega
      subst e
      rw [← hl, List.getElem?_append_right (Nat.le_refl _), Nat.sub_self] at h2
      exact .inr (Option.some.inj h2).symm
  · rintro (⟨n, x, h1, h2⟩ | rfl)
    · have hn := (List.getElem?_eq_some_iff.mp h1).1
      exact ⟨n, x, by rw [List.getElem?_append_left hn]; exact h1, by rw [List.getElem?_append_left (by omega)]; exact h2⟩
    · exact ⟨st.length, o, by rw [List.getElem?_append_right (Nat.le_refl _), Nat.sub_self]; rfl, by rw [← hl, List.getElem?_append_right (Nat.le_refl _), Nat.sub_self]; rfl⟩
/-- a new cell -/
theorem cell_stp {w : Wd} (c : COk T w) {p : Addr} (hp : w.H p = none) (x : HO) (o : O) : Stp w { w with H := upd w.H p x, ρ := w.ρ ++ [p], st := w.st ++ [some o] } :=
  ⟨⟨pre_none, fun a y h n => by
    have hne : a ≠ p := ne_of_none h hp
    refine ⟨(upd_ne hne).trans h, ?_⟩
    rintro (q | q)
    · rcases (cellL_snoc c.len).mp q with q | q
      · exact n (.inl q)
      · exact hne q
    · exact n (.inr q)⟩, rfl, fun a h => by
    obtain ⟨⟨y, e⟩, _⟩ := c.hid a h
    exact upd_ne (ne_of_none e hp)⟩
theorem cell_ok {w : Wd} (c : COk T w) {p : Addr} (hp : w.H p = none) {x : HO} {o : O} (ho : ∀ w' : Wd, Stp0 w w' → w'.H p = some x → RepO T w' p o) : COk T { w with H := upd w.H p x, ρ := w.ρ ++ [p], st := w.st ++ [some o] } := by
  have s0 := (cell_stp c hp x o).s0
  have nl : ¬ CellL w.ρ w.st p := fun q => c.fresh hp (.inl q)
  have at_ : ∀ (n : Nat) (y : O) (a : Addr), (w.st ++ [some o])[n]? = some (some y) → (w.ρ ++ [p])[n]? = some a → (n < w.st.length ∧ w.st[n]? = some (some y) ∧ w.ρ[n]? = some a) ∨ (n = w.st.length ∧ y = o ∧ a = p) := fun n y a h1 h2 => by
    have hl := c.len
    by_cases hn : n < w.st.length
    · rw [List.getElem?_append_left hn] at h1
      rw [List.getElem?_append_left (by omega)] at h2
      exact .inl ⟨hn, h1, h2⟩
    · have e : n = w.st.length := by
        have := (List.getElem?_eq_some_iff.mp h1).1
        rw [List.length_append, List.length_singleton] at this
        omega
      subst e
      rw [← hl, List.getElem?_append_right (Nat.le_refl _), Nat.sub_self] at h2
      rw [List.getElem?_append_right (Nat.le_refl _), Nat.sub_self] at h1
      exact .inr ⟨rfl, (Option.some.inj (Option.some.inj h1)).symm, (Option.some.inj h2).symm⟩
  refine ⟨by simp [c.len], fun m n a om on h1 h2 h3 h4 => ?_, fun n y a h1 h2 => ?_, fun a h => ?_⟩
  · rcases at_ m om a h1 h3 with ⟨_, e1, e2⟩ | ⟨e1, _, e2⟩ <;> rcases at_ n on a h2 h4 with ⟨_, e3, e4⟩ | ⟨e3, _, e4⟩
    · exact c.inj m n a om on e1 e3 e2 e4
    · subst e4
      exact absurd ⟨m, om, e1, e2⟩ nl
    · subst e2
      exact absurd ⟨n, on, e3, e4⟩ nl
    · omega
  · rcases at_ n y a h1 h2 with ⟨_, e1, e2⟩ | ⟨_, e1, e2⟩
    · have r := c.cell n y a e1 e2
      obtain ⟨z, e⟩ := r.some
      exact r.mono s0 (upd_ne (ne_of_none e hp))
    · subst e1 e2
      exact ho _ s0 upd_same
  · obtain ⟨⟨z, e⟩, h2⟩ := c.hid a h
    have hne : a ≠ p := ne_of_none e hp
    refine ⟨⟨z, (upd_ne hne).trans e⟩, fun q => ?_⟩
    rcases (cellL_snoc c.len).mp q with q | q
    · exact h2 q
    · exact hne q

/-! ### frames -/
structure EOk (T : Tb) (w : Wd) (σd : Ev) (σ : L2.St) : Prop where
  len : σd.length = σ.length
  at_ : ∀ (i : Nat) (d : D), σd[i]? = some (some d) → ∃ v, σ[i]? = some (some v) ∧ Rep T w d v
theorem EOk.mono {w w' : Wd} (s : Stp0 w w') {σd : Ev} {σ : L2.St} (e : EOk T w σd σ) : EOk T w' σd σ :=
  ⟨e.len, fun i d h => let ⟨v, h1, h2⟩ := e.at_ i d h; ⟨v, h1, Rep.mono s d h2⟩⟩
theorem EOk.set {w : Wd} {σd : Ev} {σ : L2.St} (e : EOk T w σd σ) (i : Nat) {d : D} {v : V} (h : Rep T w d v) : EOk T w (σd.set i (some d)) (σ.set i (some v)) := by
  refine ⟨by rw [List.length_set, List.length_set]; exact e.len, fun j x hx => ?_⟩
  by_cases hj : i = j
  · subst hj
    by_cases hl : i < σd.length
    · rw [List.getElem?_set_self hl] at hx
      cases hx
      exact ⟨v, List.getElem?_set_self (by rw [← e.len]; exact hl), h⟩
    · rw [List.getElem?_eq_none (by rw [List.length_set]; omega)] at hx
      cases hx
  · rw [List.getElem?_set_ne hj] at hx
    obtain ⟨u, h1, h2⟩ := e.at_ j x hx
    exact ⟨u, by rw [List.getElem?_set_ne hj]; exact h1, h2⟩
theorem EOk.forget {w : Wd} {σd : Ev} {σ : L2.St} (e : EOk T w σd σ) (i : Nat) : EOk T w (σd.set i none) σ := by
  refine ⟨by rw [List.length_set]; exact e.len, fun j x hx => ?_⟩
  by_cases hj : i = j
  · subst hj
    by_cases hl : i < σd.length
    · rw [List.getElem?_set_self hl] at hx
      cases hx
    · rw [List.getElem?_eq_none (by rw [List.length_set]; omega)] at hx
      cases hx
  · rw [List.getElem?_set_ne hj] at hx
    exact e.at_ j x hx
end
end MP


/-! MpRead: readings by semantics: expressions, tests, arguments, statements. -/
namespace MP
open PySem PySem.Spec PyProof.Rows L2

/-- an exception of the class number c with the field "value" -/
def ExW (T : Tb) (W : WX) (σ : L2.St) (c : Nat) (d : D) (st' : Stt) (w : Wd) : Prop :=
  ∀ (w' : Wd) (v : V) (dd : Addr), w'.st = st' → Stp w w' → COk T w' → Rep T w' d v → w'.H dd = none → W (.ref (T.fa c)) (some dd) σ (upd w'.H dd (.xd [("value", v)]))
def PostR (T : Tb) (W : WX) (σ : L2.St) {α : Type} (r : R α) (w : Wd) (K : α → Wd → Prop) : Prop :=
  match r with
  | .ok a st' => ∀ w' : Wd, w'.st = st' → Stp w w' → COk T w' → K a w'
  | .exc c d st' => ExW T W σ c d st' w
  | .fail => False
def PostN (T : Tb) (o : Option N) (w : Wd) (Q : VK) : Prop :=
  match o with
  | some (.v d) => ∀ v : V, Rep T w d v → Q v w.H
  | some (.l ds) => ∀ (p : Addr) (vs : List V), w.H p = none → Reps T w ds vs → Q (.ref p) (upd w.H p (.lst vs))
  | some (.t ds) => ∀ (p : Addr) (vs : List V), w.H p = none → Reps T w ds vs → Q (.ref p) (upd w.H p (.tup vs))
  | some (.k ks ds) => ∀ (p : Addr) (vs : List V), w.H p = none → ks.length = vs.length → Reps T w ds vs → Q (.ref p) (upd w.H p (.dK (ks.zip vs)))
  | none => False
section
variable {T : Tb} {W : WX} {σ : L2.St} {α β : Type} {w w1 : Wd}
theorem ExW.step {c : Nat} {d : D} {st' : Stt} (s : Stp w w1) (h : ExW T W σ c d st' w) : ExW T W σ c d st' w1 :=
  fun w' v dd e s' c' r n => h w' v dd e (s.trans s') c' r n
theorem PostR.step {r : R α} {K : α → Wd → Prop} (s : Stp w w1) (h : PostR T W σ r w K) : PostR T W σ r w1 K := by
  cases r with
  | ok a st' => exact fun w' e s' c' => h w' e (s.trans s') c'
  | exc c d st' => exact ExW.step s h
  | fail => exact h
theorem PostR.bind {r : R α} {f : α → Stt → R β} {K : β → Wd → Prop} (h : PostR T W σ (r.bind f) w K) : PostR T W σ r w (fun a w1 => PostR T W σ (f a w1.st) w1 K) := by
  cases r with
  | ok a st' =>
    intro w' e s' c'
    subst e
    exact PostR.step (r := f a w'.st) s' h
  | exc c d st' => exact h
  | fail => exact h
theorem PostR.imp {r : R α} {K K' : α → Wd → Prop} (h : PostR T W σ r w K) (k : ∀ a w', Stp w w' → COk T w' → K a w' → K' a w') : PostR T W σ r w K' := by
  cases r with
  | ok a st' => exact fun w' e s' c' => k a w' s' c' (h w' e s' c')
  | exc c d st' => exact h
  | fail => exact h
theorem PostR.ok {a : α} {K : α → Wd → Prop} (c : COk T w) (h : PostR T W σ (.ok a w.st) w K) : K a w := h w rfl (.refl w) c
def KD (T : Tb) (Q : VK) : D → Wd → Prop := fun d w' => ∀ v, Rep T w' d v → Q v w'.H
def KB (Q : Bool → Hp → Prop) : Bool → Wd → Prop := fun b w' => Q b w'.H
def KA (T : Tb) (Q : List V → Hp → Prop) : List D → Wd → Prop := fun ds w' => ∀ vs, Reps T w' ds vs → Q vs w'.H
theorem PostR.okB {b : Bool} {Q : Bool → Hp → Prop} (c : COk T w) (h : PostR T W σ (.ok b w.st) w (KB Q)) : Q b w.H := h w rfl (.refl w) c
theorem PostR.okD {d : D} {Q : VK} (c : COk T w) (h : PostR T W σ (.ok d w.st) w (KD T Q)) (v : V) (r : Rep T w d v) : Q v w.H := h w rfl (.refl w) c v r
theorem PostR.okA {ds : List D} {Q : List V → Hp → Prop} (c : COk T w) (h : PostR T W σ (.ok ds w.st) w (KA T Q)) (vs : List V) (r : Reps T w ds vs) : Q vs w.H := h w rfl (.refl w) c vs r
theorem PostR.fin {b : Bool} {o : Option N} {Q : VK} (c : COk T w) (h : PostR T W σ (fin b o w.st) w (KD T Q)) : PostN T o w Q := by
  cases o with
  | none => exact h
  | some n =>
    cases n with
    | v d => exact fun v r => PostR.okD c h v r
    | l ds =>
      intro p vs hp hr
      have s := alloc_stp c hp (.lst vs)
      cases b with
      | false => exact h { w with H := upd w.H p (.lst vs) } rfl s (alloc_ok c hp _) (.ref p) (by simp only [Rep]; exact ⟨p, vs, rfl, upd_same, alloc_live c hp _, Reps.mono s.s0 ds hr⟩)
      | true =>
        refine h { w with H := upd w.H p (.lst vs), ρ := w.ρ ++ [p], st := w.st ++ [some (.lst ds)] } rfl (cell_stp c hp _ _) (cell_ok c hp fun w' s' e => ⟨vs, e, Reps.mono s' ds hr⟩) (.ref p) ?_
        simp only [Rep]
        exact ⟨p, rfl, by rw [← c.len, List.getElem?_append_right (Nat.le_refl _), Nat.sub_self]; rfl⟩
    | t ds =>
      intro p vs hp hr
      have s := alloc_stp c hp (.tup vs)
      exact h { w with H := upd w.H p (.tup vs) } rfl s (alloc_ok c hp _) (.ref p) (by simp only [Rep]; exact ⟨p, vs, rfl, upd_same, alloc_live c hp _, Reps.mono s.s0 ds hr⟩)
    | k ks ds =>
      intro p vs hp hl hr
      have s := alloc_stp c hp (.dK (ks.zip vs))
      cases b with
      | false => exact h { w with H := upd w.H p (.dK (ks.zip vs)) } rfl s (alloc_ok c hp _) (.ref p) (by simp only [Rep]; exact ⟨p, vs, rfl, upd_same, hl, alloc_live c hp _, Reps.mono s.s0 ds hr⟩)
      | true =>
        refine h { w with H := upd w.H p (.dK (ks.zip vs)), ρ := w.ρ ++ [p], st := w.st ++ [some (.dk ks ds)] } rfl (cell_stp c hp _ _) (cell_ok c hp fun w' s' e => ⟨vs, e, hl, Reps.mono s' ds hr⟩) (.ref p) ?_
        simp only [Rep]
        exact ⟨p, rfl, by rw [← c.len, List.getElem?_append_right (Nat.le_refl _), Nat.sub_self]; rfl⟩
end

def tE (T : Tb) (W : WX) (c : SE) : TE := fun σ H Q => ∃ w σd, w.H = H ∧ COk T w ∧ EOk T w σd σ ∧ PostR T W σ (c σd w.st) w (KD T Q)
def tT (T : Tb) (W : WX) (c : SB) : TT := fun σ H Q => ∃ w σd, w.H = H ∧ COk T w ∧ EOk T w σd σ ∧ PostR T W σ (c σd w.st) w (KB Q)
def tA (T : Tb) (W : WX) (c : SA) : TA := fun σ H Q => ∃ w σd, w.H = H ∧ COk T w ∧ EOk T w σd σ ∧ PostR T W σ (c σd w.st) w (KA T Q)
/-- what stands behind a statement -/
def PostS (T : Tb) (W : WX) (r : RS) (w : Wd) (D : Ends) : Prop :=
  match r with
  | .nx σd st' => ∀ (w' : Wd) (σ' : L2.St), w'.st = st' → Stp w w' → COk T w' → EOk T w' σd σ' → D.nx σ' w'.H
  | .bk σd st' => ∀ (w' : Wd) (σ' : L2.St), w'.st = st' → Stp w w' → COk T w' → EOk T w' σd σ' → D.bk σ' w'.H
  | .ct σd st' => ∀ (w' : Wd) (σ' : L2.St), w'.st = st' → Stp w w' → COk T w' → EOk T w' σd σ' → D.ct σ' w'.H
  | .rt d st' => ∀ (w' : Wd) (v : V), w'.st = st' → Stp w w' → COk T w' → Rep T w' d v → D.rt v w'.H
  | .exc c d σd st' => ∀ (w' : Wd) (σ' : L2.St) (v : V) (dd : Addr), w'.st = st' → Stp w w' → COk T w' → EOk T w' σd σ' → Rep T w' d v → w'.H dd = none → W (.ref (T.fa c)) (some dd) σ' (upd w'.H dd (.xd [("value", v)]))
  | .fail => False
def tS (T : Tb) (W : WX) (c : SS) : TS := fun D σ H => ∃ w σd, w.H = H ∧ COk T w ∧ EOk T w σd σ ∧ PostS T W (c σd w.st) w D
section
variable {T : Tb} {W : WX} {σ : L2.St} {w w1 : Wd} {D : Ends}
theorem PostS.step {r : RS} (s : Stp w w1) (h : PostS T W r w D) : PostS T W r w1 D := by
  cases r with
  | nx σd st' => exact fun w' σ' e s' c' r => h w' σ' e (s.trans s') c' r
  | bk σd st' => exact fun w' σ' e s' c' r => h w' σ' e (s.trans s') c' r
  | ct σd st' => exact fun w' σ' e s' c' r => h w' σ' e (s.trans s') c' r
  | rt d st' => exact fun w' v e s' c' r => h w' v e (s.trans s') c' r
  | exc c d σd st' => exact fun w' σ' v dd e s' c' r q n => h w' σ' v dd e (s.trans s') c' r q n
  | fail => exact h
/-- an expression, then the rest of the statement -/
theorem PostS.st {α : Type} {r : R α} {σd : Ev} {f : α → Stt → RS} (eo : EOk T w σd σ) (h : PostS T W (r.st σd f) w D) : PostR T W σ r w (fun a w1 => PostS T W (f a w1.st) w1 D) := by
  cases r with
  | ok a st' =>
    intro w' e s' c'
    subst e
    exact PostS.step (r := f a w'.st) s' h
  | exc c d st' => exact fun w' v dd e s' c' r n => h w' σ v dd e s' c' (eo.mono s'.s0) r n
  | fail => exact h
end

theorem PE.imp {X : Cx} {e : Expr} {t t' : TE} (h : PE X e t) (i : ∀ σ H Q, t' σ H Q → t σ H Q) : PE X e t' := ⟨fun pins s σ H Q I q => h.run pins s σ H Q I (i _ _ _ q)⟩
theorem PT.imp {X : Cx} {e : Expr} {t t' : TT} (h : PT X e t) (i : ∀ σ H Q, t' σ H Q → t σ H Q) : PT X e t' := ⟨fun pins s σ H Q I q => h.run pins s σ H Q I (i _ _ _ q)⟩
theorem PW.imp {X : Cx} {e : Expr} {t t' : TT} (h : PW X e t) (i : ∀ σ H Q, t' σ H Q → t σ H Q) : PW X e t' := ⟨fun wh pins s σ H Q I q => h.run wh pins s σ H Q I (i _ _ _ q)⟩
theorem PA.imp {X : Cx} {es : List Expr} {t t' : TA} (h : PA X es t) (i : ∀ σ H Q, t' σ H Q → t σ H Q) : PA X es t' := ⟨fun pos pins s σ H Q I q => h.run pos pins s σ H Q I (i _ _ _ q)⟩
theorem PK.imp {X : Cx} {es : List Keyword} {t t' : TA} (h : PK X es t) (i : ∀ σ H Q, t' σ H Q → t σ H Q) : PK X es t' := ⟨fun pos pins s σ H Q I q => h.run pos pins s σ H Q I (i _ _ _ q)⟩
theorem PS.imp {X : Cx} {st : Stmt} {t t' : TS} (h : PS X st t) (i : ∀ D σ H, t' D σ H → t D σ H) : PS X st t' := ⟨fun pins s σ H D I q => h.run pins s σ H D I (i _ _ _ q)⟩
theorem PSs.imp {X : Cx} {st : List Stmt} {t t' : TS} (h : PSs X st t) (i : ∀ D σ H, t' D σ H → t D σ H) : PSs X st t' := ⟨fun pins s σ H D I q => h.run pins s σ H D I (i _ _ _ q)⟩

/-! ### the judgements by semantics -/
abbrev SndE (T : Tb) (W : WX) (X : Cx) (e : Expr) (c : SE) : Prop := PE X e (tE T W c)
abbrev SndT (T : Tb) (W : WX) (X : Cx) (e : Expr) (c : SB) : Prop := PT X e (tT T W c)
abbrev SndA (T : Tb) (W : WX) (X : Cx) (es : List Expr) (c : SA) : Prop := PA X es (tA T W c)
abbrev SndS (T : Tb) (W : WX) (X : Cx) (st : Stmt) (c : SS) : Prop := PS X st (tS T W c)
abbrev SndB (T : Tb) (W : WX) (X : Cx) (st : List Stmt) (c : SS) : Prop := PSs X st (tS T W c)

/-! ### values -/
def cV (i : Nat) : SE := fun σ st => match σ[i]? with
  | some (some d) => .ok d st
  | _ => .fail
def cC (d : D) : SE := fun _ st => .ok d st
def cBin (k : Bool) (f : D → D → Stt → Option N) (a b : SE) : SE := fun σ st => (a σ st).bind fun x st1 => (b σ st1).bind fun y st2 => fin k (f x y st2) st2
def cUn (f : D → Stt → Option N) (a : SE) : SE := fun σ st => (a σ st).bind fun x st1 => fin false (f x st1) st1
def cNil : SA := fun _ st => .ok [] st
def cCons (a : SE) (r : SA) : SA := fun σ st => (a σ st).bind fun x st1 => (r σ st1).bind fun xs st2 => .ok (x :: xs) st2
/-- a builtin of values -/
def cB (k : Bool) (f : List D → Stt → Option N) (a : SA) : SE := fun σ st => (a σ st).bind fun xs st1 => fin k (f xs st1) st1
def cIf (t : SB) (a b : SE) : SE := fun σ st => (t σ st).bind fun k st1 => if k = true then a σ st1 else b σ st1
def cAndT (a b : SB) : SB := fun σ st => (a σ st).bind fun k st1 => if k = true then b σ st1 else .ok false st1
def cOrT (a b : SB) : SB := fun σ st => (a σ st).bind fun k st1 => if k = true then .ok true st1 else b σ st1
def cNotT (a : SB) : SB := fun σ st => (a σ st).bind fun k st1 => .ok (!k) st1
/-- a value that is True or False, as a test -/
def cTst (a : SE) : SB := fun σ st => (a σ st).bind fun x st1 => match x with
  | .bl k => .ok k st1
  | _ => .fail
def cAndV (a b : SE) : SE := fun σ st => (a σ st).bind fun x st1 => match x with
  | .bl k => if k = true then b σ st1 else .ok (.bl false) st1
  | _ => .fail
def cOrV (a b : SE) : SE := fun σ st => (a σ st).bind fun x st1 => match x with
  | .bl k => if k = true then .ok (.bl true) st1 else b σ st1
  | _ => .fail
def cNotV (a : SE) : SE := fun σ st => (a σ st).bind fun x st1 => match x with
  | .bl k => .ok (.bl (!k)) st1
  | _ => .fail

/-- what an operator does on values, by f -/
def OpS (T : Tb) (X : Cx) (F : Value → Value → Sem Value) (f : D → D → Stt → Option N) : Prop :=
  ∃ r : R2, OpR X F r ∧ ∀ (w : Wd) (x y : V) (dx dy : D) (Q : VK), COk T w → Rep T w dx x → Rep T w dy y → PostN T (f dx dy w.st) w Q → r x y w.H Q
def UnS (T : Tb) (X : Cx) (F : Value → Sem Value) (f : D → Stt → Option N) : Prop :=
  ∃ r : V → Hp → VK → Prop, UnR X F r ∧ ∀ (w : Wd) (x : V) (dx : D) (Q : VK), COk T w → Rep T w dx x → PostN T (f dx w.st) w Q → r x w.H Q
def CallS (T : Tb) (X : Cx) (F : Value) (f : List D → Stt → Option N) : Prop :=
  ∃ r : List V → Hp → VK → Prop, CallR X F r ∧ ∀ (w : Wd) (xs : List V) (ds : List D) (Q : VK), COk T w → Reps T w ds xs → PostN T (f ds w.st) w Q → r xs w.H Q

section
variable {T : Tb} {W : WX} {X : Cx} {a b c : Expr} {es : List Expr} {pos : Pos} {ca cb : SE} {cr : SA} {ta tb : SB}
theorem sV (i : Nat) {x : Str} (hN : X.N[i]? = some x) (hv : Vis X.env.scope x) (hd : (x == ("__debug__" : Str)) = false) (hcd : (x == ("__classdict__" : Str)) = false) : SndE T W X (.Name x pos) (cV i) := by
  refine PE.imp (pe_var hN hv hd hcd) fun σ H Q ⟨w, σd, e, co, eo, P⟩ => ?_
  subst e
  unfold cV at P
  split at P
  · rename_i d h
    obtain ⟨v, h1, h2⟩ := eo.at_ i d h
    exact ⟨v, h1, PostR.okD co P v h2⟩
  · exact P.elim
theorem sC {v : V} {d : D} {e : Expr} (h : PE X e (tC v)) (hr : ∀ w, Rep T w d v) : SndE T W X e (cC d) :=
  PE.imp h fun σ H Q ⟨w, σd, e, co, eo, P⟩ => by
    subst e
    exact PostR.okD co P v (hr w)
theorem sInt {i : Int} {k} : SndE T W X (.Constant (.int i) k pos) (cC (.int i)) := sC pe_int fun w => by simp only [Rep]
theorem sBl {b : Bool} {k} : SndE T W X (.Constant (.bool b) k pos) (cC (.bl b)) := sC pe_bl fun w => by simp only [Rep]
theorem sNon {k} : SndE T W X (.Constant .none k pos) (cC .non) := sC pe_non fun w => by simp only [Rep]
theorem sStr {x : Str} {k} : SndE T W X (.Constant (.str x) k pos) (cC (.str x)) := sC pe_str fun w => by simp only [Rep]
theorem sBin {k : Bool} {op : Operator} {f : D → D → Stt → Option N} (ho : OpS T X (binaryOp op) f) (ha : SndE T W X a ca) (hb : SndE T W X b cb) : SndE T W X (.BinOp a op b pos) (cBin k f ca cb) := by
  obtain ⟨r, hr, hf⟩ := ho
  refine PE.imp (pe_op hr ha hb) fun σ H Q ⟨w, σd, e, co, eo, P⟩ => ?_
  subst e
  refine ⟨w, σd, rfl, co, eo, P.bind.imp fun x w1 s1 c1 K1 v rv => ?_⟩
  refine ⟨w1, σd, rfl, c1, eo.mono s1.s0, K1.bind.imp fun y w2 s2 c2 K2 u ru => ?_⟩
  exact hf w2 v u x y Q c2 (Rep.mono s2.s0 x rv) ru (K2.fin c2)
theorem sCmp {op : CmpOp} {f : D → D → Stt → Option N} (ho : OpS T X (compareOp op) f) (hm : behindInMarks op b = false) (ha : SndE T W X a ca) (hb : SndE T W X b cb) : SndE T W X (.Compare a [op] [b] pos) (cBin false f ca cb) := by
  obtain ⟨r, hr, hf⟩ := ho
  refine PE.imp (pe_cmpR hr ha hb hm) fun σ H Q ⟨w, σd, e, co, eo, P⟩ => ?_
  subst e
  refine ⟨w, σd, rfl, co, eo, P.bind.imp fun x w1 s1 c1 K1 v rv => ?_⟩
  refine ⟨w1, σd, rfl, c1, eo.mono s1.s0, K1.bind.imp fun y w2 s2 c2 K2 u ru => ?_⟩
  exact hf w2 v u x y Q c2 (Rep.mono s2.s0 x rv) ru (K2.fin c2)
theorem sUn {op : UnaryOp} {f : D → Stt → Option N} (ho : UnS T X (unaryOp op) f) (ha : SndE T W X a ca) : SndE T W X (.UnaryOp op a pos) (cUn f ca) := by
  obtain ⟨r, hr, hf⟩ := ho
  refine PE.imp (pe_un hr ha) fun σ H Q ⟨w, σd, e, co, eo, P⟩ => ?_
  subst e
  exact ⟨w, σd, rfl, co, eo, P.bind.imp fun x w1 s1 c1 K1 v rv => hf w1 v x Q c1 rv (K1.fin c1)⟩
theorem sNil : SndA T W X [] cNil := PA.imp pa_nil fun σ H Q ⟨w, σd, e, co, eo, P⟩ => by
  subst e
  exact PostR.okA co P [] .nil
theorem sCons (ha : SndE T W X a ca) (hr : SndA T W X es cr) (hs : starEach (a :: es) X.env = (false, eval a X.env) :: starEach es X.env) : SndA T W X (a :: es) (cCons ca cr) := by
  refine PA.imp (pa_cons ha hr hs) fun σ H Q ⟨w, σd, e, co, eo, P⟩ => ?_
  subst e
  refine ⟨w, σd, rfl, co, eo, P.bind.imp fun x w1 s1 c1 K1 v rv => ?_⟩
  exact ⟨w1, σd, rfl, c1, eo.mono s1.s0, K1.bind.imp fun xs w2 s2 c2 K2 vs rs => PostR.okA c2 K2 (v :: vs) (.cons (Rep.mono s2.s0 x rv) rs)⟩
theorem sTst (ha : SndE T W X a ca) (he : ∀ whole, isTrue a X.env whole = (do let v ← whole; standAt a.pos; holding [v] (truthy v))) : SndT T W X a (cTst ca) := by
  refine PT.imp (pt_val ha he) fun σ H Q ⟨w, σd, e, co, eo, P⟩ => ?_
  subst e
  refine ⟨w, σd, rfl, co, eo, P.bind.imp fun x w1 s1 c1 K1 v rv => ?_⟩
  cases x with
  | bl k =>
    simp only [Rep] at rv
    exact ⟨k, rv, PostR.okB c1 K1⟩
  | _ => exact K1.elim
/-- a comparison as a test -/
theorem sCmpT {op : CmpOp} {f : D → D → Stt → Option N} (ho : OpS T X (compareOp op) f) (hm : behindInMarks op b = false) (ha : SndE T W X a ca) (hb : SndE T W X b cb) : SndT T W X (.Compare a [op] [b] pos) (cTst (cBin false f ca cb)) := by
  obtain ⟨r, hr, hf⟩ := ho
  refine PT.imp (pt_cmpR hr ha hb hm) fun σ H Q ⟨w, σd, e, co, eo, P⟩ => ?_
  subst e
  have P1 : PostR T W σ (cBin false f ca cb σd w.st) w (KD T fun v H' => ∃ k, v = .bl k ∧ Q k H') := P.bind.imp fun x w1 s1 c1 K1 v rv => by
    cases x with
    | bl k =>
      simp only [Rep] at rv
      exact ⟨k, rv, PostR.okB c1 K1⟩
    | _ => exact K1.elim
  refine ⟨w, σd, rfl, co, eo, P1.bind.imp fun x w1 s1 c1 K1 v rv => ?_⟩
  refine ⟨w1, σd, rfl, c1, eo.mono s1.s0, K1.bind.imp fun y w2 s2 c2 K2 u ru => ?_⟩
  exact hf w2 v u x y _ c2 (Rep.mono s2.s0 x rv) ru (K2.fin c2)
theorem sIf (hc : SndT T W X c ta) (ha : SndE T W X a ca) (hb : SndE T W X b cb) : SndE T W X (.IfExp c a b pos) (cIf ta ca cb) := by
  refine PE.imp (pe_ifExp hc ha hb) fun σ H Q ⟨w, σd, e, co, eo, P⟩ => ?_
  subst e
  refine ⟨w, σd, rfl, co, eo, P.bind.imp fun k w1 s1 c1 K1 => ?_⟩
  cases k with
  | true => exact ⟨w1, σd, rfl, c1, eo.mono s1.s0, K1⟩
  | false => exact ⟨w1, σd, rfl, c1, eo.mono s1.s0, K1⟩
theorem sNotT (ha : SndT T W X a ta) : SndT T W X (.UnaryOp .Not a pos) (cNotT ta) := by
  refine PT.imp (pt_not ha) fun σ H Q ⟨w, σd, e, co, eo, P⟩ => ?_
  subst e
  exact ⟨w, σd, rfl, co, eo, P.bind.imp fun k w1 s1 c1 K1 => PostR.okB c1 K1⟩
abbrev SndW (T : Tb) (W : WX) (X : Cx) (e : Expr) (c : SB) : Prop := PW X e (tT T W c)
theorem sAnd1 (ha : SndT T W X a ta) : SndW T W X (.BoolOp .And [a] pos) ta := pw_and1 ha
theorem sOr1 (ha : SndT T W X a ta) : SndW T W X (.BoolOp .Or [a] pos) ta := pw_or1 ha
theorem sAnd (ha : SndT T W X a ta) (hb : SndW T W X (.BoolOp .And (b :: es) pos) tb) : SndW T W X (.BoolOp .And (a :: b :: es) pos) (cAndT ta tb) := by
  refine PW.imp (pw_and ha hb) fun σ H Q ⟨w, σd, e, co, eo, P⟩ => ?_
  subst e
  refine ⟨w, σd, rfl, co, eo, P.bind.imp fun k w1 s1 c1 K1 => ?_⟩
  cases k with
  | true => exact ⟨w1, σd, rfl, c1, eo.mono s1.s0, K1⟩
  | false => exact PostR.okB c1 K1
theorem sOr (ha : SndT T W X a ta) (hb : SndW T W X (.BoolOp .Or (b :: es) pos) tb) : SndW T W X (.BoolOp .Or (a :: b :: es) pos) (cOrT ta tb) := by
  refine PW.imp (pw_or ha hb) fun σ H Q ⟨w, σd, e, co, eo, P⟩ => ?_
  subst e
  refine ⟨w, σd, rfl, co, eo, P.bind.imp fun k w1 s1 c1 K1 => ?_⟩
  cases k with
  | true => exact PostR.okB c1 K1
  | false => exact ⟨w1, σd, rfl, c1, eo.mono s1.s0, K1⟩
theorem sOne {op : BoolOp} (ha : SndE T W X a ca) : SndE T W X (.BoolOp op [a] pos) ca := pe_one ha
theorem sAndV (ha : SndE T W X a ca) (hb : SndE T W X (.BoolOp .And (b :: es) pos) cb) : SndE T W X (.BoolOp .And (a :: b :: es) pos) (cAndV ca cb) := by
  refine PE.imp (pe_and ha hb) fun σ H Q ⟨w, σd, e, co, eo, P⟩ => ?_
  subst e
  refine ⟨w, σd, rfl, co, eo, P.bind.imp fun x w1 s1 c1 K1 v rv => ?_⟩
  cases x with
  | bl k =>
    simp only [Rep] at rv
    refine ⟨k, rv, ?_⟩
    cases k with
    | true => exact ⟨w1, σd, rfl, c1, eo.mono s1.s0, K1⟩
    | false => exact PostR.okD c1 K1 (.bl false) (by simp only [Rep])
  | _ => exact K1.elim
theorem sOrV (ha : SndE T W X a ca) (hb : SndE T W X (.BoolOp .Or (b :: es) pos) cb) : SndE T W X (.BoolOp .Or (a :: b :: es) pos) (cOrV ca cb) := by
  refine PE.imp (pe_or ha hb) fun σ H Q ⟨w, σd, e, co, eo, P⟩ => ?_
  subst e
  refine ⟨w, σd, rfl, co, eo, P.bind.imp fun x w1 s1 c1 K1 v rv => ?_⟩
  cases x with
  | bl k =>
    simp only [Rep] at rv
    refine ⟨k, rv, ?_⟩
    cases k with
    | true => exact PostR.okD c1 K1 (.bl true) (by simp only [Rep])
    | false => exact ⟨w1, σd, rfl, c1, eo.mono s1.s0, K1⟩
  | _ => exact K1.elim
theorem sNotV (ha : SndE T W X a ca) : SndE T W X (.UnaryOp .Not a pos) (cNotV ca) := by
  refine PE.imp (pe_not ha) fun σ H Q ⟨w, σd, e, co, eo, P⟩ => ?_
  subst e
  refine ⟨w, σd, rfl, co, eo, P.bind.imp fun x w1 s1 c1 K1 v rv => ?_⟩
  cases x with
  | bl k =>
    simp only [Rep] at rv
    exact ⟨k, rv, PostR.okD c1 K1 (.bl (!k)) (by simp only [Rep])⟩
  | _ => exact K1.elim
end
end MP


/-! MpOps: operators, comparisons, built-in functions of values. -/
namespace MP
open PySem PySem.Spec PyProof.Rows L2

/-! ### views -/
def asL (st : Stt) : D → Option (List D)
  | .lst xs => some xs
  | .cel n => match st[n]? with
    | some (some (.lst xs)) => some xs
    | _ => none
  | _ => none
def asT : D → Option (List D)
  | .tup xs => some xs
  | _ => none
/-- a list or a tuple -/
def asQ (st : Stt) : D → Option (List D)
  | .tup xs => some xs
  | d => asL st d
/-- a dict with int and text keys -/
def asK (st : Stt) : D → Option (List Key × List D)
  | .dk ks xs => some (ks, xs)
  | .cel n => match st[n]? with
    | some (some (.dk ks xs)) => some (ks, xs)
    | _ => none
  | _ => none
theorem scr_sq {T : Tb} {w : Wd} {ns : List Int} {v : V} (r : Rep T w (.scr ns) v) : ∃ a, v = .ref a ∧ SqL T.K w.H a (ns.map V.int) := by
  simp only [Rep] at r
  obtain ⟨a, e, h⟩ := r
  refine ⟨a, e, ?_⟩
  rcases h with ⟨o, h, _⟩ | h
  · exact .inl (.inr ⟨o, h⟩)
  · exact .inr h
section
variable {T : Tb} {w : Wd} {d : D} {v : V}
theorem asL_ok (c : COk T w) (r : Rep T w d v) {ds : List D} (h : asL w.st d = some ds) : ∃ a vs, v = .ref a ∧ w.H a = some (.lst vs) ∧ Reps T w ds vs := by
  unfold asL at h
  split at h
  · simp only [Rep] at r
    cases h
    obtain ⟨a, vs, e, h1, _, h2⟩ := r
    exact ⟨a, vs, e, h1, h2⟩
  · rename_i n
    simp only [Rep] at r
    obtain ⟨a, e, h1⟩ := r
    split at h
    · rename_i xs h2
      cases h
      obtain ⟨vs, h3, h4⟩ := c.cell n _ a h2 h1
      exact ⟨a, vs, e, h3, h4⟩
    · cases h
  · cases h
theorem asK_ok (c : COk T w) (r : Rep T w d v) {q : List Key × List D} (h : asK w.st d = some q) : ∃ a vs, v = .ref a ∧ w.H a = some (.dK (q.1.zip vs)) ∧ q.1.length = vs.length ∧ Reps T w q.2 vs := by
  unfold asK at h
  split at h
  · simp only [Rep] at r
    cases h
    obtain ⟨a, vs, e, h1, hl, _, h2⟩ := r
    exact ⟨a, vs, e, h1, hl, h2⟩
  · rename_i n
    simp only [Rep] at r
    obtain ⟨a, e, h1⟩ := r
    split at h
    · rename_i ks xs h2
      cases h
      obtain ⟨vs, h3, hl, h4⟩ := c.cell n _ a h2 h1
      exact ⟨a, vs, e, h3, hl, h4⟩
    · cases h
  · cases h
theorem asT_ok (r : Rep T w d v) {ds : List D} (h : asT d = some ds) : ∃ a vs, v = .ref a ∧ w.H a = some (.tup vs) ∧ Reps T w ds vs := by
  unfold asT at h
  split at h
  · simp only [Rep] at r
    cases h
    obtain ⟨a, vs, e, h1, _, h2⟩ := r
    exact ⟨a, vs, e, h1, h2⟩
  · cases h
theorem asQ_ok (c : COk T w) (r : Rep T w d v) {ds : List D} (h : asQ w.st d = some ds) : ∃ a vs, v = .ref a ∧ (w.H a = some (.lst vs) ∨ w.H a = some (.tup vs)) ∧ Reps T w ds vs := by
  unfold asQ at h
  split at h
  · cases h
    obtain ⟨a, vs, e, h1, h2⟩ := asT_ok r rfl
    exact ⟨a, vs, e, .inr h1, h2⟩
  · obtain ⟨a, vs, e, h1, h2⟩ := asL_ok c r h
    exact ⟨a, vs, e, .inl h1, h2⟩
theorem rep_int {i : Int} (r : Rep T w (.int i) v) : v = .int i := by simpa only [Rep] using r
theorem rep_bl {b : Bool} (r : Rep T w (.bl b) v) : v = .bl b := by simpa only [Rep] using r
theorem rep_str {s : Str} (r : Rep T w (.str s) v) : v = .str s := by simpa only [Rep] using r
theorem rep_non (r : Rep T w .non v) : v = .non := by simpa only [Rep] using r
theorem rep_ty {s : Ty} (r : Rep T w (.ty s) v) : v = .ty s.name := by simpa only [Rep] using r
theorem rep_i (i : Int) : Rep T w (.int i) (.int i) := by simp only [Rep]
theorem rep_b (i : Bool) : Rep T w (.bl i) (.bl i) := by simp only [Rep]
theorem rep_s (i : Str) : Rep T w (.str i) (.str i) := by simp only [Rep]
theorem rep_n : Rep T w .non .non := by simp only [Rep]
/-- ints within -/
def intsOf : List D → Option (List Int)
  | [] => some []
  | .int i :: r => (intsOf r).map (i :: ·)
  | _ :: _ => none
theorem intsOf_ok : ∀ {ds : List D} {ns : List Int}, intsOf ds = some ns → ds = ns.map D.int
  | [], _, h => by cases h; rfl
  | .int i :: r, _, h => by
    unfold intsOf at h
    cases e : intsOf r with
    | none => rw [e] at h; cases h
    | some ms => rw [e] at h; cases h; rw [intsOf_ok e]; rfl
  | .non :: _, _, h => by cases h
  | .bl _ :: _, _, h => by cases h
  | .str _ :: _, _, h => by cases h
  | .lst _ :: _, _, h => by cases h
  | .tup _ :: _, _, h => by cases h
  | .dk _ _ :: _, _, h => by cases h
  | .dt _ _ :: _, _, h => by cases h
  | .cel _ :: _, _, h => by cases h
  | .ty _ :: _, _, h => by cases h
  | .fn _ :: _, _, h => by cases h
  | .scr _ :: _, _, h => by cases h
@[simp] theorem intsOf_map (ns : List Int) : intsOf (ns.map D.int) = some ns := by
  induction ns with
  | nil => rfl
  | cons n r ih => simp [intsOf, ih]
def blsOf : List D → Option (List Bool)
  | [] => some []
  | .bl i :: r => (blsOf r).map (i :: ·)
  | _ :: _ => none
theorem blsOf_ok : ∀ {ds : List D} {ns : List Bool}, blsOf ds = some ns → ds = ns.map D.bl
  | [], _, h => by cases h; rfl
  | .bl i :: r, _, h => by
    unfold blsOf at h
    cases e : blsOf r with
    | none => rw [e] at h; cases h
    | some ms => rw [e] at h; cases h; rw [blsOf_ok e]; rfl
  | .non :: _, _, h => by cases h
  | .int _ :: _, _, h => by cases h
  | .str _ :: _, _, h => by cases h
  | .lst _ :: _, _, h => by cases h
  | .tup _ :: _, _, h => by cases h
  | .dk _ _ :: _, _, h => by cases h
  | .dt _ _ :: _, _, h => by cases h
  | .cel _ :: _, _, h => by cases h
  | .ty _ :: _, _, h => by cases h
  | .fn _ :: _, _, h => by cases h
  | .scr _ :: _, _, h => by cases h
@[simp] theorem blsOf_map (ns : List Bool) : blsOf (ns.map D.bl) = some ns := by
  induction ns with
  | nil => rfl
  | cons n r ih => simp [blsOf, ih]
theorem Reps.bls : ∀ {ns : List Bool} {vs : List V}, Reps T w (ns.map D.bl) vs ↔ vs = ns.map V.bl
  | [], _ => by simp [Reps]
  | n :: ns, vs => by
    simp only [List.map_cons, Reps, Rep]
    constructor
    · rintro ⟨v, r, rfl, rfl, h⟩
      rw [Reps.bls.mp h]
    · rintro rfl
      exact ⟨_, _, rfl, rfl, Reps.bls.mpr rfl⟩
end

/-! ### data as a whole -/
mutual
def pyF (st : Stt) (below : D → Option PyData) : D → Option PyData
  | .non => some .none
  | .bl b => some (.bool b)
  | .int i => some (.int i)
  | .str s => some (.str s)
  | .lst xs => (pyFs st below xs).map .list
  | .tup xs => (pyFs st below xs).map .tuple
  | .cel n => match st[n]? with
    | some (some (.lst xs)) => (xs.mapM below).map .list
    | _ => none
  | .dk _ _ => none
  | .dt _ _ => none
  | .ty _ => none
  | .fn _ => none
  | .scr _ => none
def pyFs (st : Stt) (below : D → Option PyData) : List D → Option (List PyData)
  | [] => some []
  | d :: ds => match pyF st below d, pyFs st below ds with
    | some p, some ps => some (p :: ps)
    | _, _ => none
end
def pyN (st : Stt) : Nat → D → Option PyData
  | 0 => pyF st fun _ => none
  | k + 1 => pyF st (pyN st k)
def py (st : Stt) (d : D) : Option PyData := pyN st 6 d
section
variable {T : Tb} {w : Wd} {K : PySem.W.Frag}
theorem mapM_dp {below : D → Option PyData} (hb : ∀ (d : D) (v : V) (p : PyData), Rep T w d v → below d = some p → Dp K w.H v p) : ∀ {ds : List D} {vs : List V} {ps : List PyData}, Reps T w ds vs → ds.mapM below = some ps → DpAll K w.H vs ps
  | [], _, _, r, h => by
    simp only [Reps] at r
    subst r
    cases (show some [] = some _ from h)
    exact .nil
  | d :: ds, _, _, r, h => by
    simp only [Reps] at r
    obtain ⟨v, vs, rfl, r1, r2⟩ := r
    rw [List.mapM_cons] at h
    cases e : below d with
    | none => rw [e] at h; cases h
    | some p =>
      cases e2 : ds.mapM below with
      | none => rw [e, e2] at h; cases h
      | some ps =>
        rw [e, e2] at h
        cases h
        exact .cons (hb d v p r1 e) (mapM_dp hb r2 e2)
mutual
theorem pyF_dp (c : COk T w) {below : D → Option PyData} (hb : ∀ (d : D) (v : V) (p : PyData), Rep T w d v → below d = some p → Dp K w.H v p) : ∀ (d : D) {v : V} {p : PyData}, Rep T w d v → pyF w.st below d = some p → Dp K w.H v p
  | .non, _, _, r, h => by
    simp only [Rep] at r; simp only [pyF] at h; cases h; subst r; exact .non
  | .bl b, _, _, r, h => by
    simp only [Rep] at r; simp only [pyF] at h; cases h; subst r; exact .bl b
  | .int b, _, _, r, h => by
    simp only [Rep] at r; simp only [pyF] at h; cases h; subst r; exact .int b
  | .str b, _, _, r, h => by
    simp only [Rep] at r; simp only [pyF] at h; cases h; subst r; exact .str b
  | .lst xs, _, _, r, h => by
    simp only [Rep] at r
    obtain ⟨a, vs, rfl, h1, _, h2⟩ := r
    simp only [pyF] at h
    cases e : pyFs w.st below xs with
    | none => rw [e] at h; cases h
    | some ps => rw [e] at h; cases h; exact .lst (SqL.of h1) (pyFs_dp c hb xs h2 e)
  | .tup xs, _, _, r, h => by
    simp only [Rep] at r
    obtain ⟨a, vs, rfl, h1, _, h2⟩ := r
    simp only [pyF] at h
    cases e : pyFs w.st below xs with
    | none => rw [e] at h; cases h
    | some ps => rw [e] at h; cases h; exact .tup (SqT.of h1) (pyFs_dp c hb xs h2 e)
  | .cel n, _, _, r, h => by
    simp only [Rep] at r
    obtain ⟨a, rfl, h1⟩ := r
    simp only [pyF] at h
    split at h
    · rename_i xs h2
      obtain ⟨vs, h3, h4⟩ := c.cell n _ a h2 h1
      cases e : xs.mapM below with
      | none => rw [e] at h; cases h
      | some ps => rw [e] at h; cases h; exact .lst (SqL.of h3) (mapM_dp hb h4 e)
    · cases h
  | .dk _ _, _, _, _, h => by simp only [pyF] at h; cases h
  | .dt _ _, _, _, _, h => by simp only [pyF] at h; cases h
  | .ty _, _, _, _, h => by simp only [pyF] at h; cases h
  | .fn _, _, _, _, h => by simp only [pyF] at h; cases h
  | .scr _, _, _, _, h => by simp only [pyF] at h; cases h
theorem pyFs_dp (c : COk T w) {below : D → Option PyData} (hb : ∀ (d : D) (v : V) (p : PyData), Rep T w d v → below d = some p → Dp K w.H v p) : ∀ (ds : List D) {vs : List V} {ps : List PyData}, Reps T w ds vs → pyFs w.st below ds = some ps → DpAll K w.H vs ps
  | [], _, _, r, h => by
    simp only [Reps] at r
    subst r
    simp only [pyFs] at h
    cases h
    exact .nil
  | d :: ds, _, _, r, h => by
    simp only [Reps] at r
    obtain ⟨v, vs, rfl, r1, r2⟩ := r
    simp only [pyFs] at h
    split at h
    · rename_i p ps e1 e2
      cases h
      exact .cons (pyF_dp c hb d r1 e1) (pyFs_dp c hb ds r2 e2)
    · cases h
end
theorem pyN_dp (c : COk T w) : ∀ (k : Nat) {d : D} {v : V} {p : PyData}, Rep T w d v → pyN w.st k d = some p → Dp K w.H v p
  | 0, d, _, _, r, h => pyF_dp c (fun _ _ _ _ z => by cases z) d r h
  | k + 1, d, _, _, r, h => pyF_dp c (fun _ _ _ r1 z => pyN_dp c k r1 z) d r h
theorem py_dp (c : COk T w) {d : D} {v : V} {p : PyData} (r : Rep T w d v) (h : py w.st d = some p) : Dp K w.H v p := pyN_dp c 6 r h
end

/-! ### operators -/
def mulOk (i j : Int) : Bool := decide (i.natAbs.log2 + j.natAbs.log2 < 1000000)
def opAdd : D → D → Stt → Option N := fun x y st => match x, y with
  | .int i, .int j => some (.v (.int (i + j)))
  | .str a, .str b => if a.length + b.length ≤ sizeLine then some (.v (.str (a ++ b))) else none
  | x, y => match asL st x, asL st y with
    | some xs, some ys => if xs.length + ys.length ≤ sizeLine then some (.l (xs ++ ys)) else none
    | _, _ => match x, y with
      | .tup xs, .tup ys => if xs.length + ys.length ≤ sizeLine then (match xs, ys with
        | [], ys => some (.v (.tup ys))
        | xs, [] => some (.v (.tup xs))
        | xs, ys => some (.t (xs ++ ys))) else none
      | _, _ => none
def opSub : D → D → Stt → Option N := fun x y _ => match x, y with
  | .int i, .int j => some (.v (.int (i - j)))
  | _, _ => none
def opMul : D → D → Stt → Option N := fun x y st => match x, y with
  | .int i, .int j => if mulOk i j = true then some (.v (.int (i * j))) else none
  | x, .int k => match asL st x with
    | some xs => if -(2 ^ 63) ≤ k ∧ k < 2 ^ 63 ∧ xs.length * k.toNat ≤ sizeLine then some (.l (List.replicate k.toNat xs).flatten) else none
    | none => none
  | _, _ => none
def divOk (j : Int) : Bool := decide (0 < j) && decide (j.natAbs.log2 < 9000)
def opDiv : D → D → Stt → Option N := fun x y _ => match x, y with
  | .int i, .int j => if divOk j = true then some (.v (.int (i / j))) else none
  | _, _ => none
def opMod : D → D → Stt → Option N := fun x y _ => match x, y with
  | .int i, .int j => if 0 < j then some (.v (.int (i % j))) else none
  | _, _ => none
def opPow : D → D → Stt → Option N := fun x y _ => match x, y with
  | .int i, .int j => if 0 ≤ j ∧ (Builtin.Int.intBits i : Int) * j ≤ 2 ^ 27 then some (.v (.int (i ^ j.toNat))) else none
  | _, _ => none
def opCmpI (f : Int → Int → Bool) : D → D → Stt → Option N := fun x y _ => match x, y with
  | .int i, .int j => some (.v (.bl (f i j)))
  | _, _ => none
def opEqB (neg : Bool) : D → D → Stt → Option N := fun x y st => match py st x, py st y with
  | some p, some q => if (SeqAt.shaped p && SeqAt.shaped q) = true then some (.v (.bl (PyData.eqv p q != neg))) else none
  | _, _ => none
def isNon : D → Bool
  | .non => true
  | _ => false
def opIsN (neg : Bool) : D → D → Stt → Option N := fun x y _ => match y with
  | .non => some (.v (.bl (isNon x != neg)))
  | _ => none
def opNeg : D → Stt → Option N := fun x _ => match x with
  | .int i => some (.v (.int (-i)))
  | _ => none
/-- where a key stands -/
def keyD : D → Option Key
  | .int i => some (.inl i)
  | .str s => some (.inr s)
  | _ => none
def keyIn (k : Key) (ks : List Key) : Bool := ks.any fun j => decide (j = k)
def opIn (neg : Bool) : D → D → Stt → Option N := fun x y st => match asL st y with
  | some ys => match py st x, pyFs st (pyN st 5) ys with
    | some p, some q => if (SeqAt.shaped p && SeqAt.shaped (.list q)) = true then some (.v (.bl ((q.any fun z => PyData.eqv z p) != neg))) else none
    | _, _ => none
  | none => match asK st y, keyD x with
    | some q, some k => some (.v (.bl (keyIn k q.1 != neg)))
    | _, _ => none
section
variable {T : Tb} {X : Cx}
theorem bne_f (b : Bool) : (b != false) = b := by cases b <;> rfl
theorem bne_t (b : Bool) : (b != true) = !b := by cases b <;> rfl
theorem op_powW : OpR X (binaryOp .Pow) (rI (fun i j => 0 ≤ j ∧ (Builtin.Int.intBits i : Int) * j ≤ 2 ^ 27) fun i j => .int (i ^ j.toNat)) := opI fun _ _ _ _ _ _ _ hc q => pow_int hc.1 hc.2 q
theorem oAdd : OpS T X (binaryOp .Add) opAdd := by
  refine ⟨_, OpR.or op_add (OpR.or op_add_str (OpR.or op_cat op_catA)), fun w x y dx dy Q c rx ry P => ?_⟩
  unfold opAdd at P
  split at P
  · exact .inl ⟨_, _, rep_int rx, rep_int ry, P _ (rep_i _)⟩
  · split at P
    · rename_i hl
      exact .inr (.inl ⟨_, _, rep_str rx, rep_str ry, hl, P _ (rep_s _)⟩)
    · exact P.elim
  · split at P
    · rename_i xs ys h1 h2
      obtain ⟨a, vs, rfl, e1, r1⟩ := asL_ok c rx h1
      obtain ⟨b, us, rfl, e2, r2⟩ := asL_ok c ry h2
      split at P
      · rename_i hl
        rw [r1.length, r2.length] at hl
        exact .inr (.inr (.inl ⟨a, b, vs, us, rfl, rfl, e1, e2, hl, fun p hp => P p _ hp (r1.append r2)⟩))
      · exact P.elim
    · split at P
      · rename_i xs ys _ _ _
        obtain ⟨a, vs, rfl, e1, r1⟩ := asT_ok rx rfl
        obtain ⟨b, us, rfl, e2, r2⟩ := asT_ok ry rfl
        split at P
        · rename_i hl
          rw [r1.length, r2.length] at hl
          refine .inr (.inr (.inr ⟨a, b, vs, us, rfl, rfl, SqT.of e1, SqT.of e2, hl, fun e => ?_, fun e e' => ?_, fun e e' p hp => ?_⟩))
          · subst e
            cases xs with
            | nil => exact P _ ry
            | cons z zs => cases r1.length
          · subst e'
            cases xs with
            | nil => exact absurd (by simpa [Reps] using r1) e
            | cons z zs =>
              cases ys with
              | nil => exact P _ rx
              | cons _ _ => cases r2.length
          · cases xs with
            | nil => exact absurd (by simpa [Reps] using r1) e
            | cons z zs =>
              cases ys with
              | nil => exact absurd (by simpa [Reps] using r2) e'
              | cons _ _ => exact P p _ hp (r1.append r2)
        · exact P.elim
      · exact P.elim
theorem oSub : OpS T X (binaryOp .Sub) opSub := by
  refine ⟨_, op_sub, fun w x y dx dy Q c rx ry P => ?_⟩
  unfold opSub at P
  split at P
  · exact ⟨_, _, rep_int rx, rep_int ry, P _ (rep_i _)⟩
  · exact P.elim
theorem oMul : OpS T X (binaryOp .Mult) opMul := by
  refine ⟨_, OpR.or op_mulW op_rep, fun w x y dx dy Q c rx ry P => ?_⟩
  unfold opMul at P
  split at P
  · split at P
    · rename_i hm
      unfold mulOk at hm
      rw [decide_eq_true_eq] at hm
      exact .inl ⟨_, _, rep_int rx, rep_int ry, hm, P _ (rep_i _)⟩
    · exact P.elim
  · split at P
    · rename_i xs h1
      obtain ⟨a, vs, rfl, e1, r1⟩ := asL_ok c rx h1
      split at P
      · rename_i hl
        rw [r1.length] at hl
        refine .inr ⟨a, _, vs, rfl, rep_int ry, e1, hl.1, hl.2.1, hl.2.2, fun p hp => P p _ hp ?_⟩
        rename_i k _ _
        generalize k.toNat = n
        induction n with
        | zero => exact .nil
        | succ n ih =>
          rw [List.replicate_succ, List.replicate_succ, List.flatten_cons, List.flatten_cons]
          exact r1.append ih
      · exact P.elim
    · exact P.elim
  · exact P.elim
theorem oDiv : OpS T X (binaryOp .FloorDiv) opDiv := by
  refine ⟨_, op_fdivW, fun w x y dx dy Q c rx ry P => ?_⟩
  unfold opDiv at P
  split at P
  · split at P
    · rename_i hm
      unfold divOk at hm
      rw [Bool.and_eq_true, decide_eq_true_eq, decide_eq_true_eq] at hm
      exact ⟨_, _, rep_int rx, rep_int ry, hm, P _ (rep_i _)⟩
    · exact P.elim
  · exact P.elim
theorem oMod : OpS T X (binaryOp .Mod) opMod := by
  refine ⟨_, op_mod, fun w x y dx dy Q c rx ry P => ?_⟩
  unfold opMod at P
  split at P
  · split at P
    · rename_i hm
      exact ⟨_, _, rep_int rx, rep_int ry, hm, P _ (rep_i _)⟩
    · exact P.elim
  · exact P.elim
theorem oPow : OpS T X (binaryOp .Pow) opPow := by
  refine ⟨_, op_powW, fun w x y dx dy Q c rx ry P => ?_⟩
  unfold opPow at P
  split at P
  · split at P
    · rename_i hm
      exact ⟨_, _, rep_int rx, rep_int ry, hm, P _ (rep_i _)⟩
    · exact P.elim
  · exact P.elim
theorem oCmpI {F : Value → Value → Sem Value} {f : Int → Int → Bool} (h : OpR X F (rI0 fun i j => .bl (f i j))) : OpS T X F (opCmpI f) := by
  refine ⟨_, h, fun w x y dx dy Q c rx ry P => ?_⟩
  unfold opCmpI at P
  split at P
  · exact ⟨_, _, rep_int rx, rep_int ry, P _ (rep_b _)⟩
  · exact P.elim
abbrev opLt := opCmpI fun i j => decide (i < j)
abbrev opLe := opCmpI fun i j => decide (i ≤ j)
abbrev opGt := opCmpI fun i j => decide (j < i)
abbrev opGe := opCmpI fun i j => decide (j ≤ i)
theorem oLt : OpS T X (compareOp .Lt) opLt := oCmpI op_lt
theorem oLe : OpS T X (compareOp .LtE) opLe := oCmpI op_le
theorem oGt : OpS T X (compareOp .Gt) opGt := oCmpI op_gt
theorem oGe : OpS T X (compareOp .GtE) opGe := oCmpI op_ge
theorem oEq (hu : X.A.units + 64 < cLine) : OpS T X (compareOp .Eq) (opEqB false) := by
  refine ⟨_, op_eqD hu, fun w x y dx dy Q c rx ry P => ?_⟩
  unfold opEqB at P
  split at P
  · rename_i p q h1 h2
    split at P
    · rename_i hs
      rw [Bool.and_eq_true] at hs
      refine ⟨p, q, py_dp c rx h1, py_dp c ry h2, hs.1, hs.2, ?_⟩
      rw [bne_f] at P
      exact P _ (rep_b _)
    · exact P.elim
  · exact P.elim
theorem oNe (hu : X.A.units + 64 < cLine) : OpS T X (compareOp .NotEq) (opEqB true) := by
  refine ⟨_, op_neD hu, fun w x y dx dy Q c rx ry P => ?_⟩
  unfold opEqB at P
  split at P
  · rename_i p q h1 h2
    split at P
    · rename_i hs
      rw [Bool.and_eq_true] at hs
      refine ⟨p, q, py_dp c rx h1, py_dp c ry h2, hs.1, hs.2, ?_⟩
      rw [bne_t] at P
      exact P _ (rep_b _)
    · exact P.elim
  · exact P.elim
theorem isn_of {w : Wd} {d : D} {v : V} (r : Rep T w d v) : decide (v = V.non) = isNon d := by
  cases d with
  | non => obtain rfl := rep_non r; rfl
  | bl _ => obtain rfl := rep_bl r; rfl
  | int _ => obtain rfl := rep_int r; rfl
  | str _ => obtain rfl := rep_str r; rfl
  | ty _ => obtain rfl := rep_ty r; rfl
  | lst _ => simp only [Rep] at r; obtain ⟨a, vs, rfl, _⟩ := r; rfl
  | tup _ => simp only [Rep] at r; obtain ⟨a, vs, rfl, _⟩ := r; rfl
  | dk _ _ => simp only [Rep] at r; obtain ⟨a, vs, rfl, _⟩ := r; rfl
  | dt _ _ => simp only [Rep] at r; obtain ⟨a, vs, rfl, _⟩ := r; rfl
  | cel _ => simp only [Rep] at r; obtain ⟨a, rfl, _⟩ := r; rfl
  | fn _ => simp only [Rep] at r; subst r; rfl
  | scr _ => obtain ⟨a, rfl, _⟩ := scr_sq r; rfl
theorem oIsN : OpS T X (compareOp .Is) (opIsN false) := by
  refine ⟨_, op_isN, fun w x y dx dy Q c rx ry P => ?_⟩
  unfold opIsN at P
  split at P
  · refine ⟨rep_non ry, ?_⟩
    rw [isn_of rx]
    rw [bne_f] at P
    exact P _ (rep_b _)
  · exact P.elim
theorem oNotN : OpS T X (compareOp .IsNot) (opIsN true) := by
  refine ⟨_, op_notN, fun w x y dx dy Q c rx ry P => ?_⟩
  unfold opIsN at P
  split at P
  · refine ⟨rep_non ry, ?_⟩
    rw [isn_of rx]
    rw [bne_t] at P
    exact P _ (rep_b _)
  · exact P.elim
theorem oNeg : UnS T X (unaryOp .USub) opNeg := by
  refine ⟨_, un_neg, fun w x dx Q c rx P => ?_⟩
  unfold opNeg at P
  split at P
  · exact ⟨_, rep_int rx, P _ (rep_i _)⟩
  · exact P.elim
/-- in a dict, by values -/
theorem op_dinV (hu : X.A.units + 1 < cLine) : OpR X (compareOp .In) (fun y x H Q => ∃ a o, x = .ref a ∧ DGet H a y o ∧ Q (.bl o.isSome) H) := by
  intro pins s σ H y x u v Q I ry rx h
  obtain ⟨a, o, rfl, g, q⟩ := h
  cases rx
  exact d_in hu I g ry fun s' I' => ⟨.bl o.isSome, H, I', rfl, q⟩
theorem op_dninV (hu : X.A.units + 1 < cLine) : OpR X (compareOp .NotIn) (fun y x H Q => ∃ a o, x = .ref a ∧ DGet H a y o ∧ Q (.bl (!o.isSome)) H) := by
  intro pins s σ H y x u v Q I ry rx h
  obtain ⟨a, o, rfl, g, q⟩ := h
  cases rx
  exact d_notIn hu I g ry fun s' I' => ⟨.bl (!o.isSome), H, I', rfl, q⟩
theorem keyD_ok {w : Wd} {d : D} {v : V} {k : Key} (r : Rep T w d v) (h : keyD d = some k) : v = kV k := by
  unfold keyD at h
  split at h
  · cases h; exact rep_int r
  · cases h; exact rep_str r
  · cases h
theorem valV_some {ks : List Key} {k : Key} : ∀ {vs : List V}, ks.length = vs.length → (valV (ks.zip vs) k).isSome = keyIn k ks := by
  induction ks with
  | nil => intro vs _; rfl
  | cons x r ih =>
    intro vs hl
    cases vs with
    | nil => cases hl
    | cons v vs =>
      have ih' := ih (vs := vs) (by simpa using hl)
      unfold valV keyIn at ih' ⊢
      rw [List.zip_cons_cons, List.find?_cons, List.any_cons]
      by_cases e : x = k
      · subst e; simp
      · rw [decide_eq_false e]
        simp only [Bool.false_or]
        exact ih'
theorem pyL_dp {w : Wd} {K : PySem.W.Frag} (c : COk T w) {d : D} {v : V} {ds : List D} {ps : List PyData} (r : Rep T w d v) (h : asL w.st d = some ds) (hp : pyFs w.st (pyN w.st 5) ds = some ps) : Dp K w.H v (.list ps) := by
  obtain ⟨a, vs, rfl, e1, r1⟩ := asL_ok c r h
  exact .lst (SqL.of e1) (pyFs_dp c (fun _ _ _ r1 z => pyN_dp c 5 r1 z) ds r1 hp)
theorem oIn (hu : X.A.units + 65 < cLine) : OpS T X (compareOp .In) (opIn false) := by
  refine ⟨_, OpR.or (op_inD hu) (op_dinV (by omega)), fun w x y dx dy Q c rx ry P => ?_⟩
  unfold opIn at P
  split at P
  · rename_i ys hy
    split at P
    · rename_i p q h1 h2
      split at P
      · rename_i hs
        rw [Bool.and_eq_true] at hs
        rw [bne_f] at P
        exact .inl ⟨p, q, py_dp c rx h1, pyL_dp c ry hy h2, hs.1, hs.2, P _ (rep_b _)⟩
      · exact P.elim
    · exact P.elim
  · split at P
    · rename_i q k h1 h2
      obtain ⟨a, vs, rfl, e1, hl, r1⟩ := asK_ok c ry h1
      refine .inr ⟨a, _, rfl, by rw [keyD_ok rx h2]; exact DGet.k e1, ?_⟩
      rw [valV_some hl]
      rw [bne_f] at P
      exact P _ (rep_b _)
    · exact P.elim
theorem oNotIn (hu : X.A.units + 65 < cLine) : OpS T X (compareOp .NotIn) (opIn true) := by
  refine ⟨_, OpR.or (op_notInD hu) (op_dninV (by omega)), fun w x y dx dy Q c rx ry P => ?_⟩
  unfold opIn at P
  split at P
  · rename_i ys hy
    split at P
    · rename_i p q h1 h2
      split at P
      · rename_i hs
        rw [Bool.and_eq_true] at hs
        rw [bne_t] at P
        exact .inl ⟨p, q, py_dp c rx h1, pyL_dp c ry hy h2, hs.1, hs.2, P _ (rep_b _)⟩
      · exact P.elim
    · exact P.elim
  · split at P
    · rename_i q k h1 h2
      obtain ⟨a, vs, rfl, e1, hl, r1⟩ := asK_ok c ry h1
      refine .inr ⟨a, _, rfl, by rw [keyD_ok rx h2]; exact DGet.k e1, ?_⟩
      rw [valV_some hl]
      rw [bne_t] at P
      exact P _ (rep_b _)
    · exact P.elim
end
end MP


/-! MpCalls: built-in functions, displays, subscripts, slices, methods. -/
namespace MP
open PySem PySem.Spec PyProof.Rows L2

theorem CallR.or {X : Cx} {f : Value} {r r' : List V → Hp → VK → Prop} (h : CallR X f r) (h' : CallR X f r') : CallR X f (fun xs H Q => r xs H Q ∨ r' xs H Q) := fun pins s σ H xs us Q I rv q => by
  rcases q with q | q
  · exact h pins s σ H xs us Q I rv q
  · exact h' pins s σ H xs us Q I rv q
theorem PE.or {X : Cx} {e : Expr} {t t' : TE} (h : PE X e t) (h' : PE X e t') : PE X e (fun σ H Q => t σ H Q ∨ t' σ H Q) := ⟨fun pins s σ H Q I q => by
  rcases q with q | q
  · exact h.run pins s σ H Q I q
  · exact h'.run pins s σ H Q I q⟩
theorem PI.or {X : Cx} {tg e : Expr} {t t' : TI} (h : PI X tg e t) (h' : PI X tg e t') : PI X tg e (fun σ H Q => t σ H Q ∨ t' σ H Q) := ⟨fun pins s σ H Q I q => by
  rcases q with q | q
  · exact h.run pins s σ H Q I q
  · exact h'.run pins s σ H Q I q⟩

/-! ### built-in functions -/
section
variable {T : Tb} {W : WX} {X : Cx} {e : Expr} {es : List Expr} {x : Str} {p pos : Pos} {ca : SA} {f : List D → Stt → Option N} {k : Bool}
theorem sB {id : String} (h : CallS T X (.builtin id) f) (hg : Gl X x) (hm : X.mg x = none) (hv : bootBuiltins x = some (.builtin id)) (hn : x ≠ "__name__") (hdb : (x == ("__debug__" : Str)) = false)
    (ha : SndA T W X (e :: es) ca) (he : starEach (e :: es) X.env = (false, eval e X.env) :: starEach es X.env) (hpl : (backTo pos (starEach es X.env)).any (·.1) = false) :
    SndE T W X (.Call (.Name x p) (e :: es) [] pos) (cB k f ca) := by
  obtain ⟨r, hr, hf⟩ := h
  refine PE.imp (pe_callB hr hg hm hv ha hn hdb he hpl) fun σ H Q ⟨w, σd, e, co, eo, P⟩ => ?_
  subst e
  exact ⟨w, σd, rfl, co, eo, P.bind.imp fun ds w1 s1 c1 K1 vs rs => hf w1 vs ds Q c1 rs (K1.fin c1)⟩
theorem sBT {id : String} (h : CallS T X (.type id) f) (hg : Gl X x) (hm : X.mg x = none) (hv : bootBuiltins x = some (.type id)) (hn : x ≠ "__name__") (hdb : (x == ("__debug__" : Str)) = false)
    (ha : SndA T W X (e :: es) ca) (he : starEach (e :: es) X.env = (false, eval e X.env) :: starEach es X.env) (hpl : (backTo pos (starEach es X.env)).any (·.1) = false) :
    SndE T W X (.Call (.Name x p) (e :: es) [] pos) (cB k f ca) := by
  obtain ⟨r, hr, hf⟩ := h
  refine PE.imp (pe_callTy hr hg hm hv ha hn hdb he hpl) fun σ H Q ⟨w, σd, e, co, eo, P⟩ => ?_
  subst e
  exact ⟨w, σd, rfl, co, eo, P.bind.imp fun ds w1 s1 c1 K1 vs rs => hf w1 vs ds Q c1 rs (K1.fin c1)⟩
/-- a built-in class as a value -/
theorem sTy {t : Ty} (hg : Gl X x) (hm : X.mg x = none) (hv : bootBuiltins x = some (.type t.name)) (hn : x ≠ "__name__") (hd : (x == ("__debug__" : Str)) = false) : SndE T W X (.Name x pos) (cC (.ty t)) :=
  sC (pe_bltn (v := .ty t.name) hg hm hv rfl hn hd) fun w => by simp only [Rep]
end
section
variable {T : Tb} {w : Wd}
theorem reps1 {d : D} {vs : List V} (r : Reps T w [d] vs) : ∃ v, vs = [v] ∧ Rep T w d v := by
  simp only [Reps] at r
  obtain ⟨v, q, rfl, h, rfl⟩ := r
  exact ⟨v, rfl, h⟩
theorem reps2 {d e : D} {vs : List V} (r : Reps T w [d, e] vs) : ∃ v u, vs = [v, u] ∧ Rep T w d v ∧ Rep T w e u := by
  simp only [Reps] at r
  obtain ⟨v, q, rfl, h, u, q2, rfl, h2, rfl⟩ := r
  exact ⟨v, u, rfl, h, h2⟩
theorem reps3 {d e f : D} {vs : List V} (r : Reps T w [d, e, f] vs) : ∃ v u x, vs = [v, u, x] ∧ Rep T w d v ∧ Rep T w e u ∧ Rep T w f x := by
  simp only [Reps] at r
  obtain ⟨v, q, rfl, h, u, q2, rfl, h2, x, q3, rfl, h3, rfl⟩ := r
  exact ⟨v, u, x, rfl, h, h2, h3⟩
end
def fLen : List D → Stt → Option N := fun ds st => match ds with
  | [d] => match asQ st d with
    | some xs => some (.v (.int (xs.length : Nat)))
    | none => match d with
      | .scr ns => some (.v (.int (ns.length : Nat)))
      | d => match asK st d with
        | some q => some (.v (.int (q.1.length : Nat)))
        | none => none
  | _ => none
def tyOf (st : Stt) : D → Option Ty
  | .non => some .none
  | .bl _ => some .bool
  | .int _ => some .int
  | .str _ => some .str
  | .lst _ => some .list
  | .tup _ => some .tuple
  | .dk _ _ => some .dict
  | .dt _ _ => some .dict
  | .scr _ => none
  | .cel n => match st[n]? with
    | some (some (.lst _)) => some .list
    | some (some (.dk _ _)) => some .dict
    | _ => none
  | .ty _ => none
  | .fn _ => none
def isa (a b : Ty) : Bool := decide (a = b) || (decide (a = .bool) && decide (b = .int))
def tysOf : List D → Option (List Ty)
  | [] => some []
  | .ty t :: r => (tysOf r).map (t :: ·)
  | _ :: _ => none
def fIsi : List D → Stt → Option N := fun ds st => match ds with
  | [d, .ty t] => (tyOf st d).map fun a => .v (.bl (isa a t))
  | [d, .tup ts] => match tyOf st d, tysOf ts with
    | some a, some l => some (.v (.bl (l.any fun t => isa a t)))
    | _, _ => none
  | _ => none
def fAll (any : Bool) : List D → Stt → Option N := fun ds st => match ds with
  | [d] => match asL st d with
    | some xs => (blsOf xs).map fun bs => .v (.bl (if any then bs.any id else bs.all id))
    | none => none
  | _ => none
def fSum : List D → Stt → Option N := fun ds st => match ds with
  | [d] => match asL st d with
    | some xs => (intsOf xs).map fun ns => .v (.int ns.sum)
    | none => none
  | _ => none
def maxI (i j : Int) : Int := if j > i then j else i
def minI (i j : Int) : Int := if j < i then j else i
def fMax : List D → Stt → Option N := fun ds st => match ds with
  | [.int i, .int j] => some (.v (.int (maxI i j)))
  | [d] => match asL st d with
    | some xs => match intsOf xs with
      | some (n :: ns) => some (.v (.int (ns.foldl maxI n)))
      | _ => none
    | none => none
  | _ => none
def fMin : List D → Stt → Option N := fun ds st => match ds with
  | [.int i, .int j] => some (.v (.int (minI i j)))
  | [d] => match asL st d with
    | some xs => match intsOf xs with
      | some (n :: ns) => some (.v (.int (ns.foldl minI n)))
      | _ => none
    | none => none
  | _ => none
def fInt : List D → Stt → Option N := fun ds _ => match ds with
  | [.int i] => some (.v (.int i))
  | [.bl b] => some (.v (.int (if b then 1 else 0)))
  | _ => none
def fList : List D → Stt → Option N := fun ds st => match ds with
  | [d] => (asQ st d).map .l
  | _ => none
def fTup : List D → Stt → Option N := fun ds st => match ds with
  | [.tup xs] => some (.v (.tup xs))
  | [d] => (asL st d).map .t
  | _ => none
/-- insertion into an ascending list; the sorted list -/
def insI (i : Int) : List Int → List Int
  | [] => [i]
  | j :: r => if i ≤ j then i :: j :: r else j :: insI i r
def sortI : List Int → List Int
  | [] => []
  | i :: r => insI i (sortI r)
theorem insI_perm (i : Int) : ∀ l : List Int, (insI i l).Perm (i :: l)
  | [] => .refl _
  | j :: r => by
    unfold insI
    split
    · exact .refl _
    · exact ((insI_perm i r).cons j).trans (.swap ..)
theorem sortI_perm : ∀ l : List Int, (sortI l).Perm l
  | [] => .refl _
  | i :: r => (insI_perm i _).trans ((sortI_perm r).cons i)
theorem insI_sorted (i : Int) : ∀ {l : List Int}, l.Pairwise (· ≤ ·) → (insI i l).Pairwise (· ≤ ·)
  | [], _ => List.pairwise_singleton _ _
  | j :: r, h => by
    rw [List.pairwise_cons] at h
    unfold insI
    split
    · rename_i hij
      rw [List.pairwise_cons, List.pairwise_cons]
      refine ⟨fun x hx => ?_, h⟩
      rcases List.mem_cons.mp hx with rfl | hx
      · exact hij
      · exact Int.le_trans hij (h.1 x hx)
    · rename_i hij
      rw [List.pairwise_cons]
      refine ⟨fun x hx => ?_, insI_sorted i h.2⟩
      rcases List.mem_cons.mp ((insI_perm i r).mem_iff.mp hx) with rfl | hx
      · omega
      · exact h.1 x hx
theorem sortI_sorted : ∀ l : List Int, (sortI l).Pairwise (· ≤ ·)
  | [] => .nil
  | i :: r => insI_sorted i (sortI_sorted r)
theorem sorted_unique : ∀ {l m : List Int}, l.Perm m → l.Pairwise (· ≤ ·) → m.Pairwise (· ≤ ·) → l = m
  | [], m, h, _, _ => (List.Perm.nil_eq h)
  | a :: l, m, h, hl, hm => by
    cases m with
    | nil => exact absurd h.length_eq (by simp)
    | cons b m =>
      rw [List.pairwise_cons] at hl hm
      have e : a = b := by
        have h1 : b ∈ a :: l := h.mem_iff.mpr List.mem_cons_self
        have h2 : a ∈ b :: m := h.mem_iff.mp List.mem_cons_self
        rcases List.mem_cons.mp h1 with e | h1
        · exact e.symm
        · rcases List.mem_cons.mp h2 with e | h2
          · exact e
          · have := hl.1 b h1
            have := hm.1 a h2
            omega
      subst e
      rw [sorted_unique (List.Perm.cons_inv h) hl.2 hm.2]
def fSorted : List D → Stt → Option N := fun ds st => match ds with
  | [d] => match asL st d with
    | some xs => (intsOf xs).map fun ns => .l ((sortI ns).map D.int)
    | none => none
  | _ => none
def fAbs : List D → Stt → Option N := fun ds _ => match ds with
  | [.int i] => some (.v (.int (if i < 0 then -i else i)))
  | _ => none
theorem foldl_max (n : Int) : ∀ (ns : List Int) (m : Int), (n = m ∨ m ∈ ns) → n ≤ m → (∀ y ∈ ns, y ≤ m) → ns.foldl maxI n = m
  | [], m, h, _, _ => by
    rcases h with h | h
    · exact h
    · cases h
  | x :: ns, m, h, h1, h2 => by
    rw [List.foldl_cons]
    have hx := h2 x List.mem_cons_self
    refine foldl_max (maxI n x) ns m ?_ ?_ fun y hy => h2 y (List.mem_cons_of_mem _ hy)
    · unfold maxI
      split
      · rcases h with h | h
        · omega
        · rcases List.mem_cons.mp h with h | h
          · exact .inl h.symm
          · exact .inr h
      · rcases h with h | h
        · exact .inl h
        · rcases List.mem_cons.mp h with h | h
          · exact .inl (by omega)
          · exact .inr h
    · unfold maxI
      split <;> omega
theorem foldl_min (n : Int) : ∀ (ns : List Int) (m : Int), (n = m ∨ m ∈ ns) → m ≤ n → (∀ y ∈ ns, m ≤ y) → ns.foldl minI n = m
  | [], m, h, _, _ => by
    rcases h with h | h
    · exact h
    · cases h
  | x :: ns, m, h, h1, h2 => by
    rw [List.foldl_cons]
    have hx := h2 x List.mem_cons_self
    refine foldl_min (minI n x) ns m ?_ ?_ fun y hy => h2 y (List.mem_cons_of_mem _ hy)
    · unfold minI
      split
      · rcases h with h | h
        · omega
        · rcases List.mem_cons.mp h with h | h
          · exact .inl h.symm
          · exact .inr h
      · rcases h with h | h
        · exact .inl h
        · rcases List.mem_cons.mp h with h | h
          · exact .inl (by omega)
          · exact .inr h
    · unfold minI
      split <;> omega
theorem isa_ok (a b : Ty) {K : PySem.W.Frag} : PySem.W.kitOne K (.type a.name) (.type b.name) = some (isa a b) := by
  have h : kitB a.name b.name = some (isa a b) := by
    cases a <;> cases b <;> decide +kernel
  exact kit_ty h
section
variable {T : Tb} {X : Cx}
theorem bLen (hK : T.K = X.K) : CallS T X (.builtin "len") fLen := by
  refine ⟨_, CallR.or call_len_seq (CallR.or call_len_seq call_lenD), fun w vs ds Q c r P => ?_⟩
  unfold fLen at P
  split at P
  · rename_i d
    obtain ⟨v, rfl, r1⟩ := reps1 r
    split at P
    · rename_i xs hx
      obtain ⟨a, us, rfl, e, r2⟩ := asQ_ok c r1 hx
      refine .inl ⟨a, us, rfl, ?_, by rw [← r2.length]; exact P _ (rep_i _)⟩
      rcases e with e | e
      · exact .inl (SqL.of e)
      · exact .inr (SqT.of e)
    · split at P
      · rename_i ns
        obtain ⟨a, rfl, e⟩ := scr_sq r1
        rw [hK] at e
        refine .inr (.inl ⟨a, _, rfl, .inl e, ?_⟩)
        rw [List.length_map]
        exact P _ (rep_i _)
      · split at P
        · rename_i q hq
          obtain ⟨a, us, rfl, e, hl, r2⟩ := asK_ok c r1 hq
          refine .inr (.inr ⟨a, _, rfl, e, ?_⟩)
          rw [List.length_zip, ← hl, Nat.min_self]
          exact P _ (rep_i _)
        · exact P.elim
  · exact P.elim
theorem tyOf_ok {w : Wd} (c : COk T w) {d : D} {v : V} {t : Ty} (r : Rep T w d v) (h : tyOf w.st d = some t) : TyX X.K w.H v (.type t.name) := by
  cases d with
  | non => cases h; rw [rep_non r]; exact .base .non
  | bl b => cases h; rw [rep_bl r]; exact .base (.bl b)
  | int i => cases h; rw [rep_int r]; exact .base (.int i)
  | str i => cases h; rw [rep_str r]; exact .base (.str i)
  | lst xs => cases h; simp only [Rep] at r; obtain ⟨a, vs, rfl, e, _⟩ := r; exact .base (.lst e)
  | tup xs => cases h; simp only [Rep] at r; obtain ⟨a, vs, rfl, e, _⟩ := r; exact .base (.tup e)
  | dk ks xs => cases h; simp only [Rep] at r; obtain ⟨a, vs, rfl, e, _⟩ := r; exact .base (.dK e)
  | dt ks xs => cases h; simp only [Rep] at r; obtain ⟨a, vs, rfl, e, _⟩ := r; exact .base (.dT e)
  | scr xs => cases h
  | cel n =>
    simp only [Rep] at r
    obtain ⟨a, rfl, e⟩ := r
    simp only [tyOf] at h
    split at h
    · rename_i xs hx
      cases h
      obtain ⟨vs, h1, _⟩ := c.cell n _ a hx e
      exact .base (.lst h1)
    · rename_i ks xs hx
      cases h
      obtain ⟨vs, h1, _⟩ := c.cell n _ a hx e
      exact .base (.dK h1)
    · cases h
  | ty _ => cases h
  | fn _ => cases h
theorem tysOf_ok {w : Wd} : ∀ {ds : List D} {l : List Ty} {vs : List V}, tysOf ds = some l → Reps T w ds vs → Paired ClsV vs (l.map fun t => Value.type t.name)
  | [], _, _, h, r => by
    cases h
    simp only [Reps] at r
    subst r
    exact .nil
  | d :: ds, l, _, h, r => by
    simp only [Reps] at r
    obtain ⟨v, vs, rfl, r1, r2⟩ := r
    cases d with
    | ty t =>
      simp only [tysOf] at h
      cases e : tysOf ds with
      | none => rw [e] at h; cases h
      | some m =>
        rw [e] at h
        cases h
        rw [rep_ty r1]
        exact .cons (.ty _) (tysOf_ok e r2)
    | _ => cases h
theorem kitAny_ok {K : PySem.W.Frag} (a : Ty) : ∀ l : List Ty, PySem.W.kitAny K (.type a.name) (l.map fun t => Value.type t.name) = some (l.any fun t => isa a t)
  | [] => rfl
  | t :: l => by
    rw [List.map_cons, List.any_cons]
    refine kitAny_cons (isa_ok a t) (fun h => ?_) fun h => ?_
    · rw [h, Bool.false_or]; exact kitAny_ok a l
    · rw [h, Bool.true_or]
theorem bIsi : CallS T X (.builtin "isinstance") fIsi := by
  refine ⟨_, CallR.or call_isi call_isiT, fun w vs ds Q c r P => ?_⟩
  unfold fIsi at P
  split at P
  · rename_i d t
    obtain ⟨v, u, rfl, r1, r2⟩ := reps2 r
    cases e : tyOf w.st d with
    | none => rw [e] at P; exact P.elim
    | some a =>
      rw [e] at P
      rw [rep_ty r2]
      exact .inl ⟨v, _, _, _, _, rfl, .ty _, tyOf_ok c r1 e, isa_ok a t, P _ (rep_b _)⟩
  · rename_i d ts
    obtain ⟨v, u, rfl, r1, r2⟩ := reps2 r
    split at P
    · rename_i a l e1 e2
      obtain ⟨p, us, rfl, h1, h2⟩ := asT_ok r2 rfl
      exact .inr ⟨v, p, us, _, _, _, rfl, h1, tysOf_ok e2 h2, tyOf_ok c r1 e1, kitAny_ok a l, P _ (rep_b _)⟩
    · exact P.elim
  · exact P.elim
theorem bAll (hc : X.calm = true) : CallS T X (.builtin "all") (fAll false) := by
  refine ⟨_, cr_all hc, fun w vs ds Q c r P => ?_⟩
  unfold fAll at P
  split at P
  · obtain ⟨v, rfl, r1⟩ := reps1 r
    split at P
    · rename_i xs hx
      obtain ⟨a, us, rfl, e, r2⟩ := asL_ok c r1 hx
      cases e1 : blsOf xs with
      | none => rw [e1] at P; exact P.elim
      | some bs =>
        rw [e1] at P
        rw [blsOf_ok e1] at r2
        rw [Reps.bls.mp r2] at e
        exact ⟨a, bs, rfl, SqL.of e, P _ (rep_b _)⟩
    · exact P.elim
  · exact P.elim
theorem bAny (hc : X.calm = true) : CallS T X (.builtin "any") (fAll true) := by
  refine ⟨_, cr_any hc, fun w vs ds Q c r P => ?_⟩
  unfold fAll at P
  split at P
  · obtain ⟨v, rfl, r1⟩ := reps1 r
    split at P
    · rename_i xs hx
      obtain ⟨a, us, rfl, e, r2⟩ := asL_ok c r1 hx
      cases e1 : blsOf xs with
      | none => rw [e1] at P; exact P.elim
      | some bs =>
        rw [e1] at P
        rw [blsOf_ok e1] at r2
        rw [Reps.bls.mp r2] at e
        exact ⟨a, bs, rfl, SqL.of e, P _ (rep_b _)⟩
    · exact P.elim
  · exact P.elim
theorem bSum (hc : X.calm = true) : CallS T X (.builtin "sum") fSum := by
  refine ⟨_, cr_sum hc, fun w vs ds Q c r P => ?_⟩
  unfold fSum at P
  split at P
  · obtain ⟨v, rfl, r1⟩ := reps1 r
    split at P
    · rename_i xs hx
      obtain ⟨a, us, rfl, e, r2⟩ := asL_ok c r1 hx
      cases e1 : intsOf xs with
      | none => rw [e1] at P; exact P.elim
      | some bs =>
        rw [e1] at P
        rw [intsOf_ok e1] at r2
        rw [Reps.ints.mp r2] at e
        exact ⟨a, bs, rfl, SqL.of e, P _ (rep_i _)⟩
    · exact P.elim
  · exact P.elim
theorem bMax (hc : X.calm = true) : CallS T X (.builtin "max") fMax := by
  refine ⟨_, CallR.or (call_max2 hc) (cr_max hc), fun w vs ds Q c r P => ?_⟩
  unfold fMax at P
  split at P
  · obtain ⟨v, u, rfl, r1, r2⟩ := reps2 r
    rw [rep_int r1, rep_int r2]
    exact .inl ⟨_, _, rfl, P _ (rep_i _)⟩
  · obtain ⟨v, rfl, r1⟩ := reps1 r
    split at P
    · rename_i xs hx
      obtain ⟨a, us, rfl, e, r2⟩ := asL_ok c r1 hx
      split at P
      · rename_i n ns e1
        rw [intsOf_ok e1] at r2
        rw [Reps.ints.mp r2] at e
        refine .inr ⟨a, n :: ns, rfl, SqL.of e, Nat.succ_pos _, fun m hm hy => ?_⟩
        have q := foldl_max n ns m ((List.mem_cons.mp hm).imp Eq.symm id) (hy n List.mem_cons_self) fun y h => hy y (List.mem_cons_of_mem _ h)
        rw [← q]
        exact P _ (rep_i _)
      · exact P.elim
    · exact P.elim
  · exact P.elim
theorem bMin (hc : X.calm = true) : CallS T X (.builtin "min") fMin := by
  refine ⟨_, CallR.or (call_min2 hc) (cr_min hc), fun w vs ds Q c r P => ?_⟩
  unfold fMin at P
  split at P
  · obtain ⟨v, u, rfl, r1, r2⟩ := reps2 r
    rw [rep_int r1, rep_int r2]
    exact .inl ⟨_, _, rfl, P _ (rep_i _)⟩
  · obtain ⟨v, rfl, r1⟩ := reps1 r
    split at P
    · rename_i xs hx
      obtain ⟨a, us, rfl, e, r2⟩ := asL_ok c r1 hx
      split at P
      · rename_i n ns e1
        rw [intsOf_ok e1] at r2
        rw [Reps.ints.mp r2] at e
        refine .inr ⟨a, n :: ns, rfl, SqL.of e, Nat.succ_pos _, fun m hm hy => ?_⟩
        have q := foldl_min n ns m ((List.mem_cons.mp hm).imp Eq.symm id) (hy n List.mem_cons_self) fun y h => hy y (List.mem_cons_of_mem _ h)
        rw [← q]
        exact P _ (rep_i _)
      · exact P.elim
    · exact P.elim
  · exact P.elim
theorem bAbs : CallS T X (.builtin "abs") fAbs := by
  refine ⟨_, call_abs, fun w vs ds Q c r P => ?_⟩
  unfold fAbs at P
  split at P
  · obtain ⟨v, rfl, r1⟩ := reps1 r
    rw [rep_int r1]
    exact ⟨_, rfl, P _ (rep_i _)⟩
  · exact P.elim
theorem bSorted : CallS T X (.builtin "sorted") fSorted := by
  refine ⟨_, cr_sortedI, fun w vs ds Q c r P => ?_⟩
  unfold fSorted at P
  split at P
  · obtain ⟨v, rfl, r1⟩ := reps1 r
    split at P
    · rename_i xs hx
      obtain ⟨a, us, rfl, e, r2⟩ := asL_ok c r1 hx
      cases e1 : intsOf xs with
      | none => rw [e1] at P; exact P.elim
      | some bs =>
        rw [e1] at P
        rw [intsOf_ok e1] at r2
        rw [Reps.ints.mp r2] at e
        refine ⟨a, bs, rfl, SqL.of e, fun ns' p hp hs hn => ?_⟩
        rw [sorted_unique (hp.trans (sortI_perm bs).symm) hs (sortI_sorted bs)]
        exact P p _ hn (Reps.ints.mpr rfl)
    · exact P.elim
  · exact P.elim
theorem tInt : CallS T X (.type "int") fInt := by
  refine ⟨_, call_int1, fun w vs ds Q c r P => ?_⟩
  unfold fInt at P
  split at P
  · obtain ⟨v, rfl, r1⟩ := reps1 r
    rw [rep_int r1]
    exact .inl ⟨_, rfl, P _ (rep_i _)⟩
  · obtain ⟨v, rfl, r1⟩ := reps1 r
    rw [rep_bl r1]
    exact .inr ⟨_, rfl, P _ (rep_i _)⟩
  · exact P.elim
theorem tList : CallS T X (.type "list") fList := by
  refine ⟨_, call_list_of, fun w vs ds Q c r P => ?_⟩
  unfold fList at P
  split at P
  · rename_i d
    obtain ⟨v, rfl, r1⟩ := reps1 r
    cases e : asQ w.st d with
    | none => rw [e] at P; exact P.elim
    | some xs =>
      rw [e] at P
      obtain ⟨a, us, rfl, e2, r2⟩ := asQ_ok c r1 e
      refine ⟨a, us, rfl, ?_, fun l hl => P l _ hl r2⟩
      rcases e2 with e2 | e2
      · exact .inl (SqL.of e2)
      · exact .inr (SqT.of e2)
  · exact P.elim
theorem tTup : CallS T X (.type "tuple") fTup := by
  refine ⟨_, call_tuple_of, fun w vs ds Q c r P => ?_⟩
  unfold fTup at P
  split at P
  · rename_i d
    obtain ⟨v, rfl, r1⟩ := reps1 r
    obtain ⟨a, us, rfl, e2, r2⟩ := asT_ok r1 rfl
    exact ⟨a, us, rfl, .inr ⟨SqT.of e2, P _ r1⟩⟩
  · rename_i d _
    obtain ⟨v, rfl, r1⟩ := reps1 r
    cases e : asL w.st d with
    | none => rw [e] at P; exact P.elim
    | some xs =>
      rw [e] at P
      obtain ⟨a, us, rfl, e2, r2⟩ := asL_ok c r1 e
      exact ⟨a, us, rfl, .inl ⟨SqL.of e2, fun l hl => P l _ hl r2⟩⟩
  · exact P.elim
end
end MP


/-! MpMeth: displays, subscripts, slices, cells written, methods of lists and dicts. -/
namespace MP
open PySem PySem.Spec PyProof.Rows L2

/-! ### displays -/
def cLst (k : Bool) (a : SA) : SE := fun σ st => (a σ st).bind fun ds st1 => fin k (if ds.length ≤ sizeLine then some (.l ds) else none) st1
def cTup (a : SA) : SE := fun σ st => (a σ st).bind fun ds st1 => fin false (if ds.length ≤ sizeLine then some (.t ds) else none) st1
def cDNew (k : Bool) : SE := fun _ st => fin k (some (.k [] [])) st
def cStar (a : SE) (r : SA) : SA := fun σ st => (a σ st).bind fun x st1 => match asQ st1 x with
  | some ds => (r σ st1).bind fun xs st2 => .ok (ds ++ xs) st2
  | none => .fail
section
variable {T : Tb} {W : WX} {X : Cx} {e : Expr} {es : List Expr} {pos p : Pos} {ca : SA} {ce : SE} {k : Bool}
theorem sLst (ha : SndA T W X es ca) : SndE T W X (.List es pos) (cLst k ca) := by
  refine PE.imp (pe_lst ha) fun σ H Q ⟨w, σd, e, co, eo, P⟩ => ?_
  subst e
  refine ⟨w, σd, rfl, co, eo, P.bind.imp fun ds w1 s1 c1 K1 vs rs => ?_⟩
  have K2 := K1.fin c1
  split at K2
  · rename_i hl
    rw [rs.length] at hl
    exact ⟨hl, fun p hp => K2 p vs hp rs⟩
  · exact K2.elim
theorem sTup {x1} (ha : SndA T W X es ca) : SndE T W X (.Tuple es x1 pos) (cTup ca) := by
  refine PE.imp (pe_tup ha) fun σ H Q ⟨w, σd, e, co, eo, P⟩ => ?_
  subst e
  refine ⟨w, σd, rfl, co, eo, P.bind.imp fun ds w1 s1 c1 K1 vs rs => ?_⟩
  have K2 := K1.fin c1
  split at K2
  · rename_i hl
    rw [rs.length] at hl
    exact ⟨hl, fun p hp => K2 p vs hp rs⟩
  · exact K2.elim
theorem sDNew : SndE T W X (.Dict [] [] pos) (cDNew k) := by
  refine PE.imp pe_dnewK fun σ H Q ⟨w, σd, e, co, eo, P⟩ => ?_
  subst e
  exact fun p hp => P.fin co p [] hp rfl .nil
theorem sStar (he : SndE T W X e ce) (ha : SndA T W X es ca) (hs : starEach (.Starred e p :: es) X.env = (true, eval e X.env) :: starEach es X.env) : SndA T W X (.Starred e p :: es) (cStar ce ca) := by
  refine PA.imp (StX.pa_star he ha hs) fun σ H Q ⟨w, σd, e, co, eo, P⟩ => ?_
  subst e
  refine ⟨w, σd, rfl, co, eo, P.bind.imp fun x w1 s1 c1 K1 v rv => ?_⟩
  split at K1
  · rename_i ds hd
    obtain ⟨a, us, rfl, h1, r1⟩ := asQ_ok c1 rv hd
    refine ⟨a, us, rfl, ?_, w1, σd, rfl, c1, eo.mono s1.s0, K1.bind.imp fun xs w2 s2 c2 K2 vs rs => PostR.okA c2 K2 _ ((Reps.mono s2.s0 ds r1).append rs)⟩
    rcases h1 with h1 | h1
    · exact .inr (SqL.of h1)
    · exact .inl (SqT.of h1)
  · exact K1.elim
end

/-! ### subscripts -/
theorem atI_rep {T : Tb} {w : Wd} {ds : List D} {vs : List V} {i : Int} {d : D} (r : Reps T w ds vs) (h : atI ds i = some d) : ∃ v, atI vs i = some v ∧ Rep T w d v := by
  unfold atI at h ⊢
  rw [← r.length]
  cases e : ixN ds.length i with
  | none => rw [e] at h; cases h
  | some j =>
    rw [e] at h
    exact r.get h
def getD (k : Key) : List Key → List D → Option D
  | j :: ks, x :: xs => if j = k then some x else getD k ks xs
  | _, _ => none
theorem getD_rep {T : Tb} {w : Wd} {k : Key} : ∀ {ks : List Key} {ds : List D} {vs : List V}, Reps T w ds vs → match getD k ks ds with
    | some d => ∃ v, valV (ks.zip vs) k = some v ∧ Rep T w d v
    | none => ks.length = ds.length → valV (ks.zip vs) k = none
  | [], ds, vs, r => by cases ds <;> exact fun _ => rfl
  | j :: ks, [], vs, r => fun h => by cases h
  | j :: ks, d :: ds, _, r => by
    simp only [Reps] at r
    obtain ⟨v, vs, rfl, r1, r2⟩ := r
    unfold getD
    by_cases e : j = k
    · rw [if_pos e]
      exact ⟨v, valV_pos (p := (j, v)) e, r1⟩
    · rw [if_neg e]
      have ih := getD_rep (k := k) (ks := ks) r2
      have e2 : valV ((j :: ks).zip (v :: vs)) k = valV (ks.zip vs) k := valV_neg (p := (j, v)) e
      rw [e2]
      split
      · rename_i d' hd
        rw [hd] at ih
        exact ih
      · rename_i hd
        rw [hd] at ih
        exact fun h => ih (by simpa using h)
def opIx : D → D → Stt → Option N := fun x y st => match asQ st x with
  | some ds => match y with
    | .int i => (atI ds i).map .v
    | _ => none
  | none => match asK st x, keyD y with
    | some q, some k => (getD k q.1 q.2).map .v
    | _, _ => none
/-- d[k] by values -/
theorem ix_dictV {X : Cx} (hu : X.A.units + 1 < cLine) : IxR X (fun x y H Q => ∃ a v, x = .ref a ∧ DGet H a y (some v) ∧ Q v H) := by
  intro value slice pins s σ H x y v u Q I rx ry h hs
  obtain ⟨a, z, rfl, g, q⟩ := h
  cases rx
  have hT := dict_typeIs I g
  unfold subscriptTail
  refine wpAny_bind ?_
  rw [getitemInPython_of_ne hT.not_modules]
  refine wpAny_bind (wpAny_specialOf hT PySem.F.slot_dict_getitem.lookup ?_)
  have fin : wpAny (model X.prog X.w) X.A (subscripted slice false (.ref a) u) (fun r s₃ => wpAny (model X.prog X.w) X.A (letTemporaryGo value (.ref a) r >>= fun _ => pure r) (EP X pins σ Q) X.xe s₃) X.xe s := by
    rw [hs]
    exact wpAny_operating (wpAny_mono (d_getItem hu I g ry fun w' s3 I3 rw' => (show EP X pins σ Q w' s3 from ⟨z, H, I3, rw', q⟩)) (fun r s₃ h₃ => wpAny_bind (wpAny_letTemporaryGo (wpAny_pure h₃))) fun _ _ x => x)
  first
    | exact wpAny_pure (wpAny_bind fin)
    | exact wpAny_bind (wpAny_pure (wpAny_bind fin))
    | exact wpAny_bind fin
section
variable {T : Tb} {W : WX} {X : Cx} {a b : Expr} {pos : Pos} {ca cb : SE}
theorem sIx (hu : X.A.units + 1 < cLine) (ha : SndE T W X a ca) (hb : SndE T W X b cb) (hp : PlainIx b) : SndE T W X (.Subscript a b pos) (cBin false opIx ca cb) := by
  refine PE.imp (pe_ix (IxR.or (IxR.or ix_list ix_tup) (ix_dictV hu)) ha hb hp) fun σ H Q ⟨w, σd, e, co, eo, P⟩ => ?_
  subst e
  refine ⟨w, σd, rfl, co, eo, P.bind.imp fun x w1 s1 c1 K1 v rv => ?_⟩
  refine ⟨w1, σd, rfl, c1, eo.mono s1.s0, K1.bind.imp fun y w2 s2 c2 K2 u ru => ?_⟩
  have K3 := K2.fin c2
  have rv2 := Rep.mono s2.s0 x rv
  unfold opIx at K3
  split at K3
  · rename_i ds hd
    obtain ⟨p, us, rfl, e1, r1⟩ := asQ_ok c2 rv2 hd
    split at K3
    · rename_i i
      cases e2 : atI ds i with
      | none => rw [e2] at K3; exact K3.elim
      | some d =>
        rw [e2] at K3
        obtain ⟨z, hz, rz⟩ := atI_rep r1 e2
        rcases e1 with e1 | e1
        · exact .inl (.inl ⟨p, us, i, z, rfl, rep_int ru, SqL.of e1, hz, K3 z rz⟩)
        · exact .inl (.inr ⟨p, us, i, z, rfl, rep_int ru, SqT.of e1, hz, K3 z rz⟩)
    · exact K3.elim
  · split at K3
    · rename_i q k hq hk
      obtain ⟨p, us, rfl, e1, hl, r1⟩ := asK_ok c2 rv2 hq
      have g := getD_rep (k := k) (ks := q.1) r1
      cases e2 : getD k q.1 q.2 with
      | none => rw [e2] at K3; exact K3.elim
      | some d =>
        rw [e2] at K3 g
        obtain ⟨z, hz, rz⟩ := g
        refine .inr ⟨p, z, rfl, ?_, K3 z rz⟩
        rw [keyD_ok ru hk, ← hz]
        exact DGet.k e1
    · exact K3.elim
end

/-! ### slices -/
def cutD (xs : List D) (lo hi : Option Int) : List D := (xs.drop (HT.sIx xs.length 0 lo)).take (HT.sIx xs.length xs.length hi - HT.sIx xs.length 0 lo)
theorem cut_rep {T : Tb} {w : Wd} {ds : List D} {vs : List V} (r : Reps T w ds vs) (lo hi : Option Int) : Reps T w (cutD ds lo hi) (cutV vs lo hi) := by
  unfold cutD cutV
  rw [r.length]
  exact (r.drop _).take _
def cPart : Option SE → Ev → Stt → R (Option Int)
  | none, _, st => .ok none st
  | some a, σ, st => (a σ st).bind fun x st1 => match x with
    | .int i => .ok (some i) st1
    | _ => .fail
def opSl (x : D) (lo hi : Option Int) (st : Stt) : Option N := match asL st x with
  | some ds => some (.l (cutD ds lo hi))
  | none => match x with
    | .scr ns => some (.l (cutD (ns.map D.int) lo hi))
    | .tup ds => if HT.sIx ds.length 0 lo = 0 ∧ HT.sIx ds.length ds.length hi = ds.length then some (.v (.tup ds)) else some (.t (cutD ds lo hi))
    | _ => none
def cSl (k : Bool) (a : SE) (lo hi : Option SE) : SE := fun σ st => (a σ st).bind fun x st1 => (cPart lo σ st1).bind fun l st2 => (cPart hi σ st2).bind fun h st3 => fin k (opSl x l h st3) st3
def SndP (T : Tb) (W : WX) (X : Cx) (e : Option Expr) (c : Option SE) : Prop := ∃ t : TO, PO X e t ∧ ∀ σ (w : Wd) (σd : Ev) (Q : Option Int → Hp → Prop), COk T w → EOk T w σd σ → PostR T W σ (cPart c σd w.st) w (fun o w' => Q o w'.H) → t σ w.H Q
section
variable {T : Tb} {W : WX} {X : Cx} {e : Expr} {lo hi : Option Expr} {pos p2 : Pos} {ce : SE} {cl ch : Option SE} {k : Bool}
theorem sP0 : SndP T W X none none := ⟨_, po_none, fun σ w σd Q c eo P => PostR.ok (K := fun o w' => Q o w'.H) c P⟩
theorem sP1 (he : SndE T W X e ce) : SndP T W X (some e) (some ce) := by
  refine ⟨_, po_some he, fun σ w σd Q c eo P => ?_⟩
  refine ⟨w, σd, rfl, c, eo, (PostR.bind (r := ce σd w.st) P).imp fun x w1 s1 c1 K1 v rv => ?_⟩
  cases x with
  | int i => exact ⟨i, rep_int rv, PostR.ok (K := fun o w' => Q o w'.H) c1 K1⟩
  | _ => exact K1.elim
theorem sSl (hK : T.K = X.K) (he : SndE T W X e ce) (hl : SndP T W X lo cl) (hh : SndP T W X hi ch) : SndE T W X (.Subscript e (.Slice lo hi none p2) pos) (cSl k ce cl ch) := by
  obtain ⟨tl, hl, fl⟩ := hl
  obtain ⟨th, hh, fh⟩ := hh
  refine PE.imp (pe_slice (SlR.or sl_list sl_tupA) he hl hh) fun σ H Q ⟨w, σd, e, co, eo, P⟩ => ?_
  subst e
  refine ⟨w, σd, rfl, co, eo, P.bind.imp fun x w1 s1 c1 K1 v rv => ?_⟩
  refine fl σ w1 σd _ c1 (eo.mono s1.s0) (K1.bind.imp fun l w2 s2 c2 K2 => ?_)
  refine fh σ w2 σd _ c2 ((eo.mono s1.s0).mono s2.s0) (K2.bind.imp fun h w3 s3 c3 K3 => ?_)
  have K4 := K3.fin c3
  have rv3 := Rep.mono s3.s0 x (Rep.mono s2.s0 x rv)
  unfold opSl at K4
  split at K4
  · rename_i ds hd
    obtain ⟨a, us, rfl, e1, r1⟩ := asL_ok c3 rv3 hd
    exact .inl ⟨a, us, rfl, SqL.of e1, fun p hp => K4 p _ hp (cut_rep r1 l h)⟩
  · split at K4
    · rename_i ns _
      obtain ⟨a, rfl, e1⟩ := scr_sq rv3
      rw [hK] at e1
      exact .inl ⟨a, _, rfl, e1, fun p hp => K4 p _ hp (cut_rep (Reps.ints.mpr rfl) l h)⟩
    · rename_i ds _
      obtain ⟨a, us, rfl, e1, r1⟩ := asT_ok rv3 rfl
      refine .inr ⟨a, us, rfl, SqT.of e1, fun q => ?_, fun q p hp => ?_⟩
      · rw [← r1.length] at q
        rw [if_pos q] at K4
        exact K4 _ rv3
      · rw [← r1.length] at q
        rw [if_neg q] at K4
        exact K4 p _ hp (cut_rep r1 l h)
    · exact K4.elim
end

/-! ### cells written -/
def hoOf : O → List V → HO
  | .lst _, vs => .lst vs
  | .dk ks _, vs => .dK (ks.zip vs)
theorem cellL_set {ρ : List Addr} {st : Stt} {n : Nat} {o o' : O} {a : Addr} (h : st[n]? = some (some o)) : CellL ρ (st.set n (some o')) a ↔ CellL ρ st a := by
  have hn := (List.getElem?_eq_some_iff.mp h).1
  constructor
  · rintro ⟨m, x, h1, h2⟩
    by_cases e : n = m
    · subst e
      exact ⟨n, o, h, h2⟩
    · rw [List.getElem?_set_ne e] at h1
      exact ⟨m, x, h1, h2⟩
  · rintro ⟨m, x, h1, h2⟩
    by_cases e : n = m
    · subst e
      exact ⟨n, o', List.getElem?_set_self hn, h2⟩
    · exact ⟨m, x, by rw [List.getElem?_set_ne e]; exact h1, h2⟩
section
variable {T : Tb} {w : Wd} {n : Nat} {o o' : O} {a : Addr} {x : HO}
theorem put_stp (c : COk T w) (h : w.st[n]? = some (some o)) (ha : w.ρ[n]? = some a) : Stp w { w with H := upd w.H a x, st := w.st.set n (some o') } := by
  have hl : CellL w.ρ w.st a := ⟨n, o, h, ha⟩
  refine ⟨⟨List.prefix_refl _, fun b y hb nb => ?_⟩, rfl, fun b hb => ?_⟩
  · have hne : b ≠ a := fun e => nb (.inl (e ▸ hl))
    refine ⟨(upd_ne hne).trans hb, ?_⟩
    rintro (q | q)
    · exact nb (.inl ((cellL_set h).mp q))
    · exact nb (.inr q)
  · exact upd_ne fun e => (c.hid b hb).2 (e ▸ hl)
theorem put_ok (c : COk T w) (h : w.st[n]? = some (some o)) (ha : w.ρ[n]? = some a) (ho : ∀ w' : Wd, Stp0 w w' → w'.H a = some x → RepO T w' a o') : COk T { w with H := upd w.H a x, st := w.st.set n (some o') } := by
  have hn := (List.getElem?_eq_some_iff.mp h).1
  have s0 := (put_stp (x := x) (o' := o') c h ha).s0
  have at_ : ∀ (m : Nat) (y : O), (w.st.set n (some o'))[m]? = some (some y) → (m = n ∧ y = o') ∨ (m ≠ n ∧ w.st[m]? = some (some y)) := fun m y hm => by
    by_cases e : n = m
    · subst e
      rw [List.getElem?_set_self hn] at hm
      exact .inl ⟨rfl, (Option.some.inj (Option.some.inj hm)).symm⟩
    · rw [List.getElem?_set_ne e] at hm
      exact .inr ⟨fun z => e z.symm, hm⟩
  have old : ∀ (m : Nat) (y : O), (w.st.set n (some o'))[m]? = some (some y) → ∃ z, w.st[m]? = some (some z) := fun m y hm => by
    rcases at_ m y hm with ⟨rfl, _⟩ | ⟨_, e⟩
    · exact ⟨o, h⟩
    · exact ⟨y, e⟩
  refine ⟨by simp [c.len], fun m k b om ok h1 h2 h3 h4 => ?_, fun m y b h1 h2 => ?_, fun b hb => ?_⟩
  · obtain ⟨z1, e1⟩ := old m om h1
    obtain ⟨z2, e2⟩ := old k ok h2
    exact c.inj m k b z1 z2 e1 e2 h3 h4
  · rcases at_ m y h1 with ⟨rfl, rfl⟩ | ⟨hm, e⟩
    · have e : b = a := Option.some.inj (h2.symm.trans ha)
      subst e
      exact ho _ s0 upd_same
    · have r := c.cell m y b e h2
      have hne : b ≠ a := fun z => hm (c.inj m n a y o e h (z ▸ h2) ha)
      exact r.mono s0 (upd_ne hne)
  · obtain ⟨⟨y, e⟩, h2⟩ := c.hid b hb
    have hne : b ≠ a := fun z => h2 (z ▸ ⟨n, o, h, ha⟩)
    exact ⟨⟨y, (upd_ne hne).trans e⟩, fun q => h2 ((cellL_set h).mp q)⟩
end
/-- what a writing method does: the cell's number, what stands there then, the answer -/
abbrev FM := D → List D → Stt → Option (Nat × O × D)
def putR (r : Option (Nat × O × D)) (st : Stt) : R D := match r with
  | some (n, o, d) => .ok d (st.set n (some o))
  | none => .fail
/-- x.m(..) of a list that stands in a cell -/
def isL (st : Stt) (x : D) : Bool := (asL st x).isSome
def cMut (f : FM) (o : SE) (a : SA) : SE := fun σ st => (o σ st).bind fun x st1 => if isL st1 x = true then (a σ st1).bind fun ds st2 => putR (f x ds st2) st2 else .fail
/-- a method that reads -/
def cMeth (f : D → List D → Stt → Option N) (o : SE) (a : SA) : SE := fun σ st => (o σ st).bind fun x st1 => if isL st1 x = true then (a σ st1).bind fun ds st2 => fin false (f x ds st2) st2 else .fail
/-- a writing method by values -/
def MutS (T : Tb) (X : Cx) (id : String) (f : FM) : Prop :=
  ∃ r : V → List V → Hp → VK → Prop, MtR X id r ∧ ∀ (w : Wd) (x : V) (xs : List V) (dx : D) (ds : List D) (Q : VK), COk T w → Rep T w dx x → Reps T w ds xs →
    (match f dx ds w.st with
      | some (n, o, d) => ∀ (w' : Wd) (v : V), w'.st = w.st.set n (some o) → Stp w w' → COk T w' → Rep T w' d v → Q v w'.H
      | none => False) → r x xs w.H Q
def MethS (T : Tb) (X : Cx) (id : String) (f : D → List D → Stt → Option N) : Prop :=
  ∃ r : V → List V → Hp → VK → Prop, MtR X id r ∧ ∀ (w : Wd) (x : V) (xs : List V) (dx : D) (ds : List D) (Q : VK), COk T w → Rep T w dx x → Reps T w ds xs → PostN T (f dx ds w.st) w Q → r x xs w.H Q
section
variable {T : Tb} {W : WX} {X : Cx} {o e : Expr} {es : List Expr} {co : SE} {ca : SA} {name : Str} {apos cpos : Pos} {id : String} {f : FM} {g : D → List D → Stt → Option N}
theorem tyL {w : Wd} (c : COk T w) {x : D} {v : V} (r : Rep T w x v) (h : isL w.st x = true) : tyV X.K "list" v w.H := by
  unfold isL at h
  cases e : asL w.st x with
  | none => rw [e] at h; cases h
  | some ds =>
    obtain ⟨a, vs, rfl, h1, _⟩ := asL_ok c r e
    exact .inl ⟨rfl, vs, SqL.of h1⟩
theorem sMut (hs : Slot "list" name id) (ht : typeOf (.builtin id) = pure (.type "method_descriptor")) (hm : MutS T X id f) (ho : SndE T W X o co) (ha : SndA T W X (e :: es) ca)
    (h1 : attributeBase o name X.env (eval o X.env) = eval o X.env)
    (h2 : ((backTo cpos (starEach (e :: es) X.env)).all (fun x => !x.1) && (backToKw cpos (keywordEach [] X.env)).all (fun x => x.1.isSome) && decide ((e :: es).length + ([] : List Keyword).length + (if ([] : List Keyword).isEmpty = true then 0 else 1) < 30)) = true)
    (h3 : (apos.endLine == cpos.line) = true) (h4 : starEach (e :: es) X.env = (false, eval e X.env) :: starEach es X.env) (h5 : ((backTo cpos (starEach es X.env)).any fun x => x.1) = false) :
    SndE T W X (.Call (.Attribute o name apos) (e :: es) [] cpos) (cMut f co ca) := by
  obtain ⟨r, hr, hf⟩ := hm
  refine PE.imp (pe_bm PySem.F.plainAttrs_list hs ht hr ho ha h1 h2 h3 h4 h5) fun σ H Q ⟨w, σd, e, c, eo, P⟩ => ?_
  subst e
  refine ⟨w, σd, rfl, c, eo, P.bind.imp fun x w1 s1 c1 K1 v rv => ?_⟩
  split at K1
  · rename_i hl
    refine ⟨tyL c1 rv hl, w1, σd, rfl, c1, eo.mono s1.s0, K1.bind.imp fun ds w2 s2 c2 K2 vs rs => hf w2 v vs x ds Q c2 (Rep.mono s2.s0 x rv) rs ?_⟩
    cases q : f x ds w2.st with
    | none => rw [q] at K2; exact K2.elim
    | some q3 =>
      obtain ⟨n, ob, d⟩ := q3
      rw [q] at K2
      exact fun w' u e s c r => K2 w' e s c u r
  · exact K1.elim
theorem sMeth (hs : Slot "list" name id) (ht : typeOf (.builtin id) = pure (.type "method_descriptor")) (hm : MethS T X id g) (ho : SndE T W X o co) (ha : SndA T W X (e :: es) ca)
    (h1 : attributeBase o name X.env (eval o X.env) = eval o X.env)
    (h2 : ((backTo cpos (starEach (e :: es) X.env)).all (fun x => !x.1) && (backToKw cpos (keywordEach [] X.env)).all (fun x => x.1.isSome) && decide ((e :: es).length + ([] : List Keyword).length + (if ([] : List Keyword).isEmpty = true then 0 else 1) < 30)) = true)
    (h3 : (apos.endLine == cpos.line) = true) (h4 : starEach (e :: es) X.env = (false, eval e X.env) :: starEach es X.env) (h5 : ((backTo cpos (starEach es X.env)).any fun x => x.1) = false) :
    SndE T W X (.Call (.Attribute o name apos) (e :: es) [] cpos) (cMeth g co ca) := by
  obtain ⟨r, hr, hf⟩ := hm
  refine PE.imp (pe_bm PySem.F.plainAttrs_list hs ht hr ho ha h1 h2 h3 h4 h5) fun σ H Q ⟨w, σd, e, c, eo, P⟩ => ?_
  subst e
  refine ⟨w, σd, rfl, c, eo, P.bind.imp fun x w1 s1 c1 K1 v rv => ?_⟩
  split at K1
  · rename_i hl
    exact ⟨tyL c1 rv hl, w1, σd, rfl, c1, eo.mono s1.s0, K1.bind.imp fun ds w2 s2 c2 K2 vs rs => hf w2 v vs x ds Q c2 (Rep.mono s2.s0 x rv) rs (K2.fin c2)⟩
  · exact K1.elim
end
def mAppend : FM := fun x ds st => match x, ds with
  | .cel n, [d] => match st[n]? with
    | some (some (.lst xs)) => if xs.length < sizeLine then some (n, .lst (xs ++ [d]), .non) else none
    | _ => none
  | _, _ => none
def mExtend : FM := fun x ds st => match x, ds with
  | .cel n, [d] => match st[n]? with
    | some (some (.lst xs)) => match asL st d with
      | some ys => if xs.length + ys.length ≤ sizeLine then some (n, .lst (xs ++ ys), .non) else none
      | none => none
    | _ => none
  | _, _ => none
def mInsert : FM := fun x ds st => match x, ds with
  | .cel n, [.int i, d] => match st[n]? with
    | some (some (.lst xs)) => if xs.length < sizeLine ∧ 0 ≤ i ∧ i < 2 ^ 63 then some (n, .lst (xs.take i.toNat ++ [d] ++ xs.drop i.toNat), .non) else none
    | _ => none
  | _, _ => none
def fCount : D → List D → Stt → Option N := fun x ds st => match asL st x, ds with
  | some xs, [d] => match pyFs st (pyN st 5) xs, py st d with
    | some ps, some p => if (PyData.plainAll ps && p.plain && SeqAt.shaped p) = true then some (.v (.int ((ps.countP fun y => PyData.eqv y p : Nat) : Int))) else none
    | _, _ => none
  | _, _ => none
section
variable {T : Tb} {X : Cx}
theorem uAppend : MutS T X "list.append" mAppend := by
  refine ⟨_, mt_append, fun w x xs dx ds Q c rx rs P => ?_⟩
  cases e : mAppend dx ds w.st with
  | none => rw [e] at P; exact P.elim
  | some q =>
    rw [e] at P
    unfold mAppend at e
    split at e
    · rename_i n d
      obtain ⟨v, rfl, r1⟩ := reps1 rs
      simp only [Rep] at rx
      obtain ⟨a, rfl, ha⟩ := rx
      split at e
      · rename_i ys hy
        split at e
        · rename_i hl
          cases e
          obtain ⟨us, h1, h2⟩ := c.cell n _ a hy ha
          rw [h2.length] at hl
          exact ⟨a, us, v, rfl, rfl, h1, hl, P { w with H := upd w.H a (.lst (us ++ [v])), st := w.st.set n (some (.lst (ys ++ [d]))) } .non rfl (put_stp c hy ha) (put_ok c hy ha fun w' s' e => ⟨_, e, (Reps.mono s' _ h2).append (.one (Rep.mono s' _ r1))⟩) rep_n⟩
        · cases e
      · cases e
    · cases e
theorem uExtend : MutS T X "list.extend" mExtend := by
  refine ⟨_, mt_extend, fun w x xs dx ds Q c rx rs P => ?_⟩
  cases e : mExtend dx ds w.st with
  | none => rw [e] at P; exact P.elim
  | some q =>
    rw [e] at P
    unfold mExtend at e
    split at e
    · rename_i n d
      obtain ⟨v, rfl, r1⟩ := reps1 rs
      simp only [Rep] at rx
      obtain ⟨a, rfl, ha⟩ := rx
      split at e
      · rename_i ys hy
        split at e
        · rename_i zs hz
          split at e
          · rename_i hl
            cases e
            obtain ⟨us, h1, h2⟩ := c.cell n _ a hy ha
            obtain ⟨b, vs, rfl, h3, h4⟩ := asL_ok c r1 hz
            rw [h2.length, h4.length] at hl
            exact ⟨a, b, us, vs, rfl, rfl, h1, h3, hl, P { w with H := upd w.H a (.lst (us ++ vs)), st := w.st.set n (some (.lst (ys ++ zs))) } .non rfl (put_stp c hy ha) (put_ok c hy ha fun w' s' e => ⟨_, e, (Reps.mono s' _ h2).append (Reps.mono s' _ h4)⟩) rep_n⟩
          · cases e
        · cases e
      · cases e
    · cases e
theorem uInsert : MutS T X "list.insert" mInsert := by
  refine ⟨_, mt_insert, fun w x xs dx ds Q c rx rs P => ?_⟩
  cases e : mInsert dx ds w.st with
  | none => rw [e] at P; exact P.elim
  | some q =>
    rw [e] at P
    unfold mInsert at e
    split at e
    · rename_i n i d
      obtain ⟨u, v, rfl, r0, r1⟩ := reps2 rs
      simp only [Rep] at rx
      obtain ⟨a, rfl, ha⟩ := rx
      split at e
      · rename_i ys hy
        split at e
        · rename_i hl
          cases e
          obtain ⟨us, h1, h2⟩ := c.cell n _ a hy ha
          rw [h2.length] at hl
          exact ⟨a, us, i, v, rfl, by rw [rep_int r0], h1, hl.1, hl.2.1, hl.2.2, P { w with H := upd w.H a (.lst (us.take i.toNat ++ [v] ++ us.drop i.toNat)), st := w.st.set n (some (.lst (ys.take i.toNat ++ [d] ++ ys.drop i.toNat))) } .non rfl (put_stp c hy ha) (put_ok c hy ha fun w' s' e => ⟨_, e, (((Reps.mono s' _ h2).take _).append (.one (Rep.mono s' _ r1))).append ((Reps.mono s' _ h2).drop _)⟩) rep_n⟩
        · cases e
      · cases e
    · cases e
def rCntD (K : PySem.W.Frag) : V → List V → Hp → VK → Prop := fun x xs H Q => ∃ (p : Addr) (y : V) (vs : List V) (ps : List PyData) (d : PyData), x = .ref p ∧ xs = [y] ∧ H p = some (.lst vs) ∧ DpAll K H vs ps ∧ Dp K H y d ∧ PyData.plainAll ps = true ∧ d.plain = true ∧ SeqAt.shaped d = true ∧ Q (.int ((ps.countP fun z => PyData.eqv z d : Nat) : Int)) H
theorem mt_countD (hu : X.A.units + 65 < cLine) : MtR X "list.count" (rCntD X.K) := by
  intro pins s σ H x xs v us Q I rx rxs h
  obtain ⟨p, y, vs, ps, d, rfl, rfl, hp, hps, hd, pl, pd, sd, q⟩ := h
  cases rx
  obtain ⟨u, rfl, ru⟩ := rxs.one
  obtain ⟨its, rv, hl, _⟩ := I.list (SqL.of hp)
  obtain ⟨as, ra⟩ := Dp.readsAll I ps vs its hps rv
  obtain ⟨bs, rb⟩ := Dp.reads I d y u hd ru
  have h64 := SeqAt.depth_of_shaped sd
  have hmin : min (PyData.depthAll ps) d.depth ≤ d.depth := Nat.min_le_right _ _
  exact PySem.SeqAt.count_list_data hl.isList (by simpa using ra) rb pl pd (by omega) ⟨.int _, H, I.tok _, ⟨_, rfl⟩, q⟩
theorem mCount (hu : X.A.units + 65 < cLine) : MethS T X "list.count" fCount := by
  refine ⟨_, mt_countD hu, fun w x xs dx ds Q c rx rs P => ?_⟩
  unfold fCount at P
  split at P
  · rename_i ys d hy
    obtain ⟨v, rfl, r1⟩ := reps1 rs
    obtain ⟨a, us, rfl, h1, h2⟩ := asL_ok c rx hy
    split at P
    · rename_i ps p hp hq
      split at P
      · rename_i hk
        rw [Bool.and_eq_true, Bool.and_eq_true] at hk
        exact ⟨a, v, us, ps, p, rfl, rfl, h1, pyFs_dp c (fun _ _ _ r1 z => pyN_dp c 5 r1 z) ys h2 hp, py_dp c r1 hq, hk.1.1, hk.1.2, hk.2, P _ (rep_i _)⟩
      · exact P.elim
    · exact P.elim
  · exact P.elim
end
end MP


/-! MpStmt: statements, targets, loops, comprehensions, calls of defs, defs. -/
namespace MP
open PySem PySem.Spec PyProof.Rows L2

/-! ### statements -/
def cSeq (a b : SS) : SS := fun σ st => match a σ st with
  | .nx σ1 st1 => b σ1 st1
  | r => r
def cEnd : SS := fun σ st => .nx σ st
def cDrop (a : SE) : SS := fun σ st => (a σ st).st σ fun _ st1 => .nx σ st1
def cRet (a : SE) : SS := fun σ st => (a σ st).st σ fun d st1 => .rt d st1
def cRetN : SS := fun _ st => .rt .non st
def cIfS (t : SB) (a b : SS) : SS := fun σ st => (t σ st).st σ fun k st1 => if k = true then a σ st1 else b σ st1
def cBrk : SS := fun σ st => .bk σ st
def cCt : SS := fun σ st => .ct σ st
def cNever : SS := fun _ _ => .fail
def cSet (i : Nat) (a : SE) : SS := fun σ st => (a σ st).st σ fun d st1 => .nx (σ.set i (some d)) st1
/-- a, b = x, y of plain local names -/
def cPar (i j : Nat) (a b : SE) : SS := fun σ st => (a σ st).st σ fun d st1 => (b σ st1).st σ fun e st2 => .nx ((σ.set i (some d)).set j (some e)) st2
section
variable {T : Tb} {W : WX} {X : Cx} {st : Stmt} {rest : List Stmt} {c c1 c2 : SS} {e : Expr} {ce cf : SE} {ct : SB} {pos : Pos}
theorem bNil : SndB T W X [] cEnd := PSs.imp pss_nil fun D σ H ⟨w, σd, e, co, eo, P⟩ => by
  subst e
  exact P w σ rfl (.refl w) co eo
theorem bOne (h : SndS T W X st c) : SndB T W X [st] c := pss_one h
theorem bCons (h1 : SndS T W X st c1) (h2 : SndB T W X rest c2) : SndB T W X (st :: rest) (cSeq c1 c2) := by
  refine PSs.imp (pss_cons h1 h2) fun D σ H ⟨w, σd, e, co, eo, P⟩ => ?_
  subst e
  refine ⟨w, σd, rfl, co, eo, ?_⟩
  unfold cSeq at P
  cases q : c1 σd w.st with
  | nx σ1 st1 =>
    rw [q] at P
    exact fun w' σ' e s c' eo' => ⟨w', σ1, rfl, c', eo', by rw [e]; exact PostS.step s P⟩
  | rt d st1 => rw [q] at P; exact P
  | bk d st1 => rw [q] at P; exact P
  | ct d st1 => rw [q] at P; exact P
  | exc k d σ1 st1 => rw [q] at P; exact P
  | fail => rw [q] at P; exact P
theorem sPass : SndS T W X (.Pass pos) cEnd := PS.imp ps_pass fun D σ H ⟨w, σd, e, co, eo, P⟩ => by
  subst e
  exact P w σ rfl (.refl w) co eo
theorem sDoc {x j pos'} : SndS T W X (.Expr (.Constant (.str x) j pos) pos') cEnd := PS.imp ps_doc fun D σ H ⟨w, σd, e, co, eo, P⟩ => by
  subst e
  exact P w σ rfl (.refl w) co eo
theorem sBrk : SndS T W X (.Break pos) cBrk := PS.imp ps_break fun D σ H ⟨w, σd, e, co, eo, P⟩ => by
  subst e
  exact P w σ rfl (.refl w) co eo
theorem sCt : SndS T W X (.Continue pos) cCt := PS.imp ps_continue fun D σ H ⟨w, σd, e, co, eo, P⟩ => by
  subst e
  exact P w σ rfl (.refl w) co eo
theorem sNever : SndS T W X st cNever := PS.imp ps_never fun D σ H ⟨w, σd, e, co, eo, P⟩ => P.elim
theorem sDrop (he : SndE T W X e ce) (hs : swapsWith e none pos.line X.env = pure false) : SndS T W X (.Expr e pos) (cDrop ce) := by
  refine PS.imp (ps_expr he hs) fun D σ H ⟨w, σd, e, co, eo, P⟩ => ?_
  subst e
  exact ⟨w, σd, rfl, co, eo, (PostS.st eo P).imp fun d w1 s1 c1 K1 v rv => K1 w1 σ rfl (.refl w1) c1 (eo.mono s1.s0)⟩
theorem sRet (he : SndE T W X e ce) : SndS T W X (.Return (some e) pos) (cRet ce) := by
  refine PS.imp (ps_ret he) fun D σ H ⟨w, σd, e, co, eo, P⟩ => ?_
  subst e
  exact ⟨w, σd, rfl, co, eo, (PostS.st eo P).imp fun d w1 s1 c1 K1 v rv => K1 w1 v rfl (.refl w1) c1 rv⟩
theorem sRetN : SndS T W X (.Return none pos) cRetN := PS.imp ps_retN fun D σ H ⟨w, σd, e, co, eo, P⟩ => by
  subst e
  exact P w .non rfl (.refl w) co rep_n
theorem sIfS {c : Expr} {a b : List Stmt} (hc : SndT T W X c ct) (ha : SndB T W X a c1) (hb : SndB T W X b c2) : SndS T W X (.If c a b pos) (cIfS ct c1 c2) := by
  refine PS.imp (ps_if hc ha hb) fun D σ H ⟨w, σd, e, co, eo, P⟩ => ?_
  subst e
  refine ⟨w, σd, rfl, co, eo, (PostS.st eo P).imp fun k w1 s1 c1 K1 => ?_⟩
  cases k with
  | true => exact ⟨w1, σd, rfl, c1, eo.mono s1.s0, K1⟩
  | false => exact ⟨w1, σd, rfl, c1, eo.mono s1.s0, K1⟩
theorem sSet {i : Nat} {x : Str} {pos' : Pos} (hN : X.N.Nodup) (hi : X.N[i]? = some x) (hx : Loc X.env.scope x) (he : SndE T W X e ce) (hs : swapsWith e (some (.Name x pos')) pos.line X.env = pure false)
    (hf : X.fn x = true ∨ X.env.scope.names.lookup x = some .local) : SndS T W X (.Assign [.Name x pos'] e pos) (cSet i ce) := by
  refine PS.imp (ps_set hN hi hx he hs hf) fun D σ H ⟨w, σd, e, co, eo, P⟩ => ?_
  subst e
  exact ⟨w, σd, rfl, co, eo, (PostS.st eo P).imp fun d w1 s1 c1 K1 v rv => K1 w1 _ rfl (.refl w1) c1 ((eo.mono s1.s0).set i rv)⟩
theorem sPar {i j : Nat} {x y : Str} {a b : Expr} {px py pt : Pos} {kt k2 pt2} (hc : X.calm = true) (hN : X.N.Nodup) (hi : X.N[i]? = some x) (hj : X.N[j]? = some y) (hij : i ≠ j)
    (hx : X.env.scope.names.lookup x = some .local) (hy : X.env.scope.names.lookup y = some .local) (ha : SndE T W X a ce) (hb : SndE T W X b cf)
    (hw : swappedStores [.Tuple [.Name x px, .Name y py] kt pt] (.Tuple [a, b] k2 pt2) X.env = pure (some [x, y])) (hs1 : starEach [a, b] X.env = (false, eval a X.env) :: starEach [b] X.env) (hs2 : starEach [b] X.env = (false, eval b X.env) :: starEach [] X.env) :
    SndS T W X (.Assign [.Tuple [.Name x px, .Name y py] kt pt] (.Tuple [a, b] k2 pt2) pos) (cPar i j ce cf) := by
  refine PS.imp (ps_par hc hN hi hj hij hx hy (pa_cons ha (pa_cons hb pa_nil hs2) hs1) hw) fun D σ H ⟨w, σd, e, co, eo, P⟩ => ?_
  subst e
  refine ⟨w, σd, rfl, co, eo, (PostS.st eo P).imp fun d w1 s1 c1 K1 v rv => ?_⟩
  refine ⟨w1, σd, rfl, c1, eo.mono s1.s0, (PostS.st (eo.mono s1.s0) K1).imp fun d2 w2 s2 c2 K2 u ru => ?_⟩
  exact ⟨v, u, rfl, K2 w2 _ rfl (.refl w2) c2 ((((eo.mono s1.s0).mono s2.s0).set i (Rep.mono s2.s0 _ rv)).set j ru)⟩
end

/-! ### targets -/
abbrev SGt := D → Ev → Stt → Option (Ev × Stt)
abbrev SGs := List D → Ev → Stt → Option (Ev × Stt)
def Aft (T : Tb) (ws : List Nat) (σ : L2.St) (w : Wd) (o : Option (Ev × Stt)) (Q : L2.St → Hp → Prop) : Prop := match o with
  | some (σd', st') => ∀ (w' : Wd) (σ' : L2.St), w'.st = st' → Stp w w' → COk T w' → EOk T w' σd' σ' → σ'.length = σ.length → (∀ j, j ∉ ws → σ'[j]? = σ[j]?) → Q σ' w'.H
  | none => False
def tG (T : Tb) (ws : List Nat) (g : SGt) : TG := fun v σ H Q => ∃ w σd d, w.H = H ∧ COk T w ∧ EOk T w σd σ ∧ Rep T w d v ∧ Aft T ws σ w (g d σd w.st) Q
def tGs (T : Tb) (ws : List Nat) (g : SGs) : TGs := fun vs σ H Q => ∃ w σd ds, w.H = H ∧ COk T w ∧ EOk T w σd σ ∧ Reps T w ds vs ∧ Aft T ws σ w (g ds σd w.st) Q
abbrev SndG (T : Tb) (X : Cx) (tg : Expr) (ws : List Nat) (g : SGt) : Prop := PG X tg (tG T ws g)
abbrev SndGs (T : Tb) (X : Cx) (tg : List Expr) (ws : List Nat) (g : SGs) : Prop := PGs X tg (tGs T ws g)
theorem PG.imp {X : Cx} {e : Expr} {t t' : TG} (h : PG X e t) (i : ∀ v σ H Q, t' v σ H Q → t v σ H Q) : PG X e t' := ⟨fun pins s σ H v u Q I r q => h.run pins s σ H v u Q I r (i _ _ _ _ q)⟩
theorem PGs.imp {X : Cx} {e : List Expr} {t t' : TGs} (h : PGs X e t) (i : ∀ v σ H Q, t' v σ H Q → t v σ H Q) : PGs X e t' := ⟨fun pins s σ H v u Q I r q => h.run pins s σ H v u Q I r (i _ _ _ _ q)⟩
def gN (i : Nat) : SGt := fun d σ st => some (σ.set i (some d), st)
def gs0 : SGs := fun ds σ st => match ds with
  | [] => some (σ, st)
  | _ => none
def gsC (g : SGt) (r : SGs) : SGs := fun ds σ st => match ds with
  | d :: ds => match g d σ st with
    | some q => r ds q.1 q.2
    | none => none
  | [] => none
def gT (r : SGs) : SGt := fun d σ st => match asT d with
  | some ds => r ds σ st
  | none => none
section
variable {T : Tb} {W : WX} {X : Cx} {pos : Pos} {ws ws' : List Nat} {g : SGt} {r : SGs}
theorem Aft.step {σ : L2.St} {w w1 : Wd} {o : Option (Ev × Stt)} {Q : L2.St → Hp → Prop} (s : Stp w w1) (h : Aft T ws σ w o Q) : Aft T ws σ w1 o Q := by
  cases o with
  | none => exact h
  | some q => exact fun w' σ' e s' c eo l k => h w' σ' e (s.trans s') c eo l k
theorem tgN {i : Nat} {x : Str} (hN : X.N.Nodup) (hi : X.N[i]? = some x) (hx : Loc X.env.scope x) (hf : X.fn x = true ∨ X.env.scope.names.lookup x = some .local) : SndG T X (.Name x pos) [i] (gN i) := by
  refine PG.imp (pg_name hN hi hx hf) fun v σ H Q ⟨w, σd, d, e, co, eo, rv, P⟩ => ?_
  subst e
  exact P w _ rfl (.refl w) co (eo.set i rv) (List.length_set ..) fun j hj => List.getElem?_set_ne (by simpa using fun e => hj (by simp [e]))
theorem tgs0 : SndGs T X [] [] gs0 := by
  refine PGs.imp pgs_nil fun vs σ H Q ⟨w, σd, ds, e, co, eo, rv, P⟩ => ?_
  subst e
  cases ds with
  | nil =>
    simp only [Reps] at rv
    exact ⟨rv, P w _ rfl (.refl w) co eo rfl fun _ _ => rfl⟩
  | cons _ _ => exact P.elim
theorem tgsC {e : Expr} {es : List Expr} (h1 : SndG T X e ws g) (h2 : SndGs T X es ws' r) (hs : (assignEach (e :: es) X.env).map (·.2) = assign e X.env :: (assignEach es X.env).map (·.2)) : SndGs T X (e :: es) (ws ++ ws') (gsC g r) := by
  refine PGs.imp (pgs_cons h1 h2 hs) fun vs σ H Q ⟨w, σd, ds, e, co, eo, rv, P⟩ => ?_
  subst e
  cases ds with
  | nil => exact P.elim
  | cons d ds =>
    simp only [Reps] at rv
    obtain ⟨v, rs, rfl, r1, r2⟩ := rv
    refine ⟨v, rs, rfl, w, σd, d, rfl, co, eo, r1, ?_⟩
    unfold gsC at P
    simp only at P
    cases q : g d σd w.st with
    | none => rw [q] at P; exact P.elim
    | some q1 =>
      rw [q] at P
      intro w1 σ1 e1 s1 c1 eo1 l1 k1
      refine ⟨w1, q1.1, ds, rfl, c1, eo1, Reps.mono s1.s0 ds r2, ?_⟩
      rw [e1]
      cases q2 : r ds q1.1 q1.2 with
      | none => simp only [q2] at P; exact P.elim
      | some q3 =>
        simp only [q2] at P
        exact fun w2 σ2 e2 s2 c2 eo2 l2 k2 => P w2 σ2 e2 (s1.trans s2) c2 eo2 (l2.trans l1) fun j hj => (k2 j fun z => hj (List.mem_append_right _ z)).trans (k1 j fun z => hj (List.mem_append_left _ z))
theorem tgT {es : List Expr} {k : Nat} {n : Nat} (hc : X.calm = true) (h : SndGs T X es ws r) (hn : (assignEach es X.env).length = n) (hst : (assignEach es X.env).findIdx? (·.1) = none) (hr : ∀ ds σ st q, r ds σ st = some q → ds.length = n) : SndG T X (.Tuple es k pos) ws (gT r) := by
  refine PG.imp (pg_tup hc h hn hst) fun v σ H Q ⟨w, σd, d, e, co, eo, rv, P⟩ => ?_
  subst e
  unfold gT at P
  cases q : asT d with
  | none => rw [q] at P; exact P.elim
  | some ds =>
    rw [q] at P
    simp only at P
    obtain ⟨a, vs, rfl, h1, h2⟩ := asT_ok rv q
    have hl : ds.length = n := by
      cases q2 : r ds σd w.st with
      | none => rw [q2] at P; exact P.elim
      | some q3 => exact hr _ _ _ _ q2
    exact ⟨a, vs, rfl, SqT.of h1, h2.length.symm.trans hl, w, σd, ds, rfl, co, eo, h2, P⟩
theorem gs0_len : ∀ ds σ st q, gs0 ds σ st = some q → ds.length = 0 := fun ds σ st q h => by
  cases ds with
  | nil => rfl
  | cons _ _ => cases h
theorem gsC_len {n : Nat} (hr : ∀ ds σ st q, r ds σ st = some q → ds.length = n) : ∀ ds σ st q, gsC g r ds σ st = some q → ds.length = n + 1 := fun ds σ st q h => by
  cases ds with
  | nil => cases h
  | cons d ds =>
    unfold gsC at h
    simp only at h
    split at h
    · exact congrArg Nat.succ (hr _ _ _ _ h)
    · cases h
end
/-- target = value -/
def cAsg (g : SGt) (a : SE) : SS := fun σ st => (a σ st).st σ fun d st1 => match g d σ st1 with
  | some q => .nx q.1 q.2
  | none => .fail
section
variable {T : Tb} {W : WX} {X : Cx} {pos : Pos} {ws ws' : List Nat} {g : SGt} {ce : SE} {tg e : Expr}
theorem sAsg (he : SndE T W X e ce) (hg : SndG T X tg ws g) (hs : swapsWithSole [tg] e pos.line X.env = pure false) (hw : swappedStores [tg] e X.env = pure none) (h1 : (assignEach [tg] X.env).map (·.2) = [assign tg X.env]) :
    SndS T W X (.Assign [tg] e pos) (cAsg g ce) := by
  refine PS.imp (ps_asg he hg hs hw h1) fun D σ H ⟨w, σd, e, co, eo, P⟩ => ?_
  subst e
  refine ⟨w, σd, rfl, co, eo, (PostS.st eo P).imp fun d w1 s1 c1 K1 v rv => ?_⟩
  refine ⟨w1, σd, d, rfl, c1, eo.mono s1.s0, rv, ?_⟩
  cases q : g d σd w1.st with
  | none => simp only [q] at K1; exact K1.elim
  | some q1 =>
    simp only [q] at K1
    exact fun w2 σ2 e2 s2 c2 eo2 _ _ => K1 w2 σ2 e2 s2 c2 eo2
end

/-! ### iterables -/
def ItOk (T : Tb) (J : It) (w : Wd) (q : List D × Gs) : Prop := ∀ (w1 : Wd) (i : Nat), Stp0 w w1 → COk T w1 → chk q.2 w1.st = true →
  (∀ d, q.1[i]? = some d → J.go i w1.H ∧ ∀ (x : V) (H' : Hp), J.yld i w1.H x H' → ∃ w2 : Wd, w2.H = H' ∧ w2.st = w1.st ∧ Stp w1 w2 ∧ COk T w2 ∧ Rep T w2 d x) ∧ (q.1.length ≤ i → J.stop i w1.H)
def iS (T : Tb) (W : WX) (c : SI) : TI := fun σ H R => ∃ w σd, w.H = H ∧ COk T w ∧ EOk T w σd σ ∧ PostR T W σ (c σd w.st) w (fun ds w' => ∀ J, ItOk T J w' ds → R J w'.H)
abbrev SndI (T : Tb) (W : WX) (X : Cx) (tg iter : Expr) (c : SI) : Prop := PI X tg iter (iS T W c)
theorem PI.imp {X : Cx} {tg e : Expr} {t t' : TI} (h : PI X tg e t) (i : ∀ σ H R, t' σ H R → t σ H R) : PI X tg e t' := ⟨fun pins s σ H R I q => h.run pins s σ H R I (i _ _ _ q)⟩
/-- only lists -/
def itemsL (st : Stt) : D → Option (List D × Gs)
  | .lst xs => some (xs, [])
  | .scr ns => some (ns.map D.int, [])
  | .cel n => match st[n]? with
    | some (some (.lst xs)) => some (xs, [(n, xs)])
    | _ => none
  | _ => none
/-- a list or a tuple -/
def itemsQ (st : Stt) (d : D) : Option (List D × Gs) := match asT d with
  | some ds => some (ds, [])
  | none => itemsL st d
def iValL (a : SE) : SI := fun σ st => (a σ st).bind fun d st1 => match itemsQ st1 d with
  | some ds => .ok ds st1
  | none => .fail
def rngD (lo : Int) (n : Nat) : List D := (List.range n).map fun (i : Nat) => D.int (lo + (i : Int))
def iR1 (a : SE) : SI := fun σ st => (a σ st).bind fun d st1 => match d with
  | .int j => if -(2 ^ 62) ≤ j ∧ j < 2 ^ 62 then .ok (rngD 0 j.toNat, []) st1 else .fail
  | _ => .fail
def iR2 (a b : SE) : SI := fun σ st => (a σ st).bind fun d st1 => (b σ st1).bind fun e st2 => match d, e with
  | .int i, .int j => if -(2 ^ 62) ≤ i ∧ i < 2 ^ 62 ∧ -(2 ^ 62) ≤ j ∧ j < 2 ^ 62 then .ok (rngD i (j - i).toNat, []) st2 else .fail
  | _, _ => .fail
def iEn (a : SE) : SI := fun σ st => (a σ st).bind fun d st1 => match itemsL st1 d with
  | some q => .ok (q.1.zipIdx.map fun p => D.tup [.int (p.2 : Nat), p.1], q.2) st1
  | none => .fail
def zipT (x y : D) : Option (List D × Gs) := match asT x, asT y with
  | some xs, some ys => some ((xs.zip ys).map fun p => D.tup [p.1, p.2], [])
  | _, _ => none
def iZp (a b : SE) : SI := fun σ st => (a σ st).bind fun d st1 => (b σ st1).bind fun e st2 => match itemsL st2 d, itemsL st2 e with
  | some q, some r => .ok ((q.1.zip r.1).map fun p => D.tup [p.1, p.2], q.2 ++ r.2) st2
  | _, _ => match zipT d e with
    | some q => .ok q st2
    | none => .fail
section
variable {T : Tb} {W : WX} {X : Cx} {tg a b : Expr} {ca cb : SE} {p pos : Pos}
theorem scr_reps {w : Wd} (ns : List Int) : Reps T w (ns.map D.int) (ns.map V.int) := Reps.ints.mpr rfl
/-- a list that stands still -/
def Still (T : Tb) (K : PySem.W.Frag) (w : Wd) (a : Addr) (q : List D × Gs) : Prop := ∀ w1 : Wd, Stp0 w w1 → COk T w1 → chk q.2 w1.st = true → ∃ vs, SqL K w1.H a vs ∧ Reps T w1 q.1 vs
theorem itemsL_ok {w : Wd} {K : PySem.W.Frag} (hK : T.K = K) {st : Stt} {d : D} {v : V} {q : List D × Gs} (r : Rep T w d v) (h : itemsL st d = some q) : ∃ a, v = .ref a ∧ Still T K w a q := by
  unfold itemsL at h
  split at h
  · cases h
    rename_i xs
    have r0 := r
    simp only [Rep] at r
    obtain ⟨a, vs, rfl, _⟩ := r
    refine ⟨a, rfl, fun w1 s _ _ => ?_⟩
    have r1 := Rep.mono s _ r0
    simp only [Rep] at r1
    obtain ⟨a', us, e, h1, _, h2⟩ := r1
    cases e
    exact ⟨us, SqL.of h1, h2⟩
  · cases h
    rename_i ns
    have r0 := r
    obtain ⟨a, rfl, _⟩ := scr_sq r
    refine ⟨a, rfl, fun w1 s _ _ => ?_⟩
    obtain ⟨a', e, h1⟩ := scr_sq (Rep.mono s _ r0)
    cases e
    rw [hK] at h1
    exact ⟨_, h1, scr_reps ns⟩
  · rename_i n
    split at h
    · rename_i xs hx
      cases h
      simp only [Rep] at r
      obtain ⟨a, rfl, ha⟩ := r
      refine ⟨a, rfl, fun w1 s c hc => ?_⟩
      have h1 := chk_at hc List.mem_cons_self
      obtain ⟨vs, h2, h3⟩ := c.cell n _ a h1 (pre_get s.pre ha)
      exact ⟨vs, SqL.of h2, h3⟩
    · cases h
  · cases h
theorem itemsL_chk {st : Stt} {d : D} {q : List D × Gs} (h : itemsL st d = some q) : chk q.2 st = true := by
  unfold itemsL at h
  split at h
  · cases h; rfl
  · cases h; rfl
  · rename_i n
    split at h
    · rename_i xs hx
      cases h
      simp [chk, hx]
    · cases h
  · cases h
theorem itl_ok {w : Wd} {K : PySem.W.Frag} {a : Addr} {q : List D × Gs} (h : Still T K w a q) : ItOk T (Itl K a) w q := by
  intro w1 i s c hc
  obtain ⟨vs, hq, rs⟩ := h w1 s c hc
  refine ⟨fun d hd => ?_, fun hi => ⟨vs, hq, by rw [← rs.length]; exact hi⟩⟩
  obtain ⟨v, hv, rv⟩ := rs.get hd
  refine ⟨⟨vs, v, hq, hv⟩, fun x H' y => ?_⟩
  obtain ⟨rfl, y⟩ := y
  have e := (y vs hq).symm.trans hv
  cases e
  exact ⟨w1, rfl, rfl, .refl w1, c, rv⟩
theorem itt_ok {w : Wd} {K : PySem.W.Frag} {d : D} {v : V} {ds : List D} (r : Rep T w d v) (h : asT d = some ds) : ∃ a, v = .ref a ∧ (∃ vs, SqT K w.H a vs) ∧ ItOk T (Itt K a) w (ds, []) := by
  cases d with
  | tup xs =>
    cases h
    have r0 := r
    simp only [Rep] at r
    obtain ⟨a, vs, rfl, h0, _⟩ := r
    refine ⟨a, rfl, ⟨vs, SqT.of h0⟩, fun w1 i s c _ => ?_⟩
    have r1 := Rep.mono s _ r0
    simp only [Rep] at r1
    obtain ⟨a', us, e, h1, _, rs⟩ := r1
    cases e
    refine ⟨fun d hd => ?_, fun hi => ⟨us, SqT.of h1, by rw [← rs.length]; exact hi⟩⟩
    obtain ⟨v, hv, rv⟩ := rs.get hd
    refine ⟨⟨us, v, SqT.of h1, hv⟩, fun x H' y => ?_⟩
    obtain ⟨rfl, y⟩ := y
    have e := (y us (SqT.of h1)).symm.trans hv
    cases e
    exact ⟨w1, rfl, rfl, .refl w1, c, rv⟩
  | _ => cases h
/-- over a list or a tuple -/
theorem jValL (hK : T.K = X.K) (ha : SndE T W X a ca) : SndI T W X tg a (iValL ca) := by
  refine PI.imp (PI.or (pi_list ha) (pi_tup ha)) fun σ H R ⟨w, σd, e, co, eo, P⟩ => ?_
  subst e
  have P : PostR T W σ ((ca σd w.st).bind fun d st1 => match itemsQ st1 d with
    | some ds => .ok ds st1
    | none => .fail) w _ := P
  cases q : ca σd w.st with
  | fail => rw [q] at P; exact P.elim
  | exc c d st' => rw [q] at P; exact .inl ⟨w, σd, rfl, co, eo, by rw [q]; exact P⟩
  | ok d st' =>
    rw [q] at P
    have P0 : PostR T W σ (match itemsQ st' d with
      | some ds => .ok ds st'
      | none => .fail) w (fun ds w' => ∀ J, ItOk T J w' ds → R J w'.H) := P
    unfold itemsQ at P0
    cases q2 : asT d with
    | some ds =>
      rw [q2] at P0
      refine .inr ⟨w, σd, rfl, co, eo, ?_⟩
      rw [q]
      intro w1 e1 s1 c1 v rv
      obtain ⟨a, rfl, hs, ok⟩ := itt_ok (K := X.K) rv q2
      exact ⟨a, rfl, hs, P0 w1 e1 s1 c1 _ ok⟩
    | none =>
      rw [q2] at P0
      refine .inl ⟨w, σd, rfl, co, eo, ?_⟩
      rw [q]
      intro w1 e1 s1 c1 v rv
      subst e1
      cases q3 : itemsL w1.st d with
      | none => simp only [q3] at P0; exact P0.elim
      | some ds =>
        simp only [q3] at P0
        obtain ⟨a, rfl, st⟩ := itemsL_ok hK rv q3
        obtain ⟨vs, hq, _⟩ := st w1 (.refl w1) c1 (itemsL_chk q3)
        exact ⟨a, rfl, ⟨vs, hq⟩, P0 w1 rfl s1 c1 _ (itl_ok st)⟩
def iValT (a : SE) : SI := fun σ st => (a σ st).bind fun d st1 => match asT d with
  | some ds => .ok (ds, []) st1
  | none => .fail
/-- over a tuple -/
theorem jValT (ha : SndE T W X a ca) : SndI T W X tg a (iValT ca) := by
  refine PI.imp (pi_tup ha) fun σ H R ⟨w, σd, e, co, eo, P⟩ => ?_
  subst e
  refine ⟨w, σd, rfl, co, eo, P.bind.imp fun d w1 s1 c1 K1 v rv => ?_⟩
  split at K1
  · rename_i ds hd
    obtain ⟨a, rfl, hs, ok⟩ := itt_ok (K := X.K) rv hd
    exact ⟨a, rfl, hs, PostR.ok (K := fun ds w' => ∀ J, ItOk T J w' ds → R J w'.H) c1 K1 _ ok⟩
  · exact K1.elim
theorem rngD_len (lo : Int) (n : Nat) : (rngD lo n).length = n := by simp [rngD]
theorem rngD_get (lo : Int) (n i : Nat) {d : D} (h : (rngD lo n)[i]? = some d) : i < n ∧ d = .int (lo + i) := by
  unfold rngD at h
  rw [List.getElem?_map] at h
  by_cases hi : i < n
  · rw [List.getElem?_range hi] at h
    cases h
    exact ⟨hi, rfl⟩
  · rw [List.getElem?_eq_none (by rw [List.length_range]; omega)] at h
    cases h
theorem itr_ok {w : Wd} (lo : Int) (n : Nat) : ItOk T (Itr lo n) w (rngD lo n, []) := by
  intro w1 i s c _
  refine ⟨fun d hd => ?_, fun hi => by rw [rngD_len] at hi; exact hi⟩
  obtain ⟨hi, rfl⟩ := rngD_get lo n i hd
  refine ⟨hi, fun x H' y => ?_⟩
  obtain ⟨rfl, rfl⟩ := y
  exact ⟨w1, rfl, rfl, .refl w1, c, rep_i _⟩
theorem jR1 (hg : Gl X "range") (hm : X.mg "range" = none) (ha : SndE T W X a ca) (hs : starEach [a] X.env = (false, eval a X.env) :: starEach [] X.env) (hs' : starEach [a] X.env = [(false, eval a X.env)]) : SndI T W X tg (.Call (.Name "range" p) [a] [] pos) (iR1 ca) := by
  refine PI.imp (pi_range1 hg hm (pa_cons ha pa_nil hs) hs') fun σ H R ⟨w, σd, e, co, eo, P⟩ => ?_
  subst e
  refine ⟨w, σd, rfl, co, eo, P.bind.imp fun d w1 s1 c1 K1 v rv => ?_⟩
  cases d with
  | int j =>
    simp only at K1
    split at K1
    · rename_i hj
      exact ⟨j, by rw [rep_int rv], hj.1, hj.2, PostR.ok (K := fun ds w' => ∀ J, ItOk T J w' ds → R J w'.H) c1 K1 _ (itr_ok 0 j.toNat)⟩
    · exact K1.elim
  | _ => exact K1.elim
theorem jR2 (hg : Gl X "range") (hm : X.mg "range" = none) (ha : SndE T W X a ca) (hb : SndE T W X b cb) (h1 : starEach [a, b] X.env = (false, eval a X.env) :: starEach [b] X.env) (h2 : starEach [b] X.env = (false, eval b X.env) :: starEach [] X.env)
    (hs : starEach [a, b] X.env = [(false, eval a X.env), (false, eval b X.env)]) (hs2 : starEach [b] X.env = [(false, eval b X.env)]) : SndI T W X tg (.Call (.Name "range" p) [a, b] [] pos) (iR2 ca cb) := by
  refine PI.imp (pi_range2 hg hm (pa_cons ha (pa_cons hb pa_nil h2) h1) hs hs2) fun σ H R ⟨w, σd, e, co, eo, P⟩ => ?_
  subst e
  refine ⟨w, σd, rfl, co, eo, P.bind.imp fun d w1 s1 c1 K1 v rv => ?_⟩
  refine ⟨w1, σd, rfl, c1, eo.mono s1.s0, K1.bind.imp fun d2 w2 s2 c2 K2 u ru => ?_⟩
  cases d with
  | int i =>
    cases d2 with
    | int j =>
      simp only at K2
      split at K2
      · rename_i hj
        exact ⟨i, j, by rw [rep_int rv, rep_int ru], hj, PostR.ok (K := fun ds w' => ∀ J, ItOk T J w' ds → R J w'.H) c2 K2 _ (itr_ok i (j - i).toNat)⟩
      · exact K2.elim
    | _ => exact K2.elim
  | _ => exact K2.elim
theorem jEn (hK : T.K = X.K) {elts : List Expr} {kk : Nat} {tpos : Pos} (hg : Gl X "enumerate") (hm : X.mg "enumerate" = none) (ha : SndE T W X a ca) (hs : starEach [a] X.env = (false, eval a X.env) :: starEach [] X.env) (hs' : starEach [a] X.env = [(false, eval a X.env)]) : SndI T W X (.Tuple elts kk tpos) (.Call (.Name "enumerate" p) [a] [] pos) (iEn ca) := by
  refine PI.imp (pi_enum hg hm (pa_cons ha pa_nil hs) hs') fun σ H R ⟨w, σd, e, co, eo, P⟩ => ?_
  subst e
  refine ⟨w, σd, rfl, co, eo, P.bind.imp fun d w1 s1 c1 K1 v rv => ?_⟩
  split at K1
  · rename_i ds hd
    obtain ⟨a, rfl, st⟩ := itemsL_ok hK rv hd
    obtain ⟨vs, hq, _⟩ := st w1 (.refl w1) c1 (itemsL_chk hd)
    refine ⟨a, vs, rfl, hq, PostR.ok (K := fun ds w' => ∀ J, ItOk T J w' ds → R J w'.H) c1 K1 _ fun w2 i s c hc => ?_⟩
    obtain ⟨us, hq2, rs⟩ := st w2 s c hc
    refine ⟨fun d2 hd2 => ?_, fun hi => ⟨us, hq2, by rw [← rs.length]; simpa using hi⟩⟩
    rw [List.getElem?_map, List.getElem?_zipIdx] at hd2
    cases q : ds.1[i]? with
    | none => rw [q] at hd2; cases hd2
    | some d3 =>
      rw [q] at hd2
      simp only [Option.map_some, Nat.zero_add] at hd2
      cases hd2
      obtain ⟨v3, hv3, rv3⟩ := rs.get q
      refine ⟨⟨us, v3, hq2, hv3⟩, fun x H' y => ?_⟩
      obtain ⟨Tp, x3, rfl, hT, rfl, y⟩ := y
      have e := (y us hq2).symm.trans hv3
      cases e
      have s3 := alloc_stp c hT (.tup [V.int i, v3])
      refine ⟨{ w2 with H := upd w2.H Tp (.tup [V.int i, v3]) }, rfl, rfl, s3, alloc_ok c hT _, ?_⟩
      simp only [Rep]
      exact ⟨Tp, _, rfl, upd_same, alloc_live c hT _, .cons (rep_i _) (.one (Rep.mono s3.s0 _ rv3))⟩
  · exact K1.elim
theorem jZp (hK : T.K = X.K) {elts : List Expr} {kk : Nat} {tpos : Pos} (hg : Gl X "zip") (hm : X.mg "zip" = none) (ha : SndE T W X a ca) (hb : SndE T W X b cb) (h1 : starEach [a, b] X.env = (false, eval a X.env) :: starEach [b] X.env) (h2 : starEach [b] X.env = (false, eval b X.env) :: starEach [] X.env)
    (hp : (backTo pos (starEach [b] X.env)).any (fun x => x.1) = false) : SndI T W X (.Tuple elts kk tpos) (.Call (.Name "zip" p) [a, b] [] pos) (iZp ca cb) := by
  refine PI.imp (RZ.pi_zipA hg hm (pa_cons ha (pa_cons hb pa_nil h2) h1) h1 hp) fun σ H R ⟨w, σd, e, co, eo, P⟩ => ?_
  subst e
  refine ⟨w, σd, rfl, co, eo, P.bind.imp fun d w1 s1 c1 K1 v rv => ?_⟩
  refine ⟨w1, σd, rfl, c1, eo.mono s1.s0, K1.bind.imp fun d2 w2 s2 c2 K2 u ru => ?_⟩
  split at K2
  · rename_i xs ys hx hy
    obtain ⟨a, rfl, st1⟩ := itemsL_ok hK (Rep.mono s2.s0 _ rv) hx
    obtain ⟨b, rfl, st2⟩ := itemsL_ok hK ru hy
    obtain ⟨vs, hq1, _⟩ := st1 w2 (.refl w2) c2 (itemsL_chk hx)
    obtain ⟨us, hq2, _⟩ := st2 w2 (.refl w2) c2 (itemsL_chk hy)
    refine ⟨a, b, vs, us, rfl, .inl ⟨hq1, hq2, PostR.ok (K := fun ds w' => ∀ J, ItOk T J w' ds → R J w'.H) c2 K2 _ fun w3 i s c hc => ?_⟩⟩
    obtain ⟨vs3, hq1, rs1⟩ := st1 w3 s c (chk_append hc).1
    obtain ⟨us3, hq2, rs2⟩ := st2 w3 s c (chk_append hc).2
    refine ⟨fun d2 hd2 => ?_, fun hi => ⟨vs3, us3, hq1, hq2, ?_⟩⟩
    · rw [List.getElem?_map] at hd2
      cases q : (xs.1.zip ys.1)[i]? with
      | none => rw [q] at hd2; cases hd2
      | some d3 =>
        rw [q] at hd2
        cases hd2
        obtain ⟨q1, q2⟩ := List.getElem?_zip_eq_some.mp q
        obtain ⟨z1, hz1, rz1⟩ := rs1.get q1
        obtain ⟨z2, hz2, rz2⟩ := rs2.get q2
        refine ⟨⟨vs3, us3, z1, z2, hq1, hq2, hz1, hz2⟩, fun x H' y => ?_⟩
        obtain ⟨Tp, x3, y3, rfl, hT, rfl, y1, y2⟩ := y
        have e1 := (y1 vs3 hq1).symm.trans hz1
        have e2 := (y2 us3 hq2).symm.trans hz2
        cases e1
        cases e2
        have s3 := alloc_stp c hT (.tup [z1, z2])
        refine ⟨{ w3 with H := upd w3.H Tp (.tup [z1, z2]) }, rfl, rfl, s3, alloc_ok c hT _, ?_⟩
        simp only [Rep]
        exact ⟨Tp, _, rfl, upd_same, alloc_live c hT _, .cons (Rep.mono s3.s0 _ rz1) (.one (Rep.mono s3.s0 _ rz2))⟩
    · rw [List.length_map, List.length_zip] at hi
      rw [← rs1.length, ← rs2.length]
      omega
  · split at K2
    · rename_i q hq
      unfold zipT at hq
      split at hq
      · rename_i xs ys hx hy
        cases hq
        have rx := Rep.mono s2.s0 _ rv
        obtain ⟨a, vs, rfl, h1, r1⟩ := asT_ok rx hx
        obtain ⟨b, us, rfl, h2, r2⟩ := asT_ok ru hy
        have sx : ∀ w1 : Wd, Stp0 w2 w1 → ∃ vs, SqT X.K w1.H a vs ∧ Reps T w1 xs vs := fun w1 s => by
          obtain ⟨a', vs', e, h, r⟩ := asT_ok (Rep.mono s _ rx) hx
          cases e
          exact ⟨vs', SqT.of h, r⟩
        have sy : ∀ w1 : Wd, Stp0 w2 w1 → ∃ vs, SqT X.K w1.H b vs ∧ Reps T w1 ys vs := fun w1 s => by
          obtain ⟨a', vs', e, h, r⟩ := asT_ok (Rep.mono s _ ru) hy
          cases e
          exact ⟨vs', SqT.of h, r⟩
        refine ⟨a, b, vs, us, rfl, .inr ⟨SqT.of h1, SqT.of h2, PostR.ok (K := fun ds w' => ∀ J, ItOk T J w' ds → R J w'.H) c2 K2 _ fun w3 i s c _ => ?_⟩⟩
        obtain ⟨vs3, hq1, rs1⟩ := sx w3 s
        obtain ⟨us3, hq2, rs2⟩ := sy w3 s
        refine ⟨fun d2 hd2 => ?_, fun hi => ⟨vs3, us3, hq1, hq2, ?_⟩⟩
        · rw [List.getElem?_map] at hd2
          cases q : (xs.zip ys)[i]? with
          | none => rw [q] at hd2; cases hd2
          | some d3 =>
            rw [q] at hd2
            cases hd2
            obtain ⟨q1, q2⟩ := List.getElem?_zip_eq_some.mp q
            obtain ⟨z1, hz1, rz1⟩ := rs1.get q1
            obtain ⟨z2, hz2, rz2⟩ := rs2.get q2
            refine ⟨⟨vs3, us3, z1, z2, hq1, hq2, hz1, hz2⟩, fun x H' y => ?_⟩
            obtain ⟨Tp, x3, y3, rfl, hT, rfl, y1, y2⟩ := y
            have e1 := (y1 vs3 hq1).symm.trans hz1
            have e2 := (y2 us3 hq2).symm.trans hz2
            cases e1
            cases e2
            have s3 := alloc_stp c hT (.tup [z1, z2])
            refine ⟨{ w3 with H := upd w3.H Tp (.tup [z1, z2]) }, rfl, rfl, s3, alloc_ok c hT _, ?_⟩
            simp only [Rep]
            exact ⟨Tp, _, rfl, upd_same, alloc_live c hT _, .cons (Rep.mono s3.s0 _ rz1) (.one (Rep.mono s3.s0 _ rz2))⟩
        · rw [List.length_map, List.length_zip] at hi
          rw [← rs1.length, ← rs2.length]
          omega
      · cases hq
    · exact K2.elim
end

/-! ### loops -/
def forGo (gs : Gs) (g : SGt) (body : SS) : List D → Ev → Stt → RS
  | [], σ, st => if chk gs st = true then .nx σ st else .fail
  | d :: ds, σ, st => if chk gs st = true then match g d σ st with
    | some q => match body q.1 q.2 with
      | .nx σ2 st2 => forGo gs g body ds σ2 st2
      | .ct σ2 st2 => forGo gs g body ds σ2 st2
      | .bk σ2 st2 => .nx σ2 st2
      | r => r
    | none => .fail else .fail
def cFor (it : SI) (g : SGt) (body : SS) : SS := fun σ st => (it σ st).st σ fun q st1 => forGo q.2 g body q.1 σ st1
def whGo (t : SB) (body : SS) : Nat → Ev → Stt → RS
  | 0, _, _ => .fail
  | n + 1, σ, st => (t σ st).st σ fun k st1 => if k = true then match body σ st1 with
      | .nx σ2 st2 => whGo t body n σ2 st2
      | .ct σ2 st2 => whGo t body n σ2 st2
      | .bk σ2 st2 => .nx σ2 st2
      | r => r
    else .nx σ st1
def cWh (n : Nat) (t : SB) (body : SS) : SS := fun σ st => whGo t body n σ st
section
variable {T : Tb} {W : WX} {X : Cx} {tg iter c : Expr} {body : List Stmt} {ci : SI} {ws : List Nat} {g : SGt} {cb : SS} {ct : SB} {pos : Pos}
theorem sFor (hp : PassesOwn (model X.prog X.w) X.A X.env X.xe) (hc : X.calm = true) (hi : SndI T W X tg iter ci) (hg : SndG T X tg ws g) (hb : SndB T W X body cb) (hs : ∀ x, foldedSetIterable iter X.env x = pure x) :
    SndS T W X (.For tg iter body [] pos) (cFor ci g cb) := by
  refine PS.imp (ps_for hp hc hi hg hb hs) fun D σ H ⟨w, σd, e, co, eo, P⟩ => ?_
  subst e
  refine ⟨w, σd, rfl, co, eo, (PostS.st eo P).imp fun q0 w1 s1 c1 K1 J ok => ?_⟩
  obtain ⟨ds, gs⟩ := q0
  refine ⟨fun i m σ H => ∃ w2 σd2, w2.H = H ∧ Stp w1 w2 ∧ COk T w2 ∧ EOk T w2 σd2 σ ∧ m = ds.length - i ∧ i ≤ ds.length ∧ PostS T W (forGo gs g cb (ds.drop i) σd2 w2.st) w2 D, ⟨ds.length, w1, σd, rfl, .refl w1, c1, eo.mono s1.s0, by simp, Nat.zero_le _, K1⟩, ?_⟩
  rintro i m σ2 H2 ⟨w2, σd2, rfl, s2, c2, eo2, rfl, hi, P2⟩
  by_cases hlt : i < ds.length
  · have hd : ds[i]? = some ds[i] := List.getElem?_eq_getElem hlt
    have e : ds.drop i = ds[i] :: ds.drop (i + 1) := List.drop_eq_getElem_cons hlt
    rw [e] at P2
    unfold forGo at P2
    have hck : chk gs w2.st = true := by
      by_cases hck : chk gs w2.st = true
      · exact hck
      · rw [if_neg hck] at P2
        exact P2.elim
    rw [if_pos hck] at P2
    obtain ⟨o1, o2⟩ := ok w2 i s2.s0 c2 hck
    obtain ⟨go, yl⟩ := o1 _ hd
    refine .inr ⟨go, fun σ' H' => ∃ w3 σd3, w3.H = H' ∧ Stp w1 w3 ∧ COk T w3 ∧ EOk T w3 σd3 σ' ∧ PostS T W (forGo gs g cb (ds.drop (i + 1)) σd3 w3.st) w3 D, fun σ' H' ⟨w3, σd3, e3, s3, c3, eo3, P3⟩ => ⟨ds.length - (i + 1), by omega, w3, σd3, e3, s3, c3, eo3, rfl, hlt, P3⟩, fun x H' y => ?_⟩
    obtain ⟨w3, rfl, e3, s3, c3, r3⟩ := yl x H' y
    refine ⟨w3, σd2, ds[i], rfl, c3, eo2.mono s3.s0, r3, ?_⟩
    rw [e3]
    cases q : g ds[i] σd2 w2.st with
    | none => rw [q] at P2; exact P2.elim
    | some q1 =>
      rw [q] at P2
      simp only at P2
      intro w4 σ4 e4 s4 c4 eo4 _ _
      refine ⟨w4, q1.1, rfl, c4, eo4, ?_⟩
      rw [e4]
      have sT := s3.trans s4
      cases q2 : cb q1.1 q1.2 with
      | nx σ5 st5 =>
        rw [q2] at P2
        exact fun w5 σ' e5 s5 c5 eo5 => ⟨w5, σ5, rfl, (s2.trans sT).trans s5, c5, eo5, by rw [e5]; exact PostS.step (sT.trans s5) P2⟩
      | ct σ5 st5 =>
        rw [q2] at P2
        exact fun w5 σ' e5 s5 c5 eo5 => ⟨w5, σ5, rfl, (s2.trans sT).trans s5, c5, eo5, by rw [e5]; exact PostS.step (sT.trans s5) P2⟩
      | bk σ5 st5 =>
        rw [q2] at P2
        exact fun w5 σ' e5 s5 c5 eo5 => P2 w5 σ' e5 (sT.trans s5) c5 eo5
      | rt d st5 =>
        rw [q2] at P2
        exact PostS.step (r := .rt d st5) sT P2
      | exc k d σ5 st5 =>
        rw [q2] at P2
        exact PostS.step (r := .exc k d σ5 st5) sT P2
      | fail => rw [q2] at P2; exact P2.elim
  · have ei : i = ds.length := by omega
    subst ei
    rw [List.drop_length] at P2
    unfold forGo at P2
    have hck : chk gs w2.st = true := by
      by_cases hck : chk gs w2.st = true
      · exact hck
      · rw [if_neg hck] at P2
        exact P2.elim
    rw [if_pos hck] at P2
    obtain ⟨o1, o2⟩ := ok w2 _ s2.s0 c2 hck
    exact .inl ⟨o2 (Nat.le_refl _), P2 w2 σ2 rfl (.refl w2) c2 eo2⟩
theorem sWh (n : Nat) (hp : PassesOwn (model X.prog X.w) X.A X.env X.xe) (hc : SndT T W X c ct) (hb : SndB T W X body cb) : SndS T W X (.While c body [] pos) (cWh n ct cb) := by
  refine PS.imp (ps_while hp hc hb) fun D σ H ⟨w, σd, e, co, eo, P⟩ => ?_
  subst e
  refine ⟨fun m σ H => ∃ w2 σd2, w2.H = H ∧ COk T w2 ∧ EOk T w2 σd2 σ ∧ PostS T W (whGo ct cb m σd2 w2.st) w2 D, ⟨n, w, σd, rfl, co, eo, P⟩, ?_⟩
  rintro m σ2 H2 ⟨w2, σd2, rfl, c2, eo2, P2⟩
  cases m with
  | zero => exact P2.elim
  | succ m =>
    unfold whGo at P2
    refine ⟨w2, σd2, rfl, c2, eo2, (PostS.st eo2 P2).imp fun k w3 s3 c3 K3 => ?_⟩
    cases k with
    | false => exact K3 w3 σ2 rfl (.refl w3) c3 (eo2.mono s3.s0)
    | true =>
      simp only [if_true] at K3 ⊢
      refine ⟨fun σ' H' => ∃ w4 σd4, w4.H = H' ∧ COk T w4 ∧ EOk T w4 σd4 σ' ∧ PostS T W (whGo ct cb m σd4 w4.st) w4 D, fun σ' H' h => ⟨m, Nat.lt_succ_self m, h⟩, w3, σd2, rfl, c3, eo2.mono s3.s0, ?_⟩
      cases q2 : cb σd2 w3.st with
      | nx σ5 st5 =>
        rw [q2] at K3
        exact fun w5 σ' e5 s5 c5 eo5 => ⟨w5, σ5, rfl, c5, eo5, by rw [e5]; exact PostS.step s5 K3⟩
      | ct σ5 st5 =>
        rw [q2] at K3
        exact fun w5 σ' e5 s5 c5 eo5 => ⟨w5, σ5, rfl, c5, eo5, by rw [e5]; exact PostS.step s5 K3⟩
      | bk σ5 st5 => rw [q2] at K3; exact K3
      | rt d st5 => rw [q2] at K3; exact K3
      | exc k d σ5 st5 => rw [q2] at K3; exact K3
      | fail => rw [q2] at K3; exact K3.elim
end
end MP


/-! MpComp: list comprehensions. -/
namespace MP
open PySem PySem.Spec PyProof.Rows L2

def W0 : WX := fun _ _ _ _ => False
def wipeD (σ : Ev) : List Nat → Ev
  | [] => σ
  | v :: vs => (wipeD σ vs).set v none
def lcGo (gs : Gs) (g : SGt) (tt : SB) (elt : SE) (σ : Ev) : List D → Stt → Option (List D × Stt)
  | [], st => if chk gs st = true then some ([], st) else none
  | d :: ds, st => if chk gs st = true then match g d σ st with
    | some q => match tt q.1 q.2 with
      | .ok true st1 => match elt q.1 st1 with
        | .ok x st2 => match lcGo gs g tt elt σ ds st2 with
          | some r => some (x :: r.1, r.2)
          | none => none
        | _ => none
      | .ok false st1 => lcGo gs g tt elt σ ds st1
      | _ => none
    | none => none else none
def cLc (k : Bool) (it : SI) (vs : List Nat) (g : SGt) (tt : SB) (elt : SE) : SE := fun σ st => (it σ st).bind fun q st1 => match lcGo q.2 g tt elt (wipeD σ vs) q.1 st1 with
  | some r => fin k (if r.1.length ≤ sizeLine then some (.l r.1) else none) r.2
  | none => .fail
def cYes : SB := fun _ st => .ok true st
abbrev SndTs (T : Tb) (W : WX) (X : Cx) (ifs : List Expr) (c : SB) : Prop := PTs X ifs (tT T W c)
section
variable {T : Tb}
theorem wipe_eok {w : Wd} {σd : Ev} {σ : L2.St} (e : EOk T w σd σ) : ∀ vs : List Nat, EOk T w (wipeD σd vs) (wipe σ vs)
  | [] => e
  | v :: vs => by
    have ih := wipe_eok e vs
    refine ⟨by show ((wipeD σd vs).set v none).length = ((wipe σ vs).set v none).length; rw [List.length_set, List.length_set]; exact ih.len, fun i d h => ?_⟩
    have h : ((wipeD σd vs).set v none)[i]? = some (some d) := h
    by_cases hv : v = i
    · subst hv
      by_cases hl : v < (wipeD σd vs).length
      · rw [List.getElem?_set_self hl] at h; cases h
      · rw [List.getElem?_eq_none (by rw [List.length_set]; omega)] at h; cases h
    · rw [List.getElem?_set_ne hv] at h
      obtain ⟨u, h1, h2⟩ := ih.at_ i d h
      exact ⟨u, by show ((wipe σ vs).set v none)[i]? = _; rw [List.getElem?_set_ne hv]; exact h1, h2⟩
theorem wipe_in {σ : L2.St} {i : Nat} : ∀ {vs : List Nat}, i ∈ vs → i < σ.length → (wipe σ vs)[i]? = some none
  | v :: vs, h, hl => by
    show ((wipe σ vs).set v none)[i]? = _
    by_cases e : v = i
    · subst e
      exact List.getElem?_set_self (by rw [wipe_length]; exact hl)
    · rw [List.getElem?_set_ne e]
      exact wipe_in ((List.mem_cons.mp h).resolve_left fun z => e z.symm) hl
theorem wipe_same {σ σ' : L2.St} {vs ws : List Nat} (hs : ∀ i ∈ ws, i ∈ vs) (hl : σ'.length = (wipe σ vs).length) (k : ∀ j, j ∉ ws → σ'[j]? = (wipe σ vs)[j]?) : wipe σ' vs = wipe σ vs := by
  apply List.ext_getElem?
  intro j
  by_cases hj : j ∈ vs
  · by_cases hlt : j < σ.length
    · rw [wipe_in hj hlt, wipe_in hj (by rw [hl, wipe_length]; exact hlt)]
    · rw [List.getElem?_eq_none (by rw [wipe_length, hl, wipe_length]; omega), List.getElem?_eq_none (by rw [wipe_length]; omega)]
  · rw [wipe_out hj]
    exact k j fun h => hj (hs j h)
theorem pts0 {X : Cx} {W : WX} : SndTs T W X [] cYes := ⟨fun pins s σ H Q I ⟨w, σd, e, co, eo, P⟩ => by
  subst e
  exact pts_nil.run pins s σ w.H Q I (PostR.okB co P)⟩
theorem pts1 {X : Cx} {W : WX} {c : Expr} {ct : SB} (h : SndT T W X c ct) : SndTs T W X [c] ct := pts_one h

/-- the reading of a comprehension -/
theorem lc_read {W : WX} {ci : SI} {vs ws : List Nat} {g : SGt} {tt : SB} {elt : SE} {k : Bool} {σ : L2.St} {Q : VK} (hs : ∀ i ∈ ws, i ∈ vs) {w : Wd} {σd : Ev} (co : COk T w) (eo : EOk T w σd σ)
    (P : PostR T W σ (cLc k ci vs g tt elt σd w.st) w (KD T Q)) : tLc (iS T W ci) (tG T ws g) (tT T W0 tt) (tE T W0 elt) vs σ w.H Q := by
  refine ⟨w, σd, rfl, co, eo, P.bind.imp fun q0 w1 s1 c1 K1 J ok => fun Dd hD => ?_⟩
  obtain ⟨ds, gs⟩ := q0
  have eo1 := eo.mono s1.s0
  have hDh : Dd ∉ w1.hid := fun h => by
    obtain ⟨⟨x, e⟩, _⟩ := c1.hid Dd h
    rw [hD] at e
    cases e
  have hDc : ¬ CellL w1.ρ w1.st Dd := fun h => c1.fresh hD (.inl h)
  -- what is to come of acc and the rest
  let FIN : List D → Option (List D × Stt) → Prop := fun acc r => match r with
    | some q => PostR T W σ (fin k (if (acc ++ q.1).length ≤ sizeLine then some (.l (acc ++ q.1)) else none) q.2) w1 (KD T Q)
    | none => False
  have F0 : FIN [] (lcGo gs g tt elt (wipeD σd vs) ds w1.st) := by
    show (match lcGo gs g tt elt (wipeD σd vs) ds w1.st with
      | some q => PostR T W σ (fin k (if ([] ++ q.1).length ≤ sizeLine then some (.l ([] ++ q.1)) else none) q.2) w1 (KD T Q)
      | none => False)
    cases q : lcGo gs g tt elt (wipeD σd vs) ds w1.st with
    | none => rw [q] at K1; exact K1
    | some r => rw [q] at K1; exact K1
  refine ⟨fun i m H => ∃ (w2 : Wd) (acc : List D) (us : List V), w2.H = H ∧ w2.hid = Dd :: w1.hid ∧ Stp0 w1 w2 ∧ (∀ a ∈ w1.hid, w2.H a = w1.H a) ∧ COk T w2 ∧ w2.H Dd = some (.lst us) ∧ Reps T w2 acc us ∧ m = ds.length - i ∧ i ≤ ds.length ∧ FIN acc (lcGo gs g tt elt (wipeD σd vs) (ds.drop i) w2.st), ⟨ds.length, { w1 with H := upd w1.H Dd (.lst []), hid := Dd :: w1.hid }, [], [], rfl, rfl, ?_, ?_, ?_, upd_same, .nil, by simp, Nat.zero_le _, F0⟩, ?_⟩
  · refine ⟨List.prefix_refl _, fun a o h n => ?_⟩
    have hne : a ≠ Dd := ne_of_none h hD
    refine ⟨(upd_ne hne).trans h, ?_⟩
    rintro (q | q)
    · exact n (.inl q)
    · rcases List.mem_cons.mp q with q | q
      · exact hne q
      · exact n (.inr q)
  · intro a ha
    exact upd_ne fun e => hDh (e ▸ ha)
  · have s0 : Stp0 w1 { w1 with H := upd w1.H Dd (.lst []), hid := Dd :: w1.hid } := by
      refine ⟨List.prefix_refl _, fun a o h n => ?_⟩
      have hne : a ≠ Dd := ne_of_none h hD
      refine ⟨(upd_ne hne).trans h, ?_⟩
      rintro (q | q)
      · exact n (.inl q)
      · rcases List.mem_cons.mp q with q | q
        · exact hne q
        · exact n (.inr q)
    refine ⟨c1.len, c1.inj, fun n o a h1 h2 => ?_, fun a ha => ?_⟩
    · have r := c1.cell n o a h1 h2
      obtain ⟨x, e⟩ := r.some
      exact r.mono s0 (upd_ne (ne_of_none e hD))
    · rcases List.mem_cons.mp ha with rfl | ha
      · exact ⟨⟨_, upd_same⟩, hDc⟩
      · obtain ⟨⟨x, e⟩, h2⟩ := c1.hid a ha
        exact ⟨⟨x, (upd_ne (ne_of_none e hD)).trans e⟩, h2⟩
  · rintro i m H2 ⟨w2, acc, us, rfl, hh, s2, hk2, c2, hDu, ra, rfl, hi, F2⟩
    have hDm : Dd ∈ w2.hid := by rw [hh]; exact List.mem_cons_self
    by_cases hlt : i < ds.length
    · have hd : ds[i]? = some ds[i] := List.getElem?_eq_getElem hlt
      have e : ds.drop i = ds[i] :: ds.drop (i + 1) := List.drop_eq_getElem_cons hlt
      rw [e] at F2
      unfold lcGo at F2
      have hck : chk gs w2.st = true := by
        by_cases hck : chk gs w2.st = true
        · exact hck
        · rw [if_neg hck] at F2
          exact F2.elim
      rw [if_pos hck] at F2
      obtain ⟨o1, o2⟩ := ok w2 i s2 c2 hck
      obtain ⟨go, yl⟩ := o1 _ hd
      refine .inr ⟨go, fun H' => ∃ (w3 : Wd) (acc : List D) (us : List V), w3.H = H' ∧ w3.hid = Dd :: w1.hid ∧ Stp0 w1 w3 ∧ (∀ a ∈ w1.hid, w3.H a = w1.H a) ∧ COk T w3 ∧ w3.H Dd = some (.lst us) ∧ Reps T w3 acc us ∧ FIN acc (lcGo gs g tt elt (wipeD σd vs) (ds.drop (i + 1)) w3.st),
        fun H' ⟨w3, acc, us, e3, hh3, s3, hk3, c3, hD3, r3, F3⟩ => ⟨ds.length - (i + 1), by omega, w3, acc, us, e3, hh3, s3, hk3, c3, hD3, r3, rfl, hlt, F3⟩, fun x H' y => ?_⟩
      obtain ⟨w3, rfl, e3, s3, c3, r3⟩ := yl x H' y
      refine ⟨w3, wipeD σd vs, ds[i], rfl, c3, (wipe_eok (eo1.mono s2) vs).mono s3.s0, r3, ?_⟩
      rw [e3]
      cases q : g ds[i] (wipeD σd vs) w2.st with
      | none => rw [q] at F2; exact F2.elim
      | some q1 =>
        rw [q] at F2
        simp only at F2
        intro w4 σ4 e4 s4 c4 eo4 l4 k4
        refine ⟨wipe_same hs l4 k4, ?_⟩
        have s24 := s3.trans s4
        refine ⟨w4, q1.1, rfl, c4, eo4, ?_⟩
        rw [e4]
        cases q2 : tt q1.1 q1.2 with
        | fail => rw [q2] at F2; exact F2.elim
        | exc _ _ _ => rw [q2] at F2; exact F2.elim
        | ok b st5 =>
          rw [q2] at F2
          intro w5 e5 s5 c5
          have s25 := s24.trans s5
          cases b with
          | false =>
            simp only [KB, Bool.false_eq_true, if_false] at F2 ⊢
            refine ⟨w5, acc, us, rfl, s25.hid.trans hh, s2.trans s25.s0, fun a ha => (s25.hk a (by rw [hh]; exact List.mem_cons_of_mem _ ha)).trans (hk2 a ha), c5, (s25.hk Dd hDm).trans hDu, Reps.mono s25.s0 _ ra, ?_⟩
            rw [e5]
            exact F2
          | true =>
            simp only [KB, if_true] at F2 ⊢
            refine ⟨w5, q1.1, rfl, c5, eo4.mono s5.s0, ?_⟩
            rw [e5]
            cases q3 : elt q1.1 st5 with
            | fail => rw [q3] at F2; exact F2.elim
            | exc _ _ _ => rw [q3] at F2; exact F2.elim
            | ok z st6 =>
              rw [q3] at F2
              intro w6 e6 s6 c6 v rv
              have s26 := s25.trans s6
              have hD6 : w6.H Dd = some (.lst us) := (s26.hk Dd hDm).trans hDu
              have hh6 : w6.hid = Dd :: w1.hid := s26.hid.trans hh
              have hlt2 : acc.length < sizeLine ∧ FIN (acc ++ [z]) (lcGo gs g tt elt (wipeD σd vs) (ds.drop (i + 1)) st6) := by
                simp only at F2
                cases q4 : lcGo gs g tt elt (wipeD σd vs) (ds.drop (i + 1)) st6 with
                | none => rw [q4] at F2; exact F2.elim
                | some r =>
                  rw [q4] at F2
                  have F2 : PostR T W σ (fin k (if (acc ++ z :: r.1).length ≤ sizeLine then some (.l (acc ++ z :: r.1)) else none) r.2) w1 (KD T Q) := F2
                  have ea : acc ++ z :: r.1 = acc ++ [z] ++ r.1 := by simp
                  refine ⟨?_, ?_⟩
                  · by_cases hz : (acc ++ z :: r.1).length ≤ sizeLine
                    · rw [List.length_append, List.length_cons] at hz
                      omega
                    · rw [if_neg hz] at F2
                      exact F2.elim
                  · show PostR T W σ (fin k (if (acc ++ [z] ++ r.1).length ≤ sizeLine then some (.l (acc ++ [z] ++ r.1)) else none) r.2) w1 (KD T Q)
                    rw [← ea]
                    exact F2
              have ha6 : acc.length = us.length := ra.length
              refine ⟨us, hD6, by rw [← ha6]; exact hlt2.1, { w6 with H := upd w6.H Dd (.lst (us ++ [v])) }, acc ++ [z], us ++ [v], rfl, hh6, ?_, fun a ha => ?_, ?_, upd_same, ?_, ?_⟩
              · refine (s2.trans s26.s0).trans ⟨List.prefix_refl _, fun a o h n => ⟨(upd_ne fun e => n (.inr (by rw [e, hh6]; exact List.mem_cons_self))).trans h, n⟩⟩
              · have hne : a ≠ Dd := fun e => hDh (e ▸ ha)
                exact (upd_ne hne).trans ((s26.hk a (by rw [hh]; exact List.mem_cons_of_mem _ ha)).trans (hk2 a ha))
              · have hDc6 : ¬ CellL w6.ρ w6.st Dd := (c6.hid Dd (by rw [hh6]; exact List.mem_cons_self)).2
                have s7 : Stp0 w6 { w6 with H := upd w6.H Dd (.lst (us ++ [v])) } := ⟨List.prefix_refl _, fun a o h n => ⟨(upd_ne fun e => n (.inr (by rw [e, hh6]; exact List.mem_cons_self))).trans h, n⟩⟩
                refine ⟨c6.len, c6.inj, fun n o a h1 h2 => ?_, fun a ha => ?_⟩
                · have hne : a ≠ Dd := fun e => hDc6 (e ▸ ⟨n, o, h1, h2⟩)
                  exact (c6.cell n o a h1 h2).mono s7 (upd_ne hne)
                · obtain ⟨⟨y, ey⟩, h2⟩ := c6.hid a ha
                  by_cases hne : a = Dd
                  · subst hne
                    exact ⟨⟨_, upd_same⟩, h2⟩
                  · exact ⟨⟨y, (upd_ne hne).trans ey⟩, h2⟩
              · have s7 : Stp0 w6 { w6 with H := upd w6.H Dd (.lst (us ++ [v])) } := ⟨List.prefix_refl _, fun a o h n => ⟨(upd_ne fun e => n (.inr (by rw [e, hh6]; exact List.mem_cons_self))).trans h, n⟩⟩
                exact (Reps.mono (s26.s0.trans s7) _ ra).append (.one (Rep.mono s7 _ rv))
              · show FIN (acc ++ [z]) (lcGo gs g tt elt (wipeD σd vs) (ds.drop (i + 1)) w6.st)
                rw [e6]
                exact hlt2.2
    · have ei : i = ds.length := by omega
      subst ei
      rw [List.drop_length] at F2
      unfold lcGo at F2
      have hck : chk gs w2.st = true := by
        by_cases hck : chk gs w2.st = true
        · exact hck
        · rw [if_neg hck] at F2
          exact F2.elim
      rw [if_pos hck] at F2
      obtain ⟨o1, o2⟩ := ok w2 _ s2 c2 hck
      refine .inl ⟨o2 (Nat.le_refl _), ?_⟩
      have F2 : PostR T W σ (fin k (if (acc ++ []).length ≤ sizeLine then some (.l (acc ++ [])) else none) w2.st) w1 (KD T Q) := F2
      rw [List.append_nil] at F2
      by_cases hz : acc.length ≤ sizeLine
      · rw [if_pos hz] at F2
        have hDc2 : ¬ CellL w2.ρ w2.st Dd := (c2.hid Dd hDm).2
        have s2' : Stp0 w2 { w2 with hid := w1.hid } := ⟨List.prefix_refl _, fun a o h n => ⟨h, fun q => by
          rcases q with q | q
          · exact n (.inl q)
          · exact n (.inr (by rw [hh]; exact List.mem_cons_of_mem _ q))⟩⟩
        cases k with
        | false =>
          refine F2 { w2 with hid := w1.hid } rfl ⟨s2.trans s2', rfl, hk2⟩ ⟨c2.len, c2.inj, fun n o a h1 h2 => (c2.cell n o a h1 h2).mono s2' rfl, fun a ha => c2.hid a (by rw [hh]; exact List.mem_cons_of_mem _ ha)⟩ (.ref Dd) ?_
          simp only [Rep]
          refine ⟨Dd, us, rfl, hDu, ?_, Reps.mono s2' _ ra⟩
          rintro (q | q)
          · exact hDc2 q
          · exact hDh q
        | true =>
          have s3' : Stp0 w2 { w2 with hid := w1.hid, ρ := w2.ρ ++ [Dd], st := w2.st ++ [some (.lst acc)] } := ⟨⟨_, rfl⟩, fun a o h n => ⟨h, fun q => by
            rcases q with q | q
            · rcases (cellL_snoc c2.len).mp q with q | q
              · exact n (.inl q)
              · exact n (.inr (by rw [hh, q]; exact List.mem_cons_self))
            · exact n (.inr (by rw [hh]; exact List.mem_cons_of_mem _ q))⟩⟩
          refine F2 { w2 with hid := w1.hid, ρ := w2.ρ ++ [Dd], st := w2.st ++ [some (.lst acc)] } rfl ⟨s2.trans s3', rfl, hk2⟩ ⟨by simp [c2.len], fun m n a om on h1 h2 h3 h4 => ?_, fun n o a h1 h2 => ?_, fun a ha => ?_⟩ (.ref Dd) ?_
          · have at_ : ∀ (n : Nat) (y : O) (a : Addr), (w2.st ++ [some (O.lst acc)])[n]? = some (some y) → (w2.ρ ++ [Dd])[n]? = some a → (w2.st[n]? = some (some y) ∧ w2.ρ[n]? = some a) ∨ (n = w2.st.length ∧ a = Dd) := fun n y a h1 h2 => by
              have hl := c2.len
              by_cases hn : n < w2.st.length
              · rw [List.getElem?_append_left hn] at h1
                rw [List.getElem?_append_left (by omega)] at h2
                exact .inl ⟨h1, h2⟩
              · have e : n = w2.st.length := by
                  have := (List.getElem?_eq_some_iff.mp h1).1
                  rw [List.length_append, List.length_singleton] at this
                  omega
                subst e
                rw [← hl, List.getElem?_append_right (Nat.le_refl _), Nat.sub_self] at h2
                exact .inr ⟨rfl, (Option.some.inj h2).symm⟩
            rcases at_ m om a h1 h3 with ⟨e1, e2⟩ | ⟨e1, e2⟩ <;> rcases at_ n on a h2 h4 with ⟨e3, e4⟩ | ⟨e3, e4⟩
            · exact c2.inj m n a om on e1 e3 e2 e4
            · subst e4
              exact absurd ⟨m, om, e1, e2⟩ hDc2
            · subst e2
              exact absurd ⟨n, on, e3, e4⟩ hDc2
            · omega
          · have hl := c2.len
            have h1 : (w2.st ++ [some (O.lst acc)])[n]? = some (some o) := h1
            have h2 : (w2.ρ ++ [Dd])[n]? = some a := h2
            by_cases hn : n < w2.st.length
            · rw [List.getElem?_append_left hn] at h1
              rw [List.getElem?_append_left (by omega)] at h2
              exact (c2.cell n o a h1 h2).mono s3' rfl
            · have e : n = w2.st.length := by
                have := (List.getElem?_eq_some_iff.mp h1).1
                rw [List.length_append, List.length_singleton] at this
                omega
              subst e
              rw [← hl, List.getElem?_append_right (Nat.le_refl _), Nat.sub_self] at h2
              rw [List.getElem?_append_right (Nat.le_refl _), Nat.sub_self] at h1
              have ea : a = Dd := (Option.some.inj h2).symm
              have eo : o = .lst acc := (Option.some.inj (Option.some.inj h1)).symm
              subst ea eo
              exact ⟨us, hDu, Reps.mono s3' _ ra⟩
          · obtain ⟨h1, h2⟩ := c2.hid a (by rw [hh]; exact List.mem_cons_of_mem _ ha)
            refine ⟨h1, fun q => ?_⟩
            rcases (cellL_snoc c2.len).mp q with q | q
            · exact h2 q
            · exact hDh (q ▸ ha)
          · simp only [Rep]
            exact ⟨Dd, rfl, by rw [← c2.len, List.getElem?_append_right (Nat.le_refl _), Nat.sub_self]; rfl⟩
      · rw [if_neg hz] at F2
        exact F2.elim
end
section
variable {T : Tb} {W : WX} {X : Cx} {elt tg iter : Expr} {ifs : List Expr} {scope : Scope} {own : List (Str × Nat)} {pos spos : Pos} {ci : SI} {ws : List Nat} {g : SGt} {tt : SB} {ce : SE} {k : Bool}
theorem sLc (hc : X.calm = true) (hN : X.N.Nodup) (hi : SndI T W X tg iter ci) (ok : BlkOk X.N X.env.scope scope own) (hs : ∀ i ∈ ws, i ∈ own.map (·.2))
    (hg : ∀ (s : Shared) (H : Hp) (C : Addr) (cl : List (Str × Addr)) (fp : List Addr), SndG T (X.blk s H scope (compEnvC scope cl C X.env) fp) tg ws g) (ht : ∀ (s : Shared) (H : Hp) (C : Addr) (cl : List (Str × Addr)) (fp : List Addr), SndTs T W0 (X.blk s H scope (compEnvC scope cl C X.env) fp) ifs tt)
    (he : ∀ (s : Shared) (H : Hp) (C : Addr) (cl : List (Str × Addr)) (fp : List Addr), SndE T W0 (X.blk s H scope (compEnvC scope cl C X.env) fp) elt ce) (hf : ∀ x, foldedSetIterable iter X.env x = pure x) :
    SndE T W X (.ListComp elt [⟨tg, iter, ifs, 0⟩] scope pos) (cLc k ci (own.map (·.2)) g tt ce) := by
  refine PE.imp (pe_lc hc hN hi ok hg ht he hf) fun σ H Q ⟨w, σd, e, co, eo, P⟩ => ?_
  subst e
  exact lc_read hs co eo P
def cSetLc := cSet
theorem sSetLc {i : Nat} {y : Str} {py : Pos} (hc : X.calm = true) (hN : X.N.Nodup) (hy : X.N[i]? = some y) (hyl : X.env.scope.names.lookup y = some .local)
    (hsw : swapsWith (.ListComp elt [⟨tg, iter, ifs, 0⟩] scope pos) (some (.Name y py)) spos.line X.env = pure true) (hi : SndI T W X tg iter ci) (ok : BlkOk X.N X.env.scope scope own) (hs : ∀ i ∈ ws, i ∈ own.map (·.2))
    (hg : ∀ (s : Shared) (H : Hp) (C : Addr) (cl : List (Str × Addr)) (fp : List Addr), SndG T (X.blk s H scope (compEnvC scope cl C X.env) fp) tg ws g) (ht : ∀ (s : Shared) (H : Hp) (C : Addr) (cl : List (Str × Addr)) (fp : List Addr), SndTs T W0 (X.blk s H scope (compEnvC scope cl C X.env) fp) ifs tt)
    (he : ∀ (s : Shared) (H : Hp) (C : Addr) (cl : List (Str × Addr)) (fp : List Addr), SndE T W0 (X.blk s H scope (compEnvC scope cl C X.env) fp) elt ce) (hf : ∀ x, foldedSetIterable iter X.env x = pure x) :
    SndS T W X (.Assign [.Name y py] (.ListComp elt [⟨tg, iter, ifs, 0⟩] scope pos) spos) (cSet i (cLc k ci (own.map (·.2)) g tt ce)) := by
  refine PS.imp (ps_setLc hc hN hy hyl hsw hi ok hg ht he hf) fun D σ H ⟨w, σd, e, co, eo, P⟩ => ?_
  subst e
  refine lc_read (Q := fun x H1 => gName i x σ H1 D.nx) hs co eo ((PostS.st eo P).imp fun d w1 s1 c1 K1 v rv => ?_)
  exact K1 w1 _ rfl (.refl w1) c1 ((eo.mono s1.s0).set i rv)
end
end MP


/-! MpLeave: what is left of a def's cells behind it. -/
namespace MP
open PySem PySem.Spec PyProof.Rows L2

def mapO (f : D → Option D) : List D → Option (List D)
  | [] => some []
  | d :: ds => match f d, mapO f ds with
    | some x, some xs => some (x :: xs)
    | _, _ => none
def idxN (n : Nat) : List Nat → Option Nat
  | [] => none
  | m :: r => if m = n then some 0 else (idxN n r).map (· + 1)
mutual
def rsF (n0 : Nat) (ks : List Nat) (st : Stt) (below : D → Option D) : D → Option D
  | .lst xs => (rsFs n0 ks st below xs).map .lst
  | .tup xs => (rsFs n0 ks st below xs).map .tup
  | .dk k xs => (rsFs n0 ks st below xs).map (.dk k)
  | .dt k xs => (rsFs n0 ks st below xs).map (.dt k)
  | .cel n => if n < n0 then some (.cel n) else match idxN n ks with
    | some j => some (.cel (n0 + j))
    | none => match st[n]? with
      | some (some (.lst xs)) => (mapO below xs).map .lst
      | some (some (.dk k xs)) => (mapO below xs).map (.dk k)
      | _ => none
  | .non => some .non
  | .bl b => some (.bl b)
  | .int i => some (.int i)
  | .str s => some (.str s)
  | .ty t => some (.ty t)
  | .fn n => some (.fn n)
  | .scr ns => some (.scr ns)
def rsFs (n0 : Nat) (ks : List Nat) (st : Stt) (below : D → Option D) : List D → Option (List D)
  | [] => some []
  | d :: ds => match rsF n0 ks st below d, rsFs n0 ks st below ds with
    | some x, some xs => some (x :: xs)
    | _, _ => none
end
def rsN (n0 : Nat) (ks : List Nat) (st : Stt) : Nat → D → Option D
  | 0 => rsF n0 ks st fun _ => none
  | k + 1 => rsF n0 ks st (rsN n0 ks st k)
def rs (n0 : Nat) (ks : List Nat) (st : Stt) (d : D) : Option D := rsN n0 ks st 7 d
def rsO (n0 : Nat) (ks : List Nat) (st : Stt) : O → Option O
  | .lst xs => (mapO (rs n0 ks st) xs).map .lst
  | .dk k xs => (mapO (rs n0 ks st) xs).map (.dk k)
def O.beq : O → O → Bool
  | .lst a, .lst b => D.beqs a b
  | .dk k a, .dk l b => decide (k = l) && D.beqs a b
  | _, _ => false
theorem O.beq_eq {a b : O} (h : O.beq a b = true) : a = b := by
  cases a <;> cases b <;> simp [O.beq] at h
  · rw [D.beqs_eq h]
  · rw [D.beqs_eq h.2, h.1]
@[simp] theorem O.beq_refl (a : O) : O.beq a a = true := by cases a <;> simp [O.beq]
def oldO (n0 : Nat) (ks : List Nat) (st : Stt) : Option O → Option O → Option (Option O)
  | _, none => some none
  | none, some _ => none
  | some o, some p => if O.beq o p = true then some (some o) else (rsO n0 ks st p).map some
def olds (n0 : Nat) (ks : List Nat) (st : Stt) : Stt → Stt → Option Stt
  | [], _ => some []
  | _ :: _, [] => none
  | a :: r, b :: s => match oldO n0 ks st a b, olds n0 ks st r s with
    | some x, some y => some (x :: y)
    | _, _ => none
def news (n0 : Nat) (ks : List Nat) (st : Stt) : List Nat → Option Stt
  | [] => some []
  | k :: r => match st[k]? with
    | some (some o) => match rsO n0 ks st o, news n0 ks st r with
      | some p, some y => some (some p :: y)
      | _, _ => none
    | _ => none
def goodK (n0 : Nat) (ks : List Nat) : Bool := decide ks.Nodup && ks.all fun k => decide (n0 ≤ k)
def outD (pick : Nat → D → Stt → List Nat) (st0 : Stt) (d : D) (st : Stt) : Option (D × Stt) :=
  if goodK st0.length (pick st0.length d st) = true then match rs st0.length (pick st0.length d st) st d, olds st0.length (pick st0.length d st) st st0 st, news st0.length (pick st0.length d st) st (pick st0.length d st) with
    | some d', some a, some b => some (d', a ++ b)
    | _, _, _ => none
  else none

/-! which cells are kept as cells -/
mutual
def cellsF (n0 : Nat) (below : Nat → List Nat) : D → List Nat
  | .cel n => if n < n0 then [] else n :: below n
  | .lst xs => cellsFs n0 below xs
  | .tup xs => cellsFs n0 below xs
  | .dk _ xs => cellsFs n0 below xs
  | .dt _ xs => cellsFs n0 below xs
  | .non => []
  | .bl _ => []
  | .int _ => []
  | .str _ => []
  | .ty _ => []
  | .fn _ => []
  | .scr _ => []
def cellsFs (n0 : Nat) (below : Nat → List Nat) : List D → List Nat
  | [] => []
  | d :: ds => cellsF n0 below d ++ cellsFs n0 below ds
end
def cellsN (n0 : Nat) (st : Stt) : Nat → D → List Nat
  | 0 => cellsF n0 fun _ => []
  | k + 1 => cellsF n0 fun n => match st[n]? with
    | some (some (.lst xs)) => (xs.map (cellsN n0 st k)).flatten
    | some (some (.dk _ xs)) => (xs.map (cellsN n0 st k)).flatten
    | _ => []
def ddN : List Nat → List Nat
  | [] => []
  | n :: r => if n ∈ r then ddN r else n :: ddN r
/-- false: all cells end; true: those that are handed out stay -/
def pkB : Bool → Nat → D → Stt → List Nat
  | false, _, _, _ => []
  | true, n0, d, st => ddN (cellsN n0 st 3 d)
theorem idxN_some {n : Nat} : ∀ {ks : List Nat} {j : Nat}, idxN n ks = some j → ks[j]? = some n
  | m :: r, j, h => by
    unfold idxN at h
    split at h
    · rename_i e
      cases h
      rw [e]; rfl
    · cases q : idxN n r with
      | none => rw [q] at h; cases h
      | some i =>
        rw [q] at h
        cases h
        simpa using idxN_some q
theorem idxN_none {n : Nat} : ∀ {ks : List Nat}, idxN n ks = none → n ∉ ks
  | [], _ => by simp
  | m :: r, h => by
    unfold idxN at h
    split at h
    · cases h
    · rename_i e
      cases q : idxN n r with
      | none => simp only [List.mem_cons, not_or]; exact ⟨fun z => e z.symm, idxN_none q⟩
      | some i => rw [q] at h; cases h
theorem olds_len {n0 : Nat} {ks : List Nat} {st : Stt} : ∀ {r s a : Stt}, olds n0 ks st r s = some a → a.length = r.length
  | [], _, _, h => by cases h; rfl
  | _ :: _, [], _, h => by cases h
  | x :: r, y :: s, a, h => by
    unfold olds at h
    cases q : oldO n0 ks st x y with
    | none => rw [q] at h; cases h
    | some z =>
      cases q2 : olds n0 ks st r s with
      | none => rw [q, q2] at h; cases h
      | some zs => rw [q, q2] at h; cases h; exact congrArg Nat.succ (olds_len q2)
theorem olds_get {n0 : Nat} {ks : List Nat} {st : Stt} : ∀ {r s a : Stt} {n : Nat} {x : O}, olds n0 ks st r s = some a → a[n]? = some (some x) → ∃ o p, r[n]? = some (some o) ∧ s[n]? = some (some p) ∧ ((o = p ∧ x = o) ∨ rsO n0 ks st p = some x)
  | [], _, _, _, _, h, e => by cases h; simp at e
  | _ :: _, [], _, _, _, h, _ => by cases h
  | u :: r, y :: s, a, n, x, h, e => by
    unfold olds at h
    cases q : oldO n0 ks st u y with
    | none => rw [q] at h; cases h
    | some z =>
      cases q2 : olds n0 ks st r s with
      | none => rw [q, q2] at h; cases h
      | some zs =>
        rw [q, q2] at h
        cases h
        cases n with
        | succ n => simpa using olds_get (n := n) q2 (by simpa using e)
        | zero =>
          simp at e
          subst e
          cases y with
          | none => cases q
          | some p =>
            cases u with
            | none => cases q
            | some o =>
              simp only [oldO] at q
              split at q
              · rename_i hb
                cases q
                exact ⟨x, p, rfl, rfl, .inl ⟨O.beq_eq hb, rfl⟩⟩
              · cases q3 : rsO n0 ks st p with
                | none => rw [q3] at q; cases q
                | some t => rw [q3] at q; cases q; exact ⟨o, p, rfl, rfl, .inr q3⟩
theorem news_len {n0 : Nat} {ks : List Nat} {st : Stt} : ∀ {l : List Nat} {b : Stt}, news n0 ks st l = some b → b.length = l.length
  | [], _, h => by cases h; rfl
  | k :: r, b, h => by
    unfold news at h
    split at h
    · rename_i o _
      cases q : rsO n0 ks st o with
      | none => rw [q] at h; cases h
      | some z =>
        cases q2 : news n0 ks st r with
        | none => rw [q, q2] at h; cases h
        | some zs => rw [q, q2] at h; cases h; exact congrArg Nat.succ (news_len q2)
    · cases h
theorem news_get {n0 : Nat} {ks : List Nat} {st : Stt} : ∀ {l : List Nat} {b : Stt} {j : Nat} {k : Nat}, news n0 ks st l = some b → l[j]? = some k → ∃ p x, st[k]? = some (some p) ∧ b[j]? = some (some x) ∧ rsO n0 ks st p = some x
  | [], _, _, _, _, e => by simp at e
  | m :: r, b, j, k, h, e => by
    unfold news at h
    split at h
    · rename_i o ho
      cases q : rsO n0 ks st o with
      | none => rw [q] at h; cases h
      | some z =>
        cases q2 : news n0 ks st r with
        | none => rw [q, q2] at h; cases h
        | some zs =>
          rw [q, q2] at h
          cases h
          cases j with
          | zero => simp at e; subst e; exact ⟨o, z, ho, rfl, q⟩
          | succ j => simpa using news_get (j := j) q2 (by simpa using e)
    · cases h
section
variable {T : Tb} {w0 w w' : Wd} {n0 : Nat} {ks : List Nat}
theorem mapO_rep {f : D → Option D} (hf : ∀ (d d' : D) (v : V), Rep T w d v → f d = some d' → Rep T w' d' v) : ∀ {ds es : List D} {vs : List V}, Reps T w ds vs → mapO f ds = some es → Reps T w' es vs
  | [], _, _, r, h => by
    cases h
    simp only [Reps] at r
    subst r
    exact .nil
  | d :: ds, _, _, r, h => by
    simp only [Reps] at r
    obtain ⟨v, vs, rfl, r1, r2⟩ := r
    unfold mapO at h
    cases q : f d with
    | none => rw [q] at h; cases h
    | some x =>
      cases q2 : mapO f ds with
      | none => rw [q, q2] at h; cases h
      | some xs => rw [q, q2] at h; cases h; exact .cons (hf d x v r1 q) (mapO_rep hf r2 q2)
/-- what the new world must be -/
structure Lv (T : Tb) (w w' : Wd) (n0 : Nat) (ks : List Nat) : Prop where
  H : w'.H = w.H
  lo : ∀ (n : Nat) (a : Addr), n < n0 → w.ρ[n]? = some a → w'.ρ[n]? = some a
  hi : ∀ (j n : Nat) (a : Addr), ks[j]? = some n → w.ρ[n]? = some a → w'.ρ[n0 + j]? = some a
  nl : ∀ a, ¬ w.Live a → ¬ w'.Live a
  dead : ∀ (n : Nat) (o : O) (a : Addr), ¬ n < n0 → n ∉ ks → w.st[n]? = some (some o) → w.ρ[n]? = some a → ¬ w'.Live a
mutual
theorem rsF_ok (c : COk T w) (L : Lv T w w' n0 ks) {below : D → Option D} (hb : ∀ (d d' : D) (v : V), Rep T w d v → below d = some d' → Rep T w' d' v) : ∀ (d : D) {d' : D} {v : V}, Rep T w d v → rsF n0 ks w.st below d = some d' → Rep T w' d' v
  | .non, _, _, r, h => by simp only [rsF] at h; cases h; simpa only [Rep] using r
  | .bl _, _, _, r, h => by simp only [rsF] at h; cases h; simpa only [Rep] using r
  | .int _, _, _, r, h => by simp only [rsF] at h; cases h; simpa only [Rep] using r
  | .str _, _, _, r, h => by simp only [rsF] at h; cases h; simpa only [Rep] using r
  | .ty _, _, _, r, h => by simp only [rsF] at h; cases h; simpa only [Rep] using r
  | .fn _, _, _, r, h => by simp only [rsF] at h; cases h; simpa only [Rep] using r
  | .scr _, _, _, r, h => by
    simp only [rsF] at h
    cases h
    simp only [Rep] at r ⊢
    obtain ⟨a, e, r⟩ := r
    refine ⟨a, e, ?_⟩
    rcases r with ⟨o, h1, h2⟩ | r
    · exact .inl ⟨o, by rw [L.H]; exact h1, L.nl a h2⟩
    · exact .inr r
  | .lst xs, _, _, r, h => by
    simp only [rsF] at h
    cases q : rsFs n0 ks w.st below xs with
    | none => rw [q] at h; cases h
    | some ys =>
      rw [q] at h
      cases h
      simp only [Rep] at r ⊢
      obtain ⟨a, vs, e, h1, h2, h3⟩ := r
      exact ⟨a, vs, e, by rw [L.H]; exact h1, L.nl a h2, rsFs_ok c L hb xs h3 q⟩
  | .tup xs, _, _, r, h => by
    simp only [rsF] at h
    cases q : rsFs n0 ks w.st below xs with
    | none => rw [q] at h; cases h
    | some ys =>
      rw [q] at h
      cases h
      simp only [Rep] at r ⊢
      obtain ⟨a, vs, e, h1, h2, h3⟩ := r
      exact ⟨a, vs, e, by rw [L.H]; exact h1, L.nl a h2, rsFs_ok c L hb xs h3 q⟩
  | .dk k xs, _, _, r, h => by
    simp only [rsF] at h
    cases q : rsFs n0 ks w.st below xs with
    | none => rw [q] at h; cases h
    | some ys =>
      rw [q] at h
      cases h
      simp only [Rep] at r ⊢
      obtain ⟨a, vs, e, h1, hl, h2, h3⟩ := r
      exact ⟨a, vs, e, by rw [L.H]; exact h1, hl, L.nl a h2, rsFs_ok c L hb xs h3 q⟩
  | .dt k xs, _, _, r, h => by
    simp only [rsF] at h
    cases q : rsFs n0 ks w.st below xs with
    | none => rw [q] at h; cases h
    | some ys =>
      rw [q] at h
      cases h
      simp only [Rep] at r ⊢
      obtain ⟨a, vs, e, h1, hl, h2, h3⟩ := r
      exact ⟨a, vs, e, by rw [L.H]; exact h1, hl, L.nl a h2, rsFs_ok c L hb xs h3 q⟩
  | .cel n, _, _, r, h => by
    simp only [Rep] at r
    obtain ⟨a, rfl, ha⟩ := r
    simp only [rsF] at h
    split at h
    · rename_i hn
      cases h
      simp only [Rep]
      exact ⟨a, rfl, L.lo n a hn ha⟩
    · rename_i hn
      split at h
      · rename_i j hj
        cases h
        simp only [Rep]
        exact ⟨a, rfl, L.hi j n a (idxN_some hj) ha⟩
      · rename_i hj
        split at h
        · rename_i xs hx
          cases q : mapO below xs with
          | none => rw [q] at h; cases h
          | some ys =>
            rw [q] at h
            cases h
            obtain ⟨vs, h1, h2⟩ := c.cell n _ a hx ha
            simp only [Rep]
            exact ⟨a, vs, rfl, by rw [L.H]; exact h1, L.dead n _ a hn (idxN_none hj) hx ha, mapO_rep hb h2 q⟩
        · rename_i k xs hx
          cases q : mapO below xs with
          | none => rw [q] at h; cases h
          | some ys =>
            rw [q] at h
            cases h
            obtain ⟨vs, h1, hl, h2⟩ := c.cell n _ a hx ha
            simp only [Rep]
            exact ⟨a, vs, rfl, by rw [L.H]; exact h1, hl, L.dead n _ a hn (idxN_none hj) hx ha, mapO_rep hb h2 q⟩
        · cases h
theorem rsFs_ok (c : COk T w) (L : Lv T w w' n0 ks) {below : D → Option D} (hb : ∀ (d d' : D) (v : V), Rep T w d v → below d = some d' → Rep T w' d' v) : ∀ (ds : List D) {es : List D} {vs : List V}, Reps T w ds vs → rsFs n0 ks w.st below ds = some es → Reps T w' es vs
  | [], _, _, r, h => by
    simp only [rsFs] at h
    cases h
    simpa only [Reps] using r
  | d :: ds, _, _, r, h => by
    simp only [Reps] at r
    obtain ⟨v, vs, rfl, r1, r2⟩ := r
    simp only [rsFs] at h
    split at h
    · rename_i x xs e1 e2
      cases h
      exact .cons (rsF_ok c L hb d r1 e1) (rsFs_ok c L hb ds r2 e2)
    · cases h
end
theorem rsN_ok (c : COk T w) (L : Lv T w w' n0 ks) : ∀ (k : Nat) (d d' : D) (v : V), Rep T w d v → rsN n0 ks w.st k d = some d' → Rep T w' d' v
  | 0, d, _, _, r, h => rsF_ok c L (fun _ _ _ _ z => by cases z) d r h
  | k + 1, d, _, _, r, h => rsF_ok c L (rsN_ok c L k) d r h
theorem rsO_ok (c : COk T w) (L : Lv T w w' n0 ks) {a : Addr} {o o' : O} (r : RepO T w a o) (h : rsO n0 ks w.st o = some o') : RepO T w' a o' := by
  cases o with
  | lst xs =>
    simp only [rsO] at h
    cases q : mapO (rs n0 ks w.st) xs with
    | none => rw [q] at h; cases h
    | some ys =>
      rw [q] at h
      cases h
      obtain ⟨vs, h1, h2⟩ := r
      exact ⟨vs, by rw [L.H]; exact h1, mapO_rep (rsN_ok c L 7) h2 q⟩
  | dk k xs =>
    simp only [rsO] at h
    cases q : mapO (rs n0 ks w.st) xs with
    | none => rw [q] at h; cases h
    | some ys =>
      rw [q] at h
      cases h
      obtain ⟨vs, h1, hl, h2⟩ := r
      exact ⟨vs, by rw [L.H]; exact h1, hl, mapO_rep (rsN_ok c L 7) h2 q⟩
/-! what stood at the entry stands still -/
mutual
theorem Rep.stay (hl : w0.ρ.length ≤ n0) (L : Lv T w w' n0 ks) : ∀ (d : D) {v0 v : V}, Rep T w0 d v0 → Rep T w d v → Rep T w' d v
  | .non, _, _, _, r => by simpa only [Rep] using r
  | .bl _, _, _, _, r => by simpa only [Rep] using r
  | .int _, _, _, _, r => by simpa only [Rep] using r
  | .str _, _, _, _, r => by simpa only [Rep] using r
  | .ty _, _, _, _, r => by simpa only [Rep] using r
  | .fn _, _, _, _, r => by simpa only [Rep] using r
  | .scr _, _, _, _, r => by
    simp only [Rep] at r ⊢
    obtain ⟨a, e, r⟩ := r
    refine ⟨a, e, ?_⟩
    rcases r with ⟨o, h1, h2⟩ | r
    · exact .inl ⟨o, by rw [L.H]; exact h1, L.nl a h2⟩
    · exact .inr r
  | .lst xs, _, _, r0, r => by
    simp only [Rep] at r0 r ⊢
    obtain ⟨_, _, _, _, _, h0⟩ := r0
    obtain ⟨a, vs, e, h1, h2, h3⟩ := r
    exact ⟨a, vs, e, by rw [L.H]; exact h1, L.nl a h2, Reps.stay hl L xs h0 h3⟩
  | .tup xs, _, _, r0, r => by
    simp only [Rep] at r0 r ⊢
    obtain ⟨_, _, _, _, _, h0⟩ := r0
    obtain ⟨a, vs, e, h1, h2, h3⟩ := r
    exact ⟨a, vs, e, by rw [L.H]; exact h1, L.nl a h2, Reps.stay hl L xs h0 h3⟩
  | .dk k xs, _, _, r0, r => by
    simp only [Rep] at r0 r ⊢
    obtain ⟨_, _, _, _, _, _, h0⟩ := r0
    obtain ⟨a, vs, e, h1, hk, h2, h3⟩ := r
    exact ⟨a, vs, e, by rw [L.H]; exact h1, hk, L.nl a h2, Reps.stay hl L xs h0 h3⟩
  | .dt k xs, _, _, r0, r => by
    simp only [Rep] at r0 r ⊢
    obtain ⟨_, _, _, _, _, _, h0⟩ := r0
    obtain ⟨a, vs, e, h1, hk, h2, h3⟩ := r
    exact ⟨a, vs, e, by rw [L.H]; exact h1, hk, L.nl a h2, Reps.stay hl L xs h0 h3⟩
  | .cel n, _, _, r0, r => by
    simp only [Rep] at r0 r ⊢
    obtain ⟨b, _, hb⟩ := r0
    obtain ⟨a, e, ha⟩ := r
    have hn := (List.getElem?_eq_some_iff.mp hb).1
    exact ⟨a, e, L.lo n a (by omega) ha⟩
theorem Reps.stay (hl : w0.ρ.length ≤ n0) (L : Lv T w w' n0 ks) : ∀ (ds : List D) {vs0 vs : List V}, Reps T w0 ds vs0 → Reps T w ds vs → Reps T w' ds vs
  | [], _, _, _, r => by simpa only [Reps] using r
  | d :: ds, _, _, r0, r => by
    simp only [Reps] at r0 r
    obtain ⟨_, _, _, h1, h2⟩ := r0
    obtain ⟨v, vs, rfl, r1, r2⟩ := r
    exact .cons (Rep.stay hl L d h1 r1) (Reps.stay hl L ds h2 r2)
end
theorem RepO.stay (hl : w0.ρ.length ≤ n0) (L : Lv T w w' n0 ks) {a b : Addr} {o : O} (r0 : RepO T w0 b o) (r : RepO T w a o) : RepO T w' a o := by
  cases o with
  | lst xs =>
    obtain ⟨_, _, h0⟩ := r0
    obtain ⟨vs, h1, h2⟩ := r
    exact ⟨vs, by rw [L.H]; exact h1, Reps.stay hl L xs h0 h2⟩
  | dk k xs =>
    obtain ⟨_, _, _, h0⟩ := r0
    obtain ⟨vs, h1, hk, h2⟩ := r
    exact ⟨vs, by rw [L.H]; exact h1, hk, Reps.stay hl L xs h0 h2⟩
end
theorem nodup_ix : ∀ {l : List Nat} {i j x : Nat}, l.Nodup → l[i]? = some x → l[j]? = some x → i = j
  | [], _, _, _, _, h, _ => by simp at h
  | y :: r, i, j, x, nd, h1, h2 => by
    rw [List.nodup_cons] at nd
    cases i with
    | zero =>
      cases j with
      | zero => rfl
      | succ j =>
        simp at h1 h2
        subst h1
        exact absurd (List.mem_of_getElem? h2) nd.1
    | succ i =>
      cases j with
      | zero =>
        simp at h1 h2
        subst h2
        exact absurd (List.mem_of_getElem? h1) nd.1
      | succ j => exact congrArg Nat.succ (nodup_ix nd.2 (by simpa using h1) (by simpa using h2))
/-- leaving -/
theorem out_ok {T : Tb} {w0 w : Wd} {pick : Nat → D → Stt → List Nat} {d d' : D} {v : V} {st' : Stt} (c0 : COk T w0) (s : Stp w0 w) (c : COk T w) (r : Rep T w d v) (h : outD pick w0.st d w.st = some (d', st')) :
    ∃ w' : Wd, w'.H = w.H ∧ w'.st = st' ∧ Stp w0 w' ∧ COk T w' ∧ Rep T w' d' v := by
  obtain ⟨n0, hn0⟩ : ∃ n, n = w0.st.length := ⟨_, rfl⟩
  obtain ⟨ks, hks⟩ : ∃ k, k = pick n0 d w.st := ⟨_, rfl⟩
  unfold outD at h
  rw [← hn0, ← hks] at h
  by_cases hg : goodK n0 ks = true
  case neg => rw [if_neg hg] at h; cases h
  rw [if_pos hg] at h
  unfold goodK at hg
  rw [Bool.and_eq_true, List.all_eq_true] at hg
  obtain ⟨g1, g2⟩ := hg
  have nd : ks.Nodup := of_decide_eq_true g1
  have ge : ∀ k ∈ ks, n0 ≤ k := fun k hk => of_decide_eq_true (g2 k hk)
  split at h
  case h_2 => cases h
  rename_i d1 a b e1 e2 e3
  cases h
  have lw0 : w0.ρ.length = n0 := by rw [hn0]; exact c0.len
  have la : a.length = n0 := by rw [olds_len e2, hn0]
  have lb : b.length = ks.length := news_len e3
  -- the kept cells' addresses
  let at_ : Nat → Addr := fun k => (w.ρ[k]?).getD 0
  let w' : Wd := ⟨w0.ρ ++ ks.map at_, a ++ b, w.H, w.hid⟩
  have atE : ∀ k x, w.ρ[k]? = some x → at_ k = x := fun k x e => by show (w.ρ[k]?).getD 0 = x; rw [e]; rfl
  -- live cells come from live cells
  have src : ∀ (n : Nat) (o : O) (x : Addr), w'.st[n]? = some (some o) → w'.ρ[n]? = some x → ∃ m p, w.st[m]? = some (some p) ∧ w.ρ[m]? = some x ∧ ((n < n0 ∧ m = n) ∨ (n0 ≤ n ∧ ks[n - n0]? = some m)) := fun n o x h1 h2 => by
    have h1 : (a ++ b)[n]? = some (some o) := h1
    have h2 : (w0.ρ ++ ks.map at_)[n]? = some x := h2
    by_cases hn : n < n0
    · rw [List.getElem?_append_left (by omega)] at h1 h2
      obtain ⟨o1, p, q1, q2, _⟩ := olds_get e2 h1
      exact ⟨n, p, q2, pre_get s.s0.pre h2, .inl ⟨hn, rfl⟩⟩
    · rw [List.getElem?_append_right (by omega), lw0] at h2
      rw [List.getElem?_map] at h2
      cases q : ks[n - n0]? with
      | none => rw [q] at h2; cases h2
      | some m =>
        rw [q] at h2
        obtain ⟨p, y, q1, q2, q3⟩ := news_get e3 q
        have hm : m < w.ρ.length := by rw [c.len]; exact (List.getElem?_eq_some_iff.mp q1).1
        have e4 := List.getElem?_eq_getElem hm
        have e5 : at_ m = x := Option.some.inj h2
        rw [atE m _ e4] at e5
        exact ⟨m, p, q1, by rw [e4, e5], .inr ⟨by omega, rfl⟩⟩
  have nl : ∀ x, ¬ w.Live x → ¬ w'.Live x := fun x hx hl => by
    rcases hl with ⟨n, o, h1, h2⟩ | hh
    · obtain ⟨m, p, q1, q2, _⟩ := src n o x h1 h2
      exact hx (.inl ⟨m, p, q1, q2⟩)
    · exact hx (.inr hh)
  have L : Lv T w w' n0 ks := by
    refine ⟨rfl, fun n x hn hx => ?_, fun j n x hj hx => ?_, nl, fun n o x hn hk h1 h2 hl => ?_⟩
    · show (w0.ρ ++ ks.map at_)[n]? = some x
      rw [List.getElem?_append_left (by omega)]
      have e4 := List.getElem?_eq_getElem (l := w0.ρ) (i := n) (by omega)
      rw [e4, ← hx, pre_get s.s0.pre e4]
    · show (w0.ρ ++ ks.map at_)[n0 + j]? = some x
      rw [List.getElem?_append_right (by omega), lw0, Nat.add_sub_cancel_left, List.getElem?_map, hj]
      exact congrArg some (atE n x hx)
    · rcases hl with ⟨m, y, q1, q2⟩ | hh
      · obtain ⟨k, p, r1, r2, r3⟩ := src m y x q1 q2
        have e := c.inj n k x o p h1 r1 h2 r2
        subst e
        rcases r3 with ⟨r3, r4⟩ | ⟨_, r4⟩
        · exact hn (r4 ▸ r3)
        · exact hk (List.mem_of_getElem? r4)
      · exact (c.hid x hh).2 ⟨n, o, h1, h2⟩
  refine ⟨w', rfl, rfl, ⟨⟨⟨_, rfl⟩, fun x o h1 h2 => ?_⟩, s.hid, s.hk⟩, ⟨?_, fun m n x om on h1 h2 h3 h4 => ?_, fun n o x h1 h2 => ?_, fun x hx => ⟨(c.hid x hx).1, ?_⟩⟩, rsN_ok c L 7 d _ v r e1⟩
  · obtain ⟨k1, k2⟩ := s.s0.keep x o h1 h2
    exact ⟨k1, nl x k2⟩
  · show (w0.ρ ++ ks.map at_).length = (a ++ b).length
    rw [List.length_append, List.length_append, List.length_map, lw0, la, lb]
  · obtain ⟨i, p, p1, p2, p3⟩ := src m om x h1 h3
    obtain ⟨j, q, q1, q2, q3⟩ := src n on x h2 h4
    have e := c.inj i j x p q p1 q1 p2 q2
    subst e
    rcases p3 with ⟨p3, p4⟩ | ⟨p3, p4⟩ <;> rcases q3 with ⟨q3, q4⟩ | ⟨q3, q4⟩
    · omega
    · have := ge i (List.mem_of_getElem? q4)
      omega
    · have := ge i (List.mem_of_getElem? p4)
      omega
    · have := nodup_ix nd p4 q4
      omega
  · have h1' : (a ++ b)[n]? = some (some o) := h1
    by_cases hn : n < n0
    · have h2' : (w0.ρ ++ ks.map at_)[n]? = some x := h2
      rw [List.getElem?_append_left (by omega)] at h1' h2'
      obtain ⟨o1, p, q1, q2, q3⟩ := olds_get e2 h1'
      have r1 := c0.cell n o1 x q1 h2'
      have r2 := c.cell n p x q2 (pre_get s.s0.pre h2')
      rcases q3 with ⟨rfl, rfl⟩ | q3
      · exact RepO.stay (by omega) L r1 r2
      · exact rsO_ok c L r2 q3
    · obtain ⟨m, p, q1, q2, q3⟩ := src n o x h1 h2
      rcases q3 with ⟨z, _⟩ | ⟨_, q3⟩
      · exact absurd z hn
      · obtain ⟨p2, y, r1, r2, r3⟩ := news_get e3 q3
        rw [List.getElem?_append_right (by omega), la, r2] at h1'
        cases h1'
        exact rsO_ok c L (c.cell m p2 x r1 q2) r3
  · rintro ⟨n, o, h1, h2⟩
    obtain ⟨m, p, q1, q2, _⟩ := src n o x h1 h2
    exact (c.hid x hx).2 ⟨m, p, q1, q2⟩
end MP


/-! MpG: what a def promises where nothing is being written out (repr) around it; the law's head for such a promise. -/
namespace MP
open PySem PySem.Spec PyProof.Rows L2

structure RoomG (k : Nat) (A : Around) : Prop where
  r : Room k A
  g : A.guards = some []
theorem RoomG.deeper {k : Nat} {A : Around} (r : RoomG (k + 1) A) (env : Env) : RoomG k (A.deeper env) := ⟨r.r.deeper env, r.g⟩
theorem RoomG.mono {j k : Nat} {A : Around} (r : RoomG k A) (h : j ≤ k) : RoomG j A := ⟨r.r.mono h, r.g⟩
/-- a def's promise -/
structure FnG (P : Program) (w : World) (K : PySem.W.Frag) (mg : Str → Option Value) (base : Heap) (k : Nat) (f : Addr) (fd : FuncData) (ps : List Str) (sp : Sp) : Prop where
  len : ∀ vs H Q E, sp vs H Q E → vs.length = ps.length
  run : ∀ (A : Around) (outer : List Env) (s : Shared) (H : Hp) (args : Args) (us : List Value) (vs : List V) (Q : VK) (E : XK), RoomG k A → Env0 P w K mg base A outer s H → BindsTo s fd args (ps.zip us) → Vals vs us → sp vs H Q E →
    codeAny (model P w) A (.call (.ref f) args) (CR (L2.CX P w) outer P w H s Q E) s
theorem FnG.mono {P : Program} {w : World} {K : PySem.W.Frag} {mg : Str → Option Value} {base : Heap} {j k : Nat} {f : Addr} {fd : FuncData} {ps : List Str} {sp : Sp} (F : FnG P w K mg base j f fd ps sp) (h : j ≤ k) : FnG P w K mg base k f fd ps sp :=
  ⟨F.len, fun A outer s H args us vs Q E hr => F.run A outer s H args us vs Q E (hr.mono h)⟩
section
variable {P : Program} {w : World} {K : PySem.W.Frag} {mg : Str → Option Value} {base : Heap}
/-- a def by its body -/
theorem fnG_of {x qual : Str} {st : Stmt} {f : Addr} {fd : FuncData} {N ps : List Str} {k : Nat} {sp : Sp} {dvs : List V} {kws : List (Str × V)} (F : FunD K x qual (defArgs st) (defBody st) (defScope st) dvs kws f fd) (S : FnScope N ps (defScope st)) (len : ∀ vs H Q E, sp vs H Q E → vs.length = ps.length)
    (hbody : ∀ (cdv : Value) (A : Around) (outer : List Env) (s : Shared) (H : Hp) (vs : List V) (Q : VK) (E : XK), RoomG k (A.deeper (envOfC qual (defScope st) s.heap.objs.size f cdv)) → sp vs H Q E →
      ∃ t, PSs (cxOf (L2.CX P w) P w K mg base N qual (defScope st) f cdv A outer s H E) (defBody st) t ∧ t { nx := fun _ H' => Q .non H', rt := Q } (L2.start N vs) H) : FnG P w K mg base (k + 1) f fd ps sp := by
  obtain ⟨oc, od, dV, kV, doc, pm, an, cdv, ct, osl, rfl, lk, hcd, _, _⟩ := F.ex
  refine ⟨len, fun A outer s H args us vs Q E hr e0 hb r hsp => ?_⟩
  have at1 : ∀ b o, base.get? b = some o → s.heap.get? b = some o := fun b o e => (e0.bs b o e).1
  have KX : K.In s.heap := e0.mod.kin.keeps at1
  have bound : ∀ y ∈ ps.zip us, (defScope st).names.lookup y.1 = some .local ∨ ((defScope st).names.lookup y.1 = some .cell ∧ ((cellsFrom (s.heap.objs.size + 1) (defScope st).names []).lookup y.1).isSome = true) := by
    intro ⟨n, v⟩ hy
    exact (S.par n (List.of_mem_zip hy).1).imp _root_.id fun q => ⟨q, PySem.W.cellsFrom_some _ _ _ (.inl q)⟩
  refine codeAny_call_function hr.r.depth (KX _ _ lk) rfl S.co S.gen rfl (PySem.W.codeRec_of KX hcd) (hb _ _ _ _ (wpAny_newFunctionEnv_cells S.kind bound fun env he s1 x => ?_))
  subst he
  refine ⟨(e0.mod.nolimit.keeps at1).keeps x.toInCall.keep, codeAny_func ?_⟩
  obtain ⟨t, ht, hq⟩ := hbody cdv A outer s H vs Q E (hr.deeper _) hsp
  refine wpAny_mono (ht.run [] s1 (L2.start N vs) H _ (inv_start S hr.r.hd e0 (len _ _ _ _ hsp) r x) hq) (fun fl s' hs => ?_) fun e s' hs => hs
  cases fl with
  | ret u =>
    obtain ⟨v, σ', H', J, rv, q⟩ := hs
    exact ⟨v, H', J.os, J.bare, J.base, J.hok, rv, q⟩
  | next =>
    obtain ⟨σ', H', J, q⟩ := hs
    exact ⟨.non, H', J.os, J.bare, J.base, J.hok, rfl, q⟩
  | brk => exact hs.choose_spec.choose_spec.2.elim
  | cont => exact hs.choose_spec.choose_spec.2.elim
end
/-- a callee runs -/
theorem run_G {X : Cx} {W : WX} {k : Nat} {f : Addr} {fd : FuncData} {ps : List Str} {sp : Sp} {pins : List (Addr × Obj)} {σ : L2.St} {H : Hp} {s : Shared} {Q : VK} {args : Args} {us : List Value} {vs : List V} (F : FnG X.prog X.w X.K X.mg X.base k f fd ps sp) (hr : RoomG k X.A) (tk : Takes X W)
    (I : L2.Inv X pins σ H s) (hb : BindsTo s fd args (ps.zip us)) (r : Vals vs us) (h : sp vs H Q (WE W σ)) : codeAny (model X.prog X.w) X.A (.call (.ref f) args) (fun r s' => match r with
      | .ok (.ret u) => EP X pins σ Q u s'
      | .ok _ => False
      | .error e => X.xe e s') s := by
  refine codeAny_mono (F.run X.A X.stack s H args us vs Q (WE W σ) hr I.env0 hb r h) fun r s' hq => ?_
  cases r with
  | error e => exact passAt tk σ pins H s e s' I hq
  | ok fl =>
    cases fl with
    | ret u => exact I.after hq
    | next => exact False.elim hq
    | brk => exact False.elim hq
    | cont => exact False.elim hq
/-! ### the head -/
section
variable {P : Program} {w : World} {K : PySem.W.Frag} {mg mb : Str → Option Value} {k : Nat} {fa a : Addr} {fd : FuncData} {x : Str} {sp : Sp} {s₁ : Shared} {vs : List Value} {ns : List Int}
/-- the script alone may be tracked: what is read of the ground is not hidden -/
structure Lone (K : PySem.W.Frag) (a : Addr) (H : Hp) (h : Heap) (vs : List Value) (ns : List Int) : Prop where
  only : ∀ b, H b = none ∨ (b = a ∧ K.lookup a = none ∧ H b = some (.frz { cls := .type "list", data := .seq vs.toArray } (.lst (ns.map V.int))))
  hok : HOk P w H h
  sq : SqL K H a (ns.map V.int)
theorem head_run (L : Lone (P := P) (w := w) K a H s₁.heap vs ns) (KX : K.In s₁.heap) (hns : s₁.heap.Ns mainGlobals mg) (hb : s₁.heap.Ns builtinsNs mb) (hbb : ∀ x : Str, x ≠ "__name__" → mb x = bootBuiltins x) (hlim : s₁.heap.NoLimit) (hg : s₁.gens = #[])
    (ha : s₁.heap.get? a = some { cls := .type "list", data := .seq vs.toArray }) (hr : RoomG k callerA)
    (F : ∀ base : Heap, K.In base → base.Ns mainGlobals mg → FnG P w K mg base k fa fd [x] sp) (hbind : ∀ (s : Shared) (u : Value), BindsTo s fd ⟨[u], []⟩ [(x, u)])
    (hsp : sp [.ref a] H (fun v _ => v = .bl true) fun _ _ _ => False) :
    codeAny (model P w) callerA (.call (.ref fa) ⟨[.ref a], []⟩) (fun r s' => r = .ok (.ret (.bool true)) ∧ OldK s₁.heap s'.heap ∧ s'.os = s₁.os ∧ AllBare s'.gens) s₁ := by
  -- what is no list of the script's is seen
  have see : ∀ {b : Addr} {o : Obj}, s₁.heap.get? b = some o → (H b ≠ none → False) → (hidT s₁.heap H).get? b = some o := fun {b o} e n => hidT_get e (by
    cases q : H b with
    | none => rfl
    | some u => exact (n (by rw [q]; simp)).elim)
  have seeD : ∀ {b : Addr} {m : Str → Option Value}, s₁.heap.Ns b m → (hidT s₁.heap H).Ns b m := fun {b m} ⟨o, es, ep, e, d, r⟩ => ⟨o, es, ep, (see e fun hn => by
    rcases L.only b with z | ⟨z, _, _⟩
    · exact hn z
    · subst z
      rw [ha] at e
      cases e
      have d' : Data.seq vs.toArray _ = Data.dict es ep := d
      cases d'), d, r⟩
  have seeK : K.In (hidT s₁.heap H) := fun b o e => see (KX b o e) fun hn => by
    rcases L.only b with z | ⟨z, q, _⟩
    · exact hn z
    · subst z
      rw [q] at e
      cases e
  obtain ⟨mc, l1, l2⟩ := hlim
  have e0 : Env0 P w K mg (hidT s₁.heap H) callerA [] s₁ H := ⟨rfl, ⟨seeK, seeD hns, ⟨mb, seeD hb, hbb⟩, mc, seeD l1, l2⟩, fun b o e => of_hidT e, Nat.le_of_eq (hidT_size _ _), trivial, (fun _ hb => nomatch hb), L.hok, .of_eq hg⟩
  refine codeAny_mono ((F _ seeK (seeD hns)).run callerA [] s₁ H ⟨[.ref a], []⟩ [.ref a] [.ref a] _ _ hr e0 (hbind s₁ (.ref a)) (.cons rfl .nil) hsp) fun r s' h => ?_
  match r, h with
  | .error e, h =>
    obtain ⟨_, _, _, _, _, _, _, _, _, _, _, _, z⟩ := h
    exact z.elim
  | .ok (.ret u), h =>
    obtain ⟨v, H', os, bare, un, hok', r', q⟩ := h
    obtain rfl : v = .bl true := q
    obtain rfl : u = Value.bool true := r'
    refine ⟨rfl, OldK.of_keep fun b o e => ?_, os, bare⟩
    rcases L.only b with z | ⟨_, _, z⟩
    · exact un.keep b o e z (fun z => nomatch z) (fun z => nomatch z)
    · have e1 := (L.hok b _ z).1
      rw [e] at e1
      cases e1
      exact (hok' b _ (un.frzs b _ _ z)).1
theorem law_callG (KX : K.In s₁.heap) (hns : s₁.heap.Ns mainGlobals mg) (hb : s₁.heap.Ns builtinsNs mb) (hbb : ∀ x : Str, x ≠ "__name__" → mb x = bootBuiltins x) (hlim : s₁.heap.NoLimit) (hg : s₁.gens = #[])
    (ha : s₁.heap.get? a = some { cls := .type "list", data := .seq vs.toArray }) (hi : IntsAre vs ns) (hl : ns.length ≤ sizeLine) (hr : RoomG k callerA)
    (F : ∀ base : Heap, K.In base → base.Ns mainGlobals mg → FnG P w K mg base k fa fd [x] sp) (hbind : ∀ (s : Shared) (u : Value), BindsTo s fd ⟨[u], []⟩ [(x, u)])
    (hsp : ∀ H : Hp, Only H → SqL K H a (ns.map V.int) → sp [.ref a] H (fun v _ => v = .bl true) fun _ _ _ => False) :
    codeAny (model P w) callerA (.call (.ref fa) ⟨[.ref a], []⟩) (fun r s' => r = .ok (.ret (.bool true)) ∧ OldK s₁.heap s'.heap ∧ s'.os = s₁.os ∧ AllBare s'.gens) s₁ := by
  have rv := vals_ints hi
  have lz : vs.toArray.size ≤ sizeLine := by rw [List.size_toArray, hi.length]; exact hl
  cases hk : K.lookup a with
  | some o =>
    obtain rfl : _ = o := Option.some.inj (ha.symm.trans (KX a o hk))
    have sq : SqL K (fun _ => none) a (ns.map V.int) := .inr ⟨_, vs.toArray, _, hk, rfl, rfl, rfl, lz, by simpa using rv⟩
    have on : Only (fun _ => none) := fun _ => .inl rfl
    exact head_run (H := fun _ => none) ⟨fun _ => .inl rfl, (fun _ _ z => nomatch z), sq⟩ KX hns hb hbb hlim hg ha hr F hbind (hsp _ on sq)
  | none =>
    have hH : ∀ b, (fun b => if b = a then some (HO.frz { cls := .type "list", data := .seq vs.toArray } (.lst (ns.map V.int))) else none : Hp) b = none ∨ (b = a ∧ (fun b => if b = a then some (HO.frz { cls := .type "list", data := .seq vs.toArray } (.lst (ns.map V.int))) else none : Hp) b = some (.frz { cls := .type "list", data := .seq vs.toArray } (.lst (ns.map V.int)))) := fun b => by
      by_cases h : b = a
      · exact .inr ⟨h, if_pos h⟩
      · exact .inl (if_neg h)
    have sq : SqL K (fun b => if b = a then some (HO.frz { cls := .type "list", data := .seq vs.toArray } (.lst (ns.map V.int))) else none) a (ns.map V.int) := .inl (.inr ⟨_, if_pos rfl⟩)
    refine head_run ⟨fun b => (hH b).imp _root_.id fun z => ⟨z.1, hk, z.2⟩, fun b u z => ?_, sq⟩ KX hns hb hbb hlim hg ha hr F hbind (hsp _ (fun b => (hH b).imp _root_.id fun z => ⟨_, _, z.2⟩) sq)
    rcases hH b with q | ⟨rfl, q⟩
    · have z' := q.symm.trans z
      cases z'
    · have z' := q.symm.trans z
      cases z'
      exact ⟨ha, by rw [List.length_map]; exact hl, vs, _, rv, ha⟩
end
/-- the goal that k_head leaves -/
theorem walk_ofG {l : PySem.W.OpenLaw} {n k : Nat} {q : Program} {loose : List Str} {XP : (Str → Option Value) → Heap → Prop} {YP : World → Heap → Prop} {d : DefRec} {K : Params → PySem.W.Frag} {sp : PySem.W.Frag → Sp} {x : Str}
    (hn : l.most = some n) (hn2 : n ≤ sizeLine) (hdf : d.params.defaults = []) (hr : RoomG k callerA)
    (hY : ∀ (w : World) (h : Heap), YP w h → (K w.params).In h)
    (F : ∀ (w : World) (mg : Str → Option Value) (fa : Addr) (h : Heap), (K w.params).In h → h.Ns mainGlobals mg → mg d.name = some (.ref fa) →
      ∃ fd : FuncData, (∀ (s : Shared) (u : Value), BindsTo s fd ⟨[u], []⟩ [(x, u)]) ∧
        ∀ base : Heap, (K w.params).In base → base.Ns mainGlobals mg → FnG l.prog w (K w.params) mg base k fa fd [x] (sp (K w.params)))
    (hsp : ∀ (K : PySem.W.Frag) (H : Hp) (a : Addr) (ns : List Int), ns.length ≤ n → (∀ z ∈ ns, Builtin.Int.intBits z ≤ 1048576) → Only H → SqL K H a (ns.map V.int) → sp K [.ref a] H (fun v _ => v = .bl true) fun _ _ _ => False) :
    PySem.W.WalkO q loose XP YP l.row.toRowW d [] (fun f vs => PySem.call f vs) := by
  refine Att.attach_callB hn hdf fun w s₀ s₁ mg mb fa o pm cd doc a vs ns G Y ho hd hcd hmg hobj hints hlen hbits hg => ?_
  obtain ⟨fd, hb, hF⟩ := F w mg fa _ (hY w _ Y) G.T.g hmg
  exact law_callG (hY w _ Y) G.T.g G.T.b G.T.builtins G.T.nolimit hg hobj hints (Nat.le_trans hlen hn2) hr hF hb fun H hO hS => hsp (K w.params) H a ns hlen hbits hO hS
end MP


/-! MpDef: defs and their calls. -/
namespace MP
open PySem PySem.Spec PyProof.Rows L2

def okO : Option (D × Stt) → R D
  | some q => .ok q.1 q.2
  | none => .fail
/-- a def: n parameters, N slots; kp: new lists handed out stay cells -/
def fnS (kp : Bool) (n N : Nat) (body : SS) : SF := fun ds st =>
  if ds.length = n then match body (ds.map some ++ List.replicate (N - n) none) st with
    | .nx _ st' => okO (outD (pkB kp) st .non st')
    | .rt d st' => okO (outD (pkB kp) st d st')
    | .exc c d _ st' => match outD (pkB false) st d st' with
      | some q => .exc c q.1 q.2
      | none => .fail
    | _ => .fail
  else .fail
def PostF (T : Tb) (E : XK) (r : R D) (w : Wd) (Q : VK) : Prop := match r with
  | .ok d st' => ∀ (w' : Wd) (v : V), w'.st = st' → Stp w w' → COk T w' → Rep T w' d v → Q v w'.H
  | .exc c d st' => ∀ (w' : Wd) (v : V) (dd : Addr), w'.st = st' → Stp w w' → COk T w' → Rep T w' d v → w'.H dd = none → E (.ref (T.fa c)) (some dd) (upd w'.H dd (.xd [("value", v)]))
  | .fail => False
/-- the promise of a def by its semantics -/
def spS (T : Tb) (f : SF) (n : Nat) : Sp := fun vs H Q E => vs.length = n ∧ ∃ w ds, w.H = H ∧ COk T w ∧ Reps T w ds vs ∧ PostF T E (f ds w.st) w Q
def WE1 (E : XK) : WX := fun c d _ H => E c d H
def cCall (f : SF) (a : SA) : SE := fun σ st => (a σ st).bind fun ds st1 => f ds st1
/-- further arguments: defaults -/
def cCallD (f : SF) (dd : List D) (a : SA) : SE := fun σ st => (a σ st).bind fun ds st1 => f (ds ++ dd) st1
def permD (p : List Nat) (ds : List D) : List D := p.map fun i => ds.getD i .non
def cCallK (f : SF) (m : Nat) (p : List Nat) (a : SA) : SE := fun σ st => (a σ st).bind fun ds st1 => if ds.length = m then f (permD p ds) st1 else .fail
def fNever : SF := fun _ _ => .fail
section
variable {P : Program} {w : World} {K : PySem.W.Frag} {mg : Str → Option Value} {base : Heap} {T : Tb}
theorem start_eok {wd : Wd} {ds : List D} {vs : List V} {N : List Str} {n : Nat} (r : Reps T wd ds vs) (hl : ds.length = n) : EOk T wd (ds.map some ++ List.replicate (N.length - n) none) (L2.start N vs) := by
  have hv : vs.length = n := by rw [← r.length]; exact hl
  refine ⟨?_, fun i d h => ?_⟩
  · unfold L2.start
    rw [List.length_append, List.length_append, List.length_map, List.length_map, List.length_replicate, List.length_replicate, hl, hv]
  · by_cases hi : i < ds.length
    · rw [List.getElem?_append_left (by simpa using hi), List.getElem?_map] at h
      cases q : ds[i]? with
      | none => rw [q] at h; cases h
      | some x =>
        rw [q] at h
        cases h
        obtain ⟨v, h1, h2⟩ := r.get q
        refine ⟨v, ?_, h2⟩
        unfold L2.start
        rw [List.getElem?_append_left (by rw [List.length_map, ← r.length]; exact hi), List.getElem?_map, h1]
        rfl
    · rw [List.getElem?_append_right (by simpa using hi), List.getElem?_replicate] at h
      split at h <;> cases h
theorem postF_out {E : XK} {w0 w1 : Wd} {pick : Nat → D → Stt → List Nat} {d : D} {v : V} {Q : VK} (c0 : COk T w0) (s : Stp w0 w1) (c : COk T w1) (r : Rep T w1 d v) (h : PostF T E (okO (outD pick w0.st d w1.st)) w0 Q) : Q v w1.H := by
  cases q : outD pick w0.st d w1.st with
  | none => rw [q] at h; exact h.elim
  | some q2 =>
    obtain ⟨d', st'⟩ := q2
    rw [q] at h
    obtain ⟨w', e1, e2, s', c', r'⟩ := out_ok c0 s c r q
    rw [← e1]
    exact h w' v e2 s' c' r'
/-- THE RULE for a def -/
theorem ok_def {x qual : Str} {st : Stmt} {f : Addr} {fd : FuncData} {N ps : List Str} {k : Nat} {body : SS} {kp : Bool} {dvs : List V} {kws : List (Str × V)} (F : FunD K x qual (defArgs st) (defBody st) (defScope st) dvs kws f fd) (S : FnScope N ps (defScope st))
    (hb : ∀ (cdv : Value) (A : Around) (outer : List Env) (s : Shared) (H : Hp) (E : XK), RoomG k (A.deeper (envOfC qual (defScope st) s.heap.objs.size f cdv)) →
      SndB T (WE1 E) (cxOf (L2.CX P w) P w K mg base N qual (defScope st) f cdv A outer s H E) (defBody st) body) :
    FnG P w K mg base (k + 1) f fd ps (spS T (fnS kp ps.length N.length body) ps.length) := by
  refine fnG_of F S (fun vs H Q E h => h.1) fun cdv A outer s H vs Q E hr hsp => ?_
  obtain ⟨hl, w0, ds, rfl, c0, rs, post⟩ := hsp
  have hd : ds.length = ps.length := rs.length.trans hl
  refine ⟨_, hb cdv A outer s w0.H E hr, w0, ds.map some ++ List.replicate (N.length - ps.length) none, rfl, c0, start_eok rs hd, ?_⟩
  unfold fnS at post
  rw [if_pos hd] at post
  cases q : body (ds.map some ++ List.replicate (N.length - ps.length) none) w0.st with
  | nx σ1 st1 =>
    rw [q] at post
    intro w1 σ' e s1 c1 eo
    subst e
    exact postF_out c0 s1 c1 rep_n post
  | rt d st1 =>
    rw [q] at post
    intro w1 v e s1 c1 r1
    subst e
    exact postF_out c0 s1 c1 r1 post
  | bk σ1 st1 => rw [q] at post; exact post.elim
  | ct σ1 st1 => rw [q] at post; exact post.elim
  | fail => rw [q] at post; exact post.elim
  | exc c d σ1 st1 =>
    rw [q] at post
    intro w1 σ' v dd e s1 c1 eo r1 hn
    subst e
    simp only at post
    cases q2 : outD (pkB false) w0.st d w1.st with
    | none => rw [q2] at post; exact post.elim
    | some q3 =>
      obtain ⟨d', st'⟩ := q3
      rw [q2] at post
      obtain ⟨w', e1, e2, s', c', r'⟩ := out_ok c0 s1 c1 r1 q2
      have := post w' v dd e2 s' c' r' (by rw [e1]; exact hn)
      rw [e1] at this
      exact this
/-- a def of the text, behind the top -/
structure DF (K : PySem.W.Frag) (mg : Str → Option Value) (x : Str) (st : Stmt) (dvs : List V) where
  f : Addr
  fd : FuncData
  F : FunD K x x (defArgs st) (defBody st) (defScope st) dvs [] f fd
  m : mg x = some (.ref f)
theorem funD_mk {x : Str} {st : Stmt} {dvs : List V} {f : Addr} {oc : Value} {od an : Option Addr} {osl : Array (Option Value)} {dV kV doc pm cdv ct : Value} (l : K.lookup f = some ⟨oc, od, .func (PySem.W.fnOf x x (defArgs st) (defBody st) (defScope st) dV kV doc pm an cdv ct), osl⟩)
    (c : PySem.W.codeIn K cdv x = true) (k : PySem.W.keepIn K (.ref f) = true) (d : DflV K dV dvs) : FunD K x x (defArgs st) (defBody st) (defScope st) dvs [] f (PySem.W.fnOf x x (defArgs st) (defBody st) (defScope st) dV kV doc pm an cdv ct) :=
  ⟨⟨oc, od, dV, kV, doc, pm, an, cdv, ct, osl, rfl, l, c, d, .inl rfl⟩, k⟩
theorem hu1 {A : Around} {k : Nat} (hr : RoomG k A) : A.units + 1 < cLine := hu_of hr.r
theorem hu64 {A : Around} {k : Nat} (hr : RoomG k A) : A.units + 64 < cLine := hr.r.units
theorem hu65 {A : Around} {k : Nat} (hr : RoomG k A) : A.units + 65 < cLine := by have := hr.r.un; omega
theorem fn_never {f : Addr} {fd : FuncData} {ps : List Str} {k : Nat} : FnG P w K mg base k f fd ps (spS T fNever ps.length) :=
  ⟨fun _ _ _ _ h => h.1, fun _ _ _ _ _ _ _ _ _ _ _ _ _ h => by
    obtain ⟨_, _, _, _, _, _, h⟩ := h
    exact h.elim⟩
theorem takes_cx {N : List Str} {qual : Str} {scope : Scope} {f : Addr} {cd : Value} {A : Around} {outer : List Env} {s : Shared} {H : Hp} {E : XK} : Takes (cxOf (L2.CX P w) P w K mg base N qual scope f cd A outer s H E) (WE1 E) := takes_of rfl rfl rfl rfl
theorem owns_cx {N : List Str} {qual : Str} {scope : Scope} {f : Addr} {cd : Value} {A : Around} {outer : List Env} {s : Shared} {H : Hp} {E : XK} : PassesOwn (model P w) (cxOf (L2.CX P w) P w K mg base N qual scope f cd A outer s H E).A (cxOf (L2.CX P w) P w K mg base N qual scope f cd A outer s H E).env (cxOf (L2.CX P w) P w K mg base N qual scope f cd A outer s H E).xe :=
  passes_of (X := cxOf (L2.CX P w) P w K mg base N qual scope f cd A outer s H E) (K := fun e s'' => L2.CX P w outer H s E e s'') rfl
end
section
variable {X : Cx} {T : Tb} {W : WX} {k n : Nat} {f : Addr} {fd : FuncData} {ps : List Str} {g : SF} {dvs : List V} {dd : List D} {ds : List Value} {x : Str} {p pos : Pos} {e : Expr} {es : List Expr} {ca : SA}
theorem post_call {σ : L2.St} {w : Wd} {Q : VK} {r : R D} (h : PostR T W σ r w (KD T Q)) : PostF T (WE W σ) r w Q := by
  cases r with
  | ok d st' => exact fun w' v e s c r => h w' e s c v r
  | exc c d st' => exact fun w' v dd e s c r n => h w' v dd e s c r n
  | fail => exact h
theorem lenN : ∀ σ st ds st', cNil σ st = .ok ds st' → ds.length = ([] : List Expr).length := fun _ _ _ _ h => by cases h; rfl
theorem lenC {ce : SE} (h : ∀ σ st ds st', ca σ st = .ok ds st' → ds.length = es.length) : ∀ σ st ds st', cCons ce ca σ st = .ok ds st' → ds.length = (e :: es).length := fun σ st ds st' q => by
  unfold cCons at q
  cases q1 : ce σ st with
  | fail => rw [q1] at q; cases q
  | exc c d st' => rw [q1] at q; cases q
  | ok x s1 =>
    rw [q1] at q
    simp only [R.bind] at q
    cases q2 : ca σ s1 with
    | fail => rw [q2] at q; cases q
    | exc c d st' => rw [q2] at q; cases q
    | ok xs s2 =>
      rw [q2] at q
      cases q
      exact congrArg Nat.succ (h _ _ _ _ q2)
/-- f(e, ..) -/
theorem sCall (F : FnG X.prog X.w X.K X.mg X.base k f fd ps (spS T g ps.length)) (hr : RoomG k X.A) (hg : Gl X x) (hm : X.mg x = some (.ref f)) (hk : PySem.W.keepIn X.K (.ref f) = true) (hb : Binds X.K fd ps ds) (hd : Vals dvs ds) (hdd : ∀ w, Reps T w dd dvs) (tk : Takes X W)
    (hn : (e :: es).length + dd.length = ps.length)
    (ha : SndA T W X (e :: es) ca) (hl : ∀ σ st ds st', ca σ st = .ok ds st' → ds.length = (e :: es).length) (hdb : (x == ("__debug__" : Str)) = false) (he : starEach (e :: es) X.env = (false, eval e X.env) :: starEach es X.env) (hpl : (backTo pos (starEach es X.env)).any (·.1) = false) :
    SndE T W X (.Call (.Name x p) (e :: es) [] pos) (cCallD g dd ca) := by
  refine PE.imp (t := tCallSD (spS T g ps.length) dvs (WE W) (tA T W ca)) ⟨fun pins s σ H Q I h => ?_⟩ fun σ H Q ⟨w, σd, e0, co, eo, P⟩ => ?_
  · refine wpAny_Call_Name_kw (ld_glob I hg hm ?_ hdb)
    refine PySem.W.callWith_K (h₀ := X.base) I.ok.mod.kin hk (thn (ha.run pos pins s σ H _ I h) fun us s1 ⟨vs, H1, I1, r, q⟩ => ⟨I1.kIn, ?_⟩) he hpl
    exact wpAny_call (run_G F hr tk I1 (hb s1 us I1.kIn (by rw [← (r.append hd).length]; exact F.len _ _ _ _ q)) (r.append hd) q)
  subst e0
  refine ⟨w, σd, rfl, co, eo, ?_⟩
  have P : PostR T W σ ((ca σd w.st).bind fun ds st1 => g (ds ++ dd) st1) w (KD T Q) := P
  have B := P.bind
  cases q : ca σd w.st with
  | fail => rw [q] at B; exact B.elim
  | exc c d st' => rw [q] at B; exact B
  | ok xs st' =>
    rw [q] at B
    intro w1 e1 s1 c1 vs rs
    have K1 := B w1 e1 s1 c1
    have h1 := hl _ _ _ _ q
    refine ⟨?_, w1, xs ++ dd, rfl, c1, rs.append (hdd w1), post_call K1⟩
    rw [List.length_append, ← rs.length, ← (hdd w1).length, h1]
    exact hn
/-- f() -/
theorem sCall0 (F : FnG X.prog X.w X.K X.mg X.base k f fd ps (spS T g ps.length)) (hr : RoomG k X.A) (hg : Gl X x) (hm : X.mg x = some (.ref f)) (hk : PySem.W.keepIn X.K (.ref f) = true) (hb : Binds X.K fd ps []) (tk : Takes X W)
    (hn : ps = []) (hdb : (x == ("__debug__" : Str)) = false) : SndE T W X (.Call (.Name x p) [] [] pos) (cCallD g [] cNil) := by
  refine ⟨fun pins s σ H Q I ⟨w, σd, e0, co, eo, P⟩ => ?_⟩
  subst e0
  refine wpAny_Call_Name_kw (ld_glob I hg hm ?_ hdb)
  have P : PostR T W σ (g [] w.st) w (KD T Q) := P
  exact PySem.W.callWith_K0 I.kIn hk (wpAny_call (run_G (us := []) (vs := []) F hr tk I (hb s [] I.kIn (by rw [hn]; rfl)) .nil ⟨by rw [hn]; rfl, w, [], rfl, co, .nil, post_call P⟩))
end
theorem bindsF {K : PySem.W.Frag} {x : Str} {st : Stmt} {dvs : List V} {f : Addr} {fd : FuncData} {ps : List Str} (F : FunD K x x (defArgs st) (defBody st) (defScope st) dvs [] f fd)
    (h : ∀ (dV kV doc pm : Value) (an : Option Addr) (cdv ct : Value) (us : List Value), us.length = ps.length → bindArgs (PySem.W.fnOf x x (defArgs st) (defBody st) (defScope st) dV kV doc pm an cdv ct) ⟨us, []⟩ = pure (ps.zip us)) : Binds K fd ps [] := by
  obtain ⟨oc, od, dV, kV, doc, pm, an, cdv, ct, osl, rfl, lk, hcd, _, _⟩ := F.ex
  exact .all (h dV kV doc pm an cdv ct)
/-! ### calls by keywords -/
abbrev SndK (T : Tb) (W : WX) (X : Cx) (es : List Keyword) (c : SA) : Prop := PK X es (tA T W c)
section
variable {X : Cx} {T : Tb} {W : WX} {k m : Nat} {f : Addr} {fd : FuncData} {ps ks : List Str} {g : SF} {x : Str} {p pos kpos : Pos} {nm : Option Str} {e : Expr} {kws : List Keyword} {ca : SA} {ce : SE} {pm : List Nat}
theorem kNil : SndK T W X [] cNil := PK.imp pk_nil fun σ H Q ⟨w, σd, e, co, eo, P⟩ => by
  subst e
  exact PostR.okA co P [] .nil
theorem kCons {cr : SA} (ha : SndE T W X e ce) (hr : SndK T W X kws cr) : SndK T W X (⟨nm, e, kpos⟩ :: kws) (cCons ce cr) := by
  refine PK.imp (pk_cons ha hr) fun σ H Q ⟨w, σd, e, co, eo, P⟩ => ?_
  subst e
  refine ⟨w, σd, rfl, co, eo, P.bind.imp fun x w1 s1 c1 K1 v rv => ?_⟩
  exact ⟨w1, σd, rfl, c1, eo.mono s1.s0, K1.bind.imp fun xs w2 s2 c2 K2 vs rs => PostR.okA c2 K2 (v :: vs) (.cons (Rep.mono s2.s0 x rv) rs)⟩
/-- how keywords bind: the values in the parameters' order -/
def KwB (K : PySem.W.Frag) (fd : FuncData) (ps ks : List Str) (pm : List Nat) : Prop := ∀ (s : Shared) (ws : List Value), K.In s.heap → ws.length = ks.length → BindsTo s fd ⟨[], ks.zip ws⟩ (ps.zip (pm.map fun i => ws.getD i .none))
theorem kwF {K : PySem.W.Frag} {x : Str} {st : Stmt} {f : Addr} {fd : FuncData} {ps ks : List Str} {pm : List Nat} (F : FunD K x x (defArgs st) (defBody st) (defScope st) [] [] f fd)
    (h : ∀ (kV doc pm' : Value) (an : Option Addr) (cdv ct : Value) (ws : List Value), ws.length = ks.length → bindArgs (PySem.W.fnOf x x (defArgs st) (defBody st) (defScope st) .none kV doc pm' an cdv ct) ⟨[], ks.zip ws⟩ = pure (ps.zip (pm.map fun i => ws.getD i .none))) : KwB K fd ps ks pm := by
  obtain ⟨oc, od, dV, kV, doc, pm, an, cdv, ct, osl, rfl, lk, hcd, hD, _⟩ := F.ex
  rcases hD with ⟨_, rfl⟩ | ⟨e, _⟩
  · exact fun s ws _ hl => .of_eq (h kV doc pm an cdv ct ws hl)
  · exact absurd rfl e
theorem vals_perm {vs : List V} {ws : List Value} (r : Vals vs ws) (pm : List Nat) (h : ∀ i ∈ pm, i < vs.length) : Vals (pm.map fun i => vs.getD i .non) (pm.map fun i => ws.getD i .none) := by
  induction pm with
  | nil => exact .nil
  | cons i pm ih =>
    rw [List.map_cons, List.map_cons]
    have hi := h i List.mem_cons_self
    obtain ⟨u, h1, h2⟩ := r.get (List.getElem?_eq_getElem hi)
    refine .cons ?_ (ih fun j hj => h j (List.mem_cons_of_mem _ hj))
    rw [List.getD_eq_getElem?_getD, List.getD_eq_getElem?_getD, List.getElem?_eq_getElem hi, h1]
    exact h2
theorem reps_perm {w : Wd} {ds : List D} {vs : List V} (r : Reps T w ds vs) (pm : List Nat) (h : ∀ i ∈ pm, i < ds.length) : Reps T w (permD pm ds) (pm.map fun i => vs.getD i .non) := by
  unfold permD
  induction pm with
  | nil => exact .nil
  | cons i pm ih =>
    rw [List.map_cons, List.map_cons]
    have hi := h i List.mem_cons_self
    obtain ⟨u, h1, h2⟩ := r.get (List.getElem?_eq_getElem hi)
    refine .cons ?_ (ih fun j hj => h j (List.mem_cons_of_mem _ hj))
    rw [List.getD_eq_getElem?_getD, List.getD_eq_getElem?_getD, List.getElem?_eq_getElem hi, h1]
    exact h2
/-- f(k = e, ..) -/
theorem sCallK (F : FnG X.prog X.w X.K X.mg X.base k f fd ps (spS T g ps.length)) (hr : RoomG k X.A) (hg : Gl X x) (hm : X.mg x = some (.ref f)) (hk : PySem.W.keepIn X.K (.ref f) = true) (hb : KwB X.K fd ps ks pm) (tk : Takes X W)
    (hp : pm.length = ps.length) (hpm : ∀ i ∈ pm, i < ks.length) (hkw : SndK T W X kws ca) (hall : (backToKw pos (keywordEach kws X.env)).all (·.1.isSome) = true) (hks : (backToKw pos (keywordEach kws X.env)).filterMap (·.1) = ks) (hdb : (x == ("__debug__" : Str)) = false)
    (hpl : ((backTo pos (starEach [] X.env)).any (·.1) || (backToKw pos (keywordEach kws X.env)).any (·.1.isNone)) = false) :
    SndE T W X (.Call (.Name x p) [] kws pos) (cCallK g ks.length pm ca) := by
  refine ⟨fun pins s σ H Q I ⟨w, σd, e0, co, eo, P⟩ => ?_⟩
  subst e0
  refine wpAny_Call_Name_kw (ld_glob I hg hm ?_ hdb)
  have t0 : tA T W ca σ w.H fun vs H1 => vs.length = ks.length ∧ spS T g ps.length (pm.map fun i => vs.getD i .non) H1 Q (WE W σ) := by
    refine ⟨w, σd, rfl, co, eo, P.bind.imp fun ds w1 s1 c1 K1 vs rs => ?_⟩
    by_cases hl : ds.length = ks.length
    · rw [if_pos hl] at K1
      refine ⟨rs.length.symm.trans hl, by rw [List.length_map]; exact hp, w1, permD pm ds, rfl, c1, reps_perm rs pm (by rw [hl]; exact hpm), post_call K1⟩
    · rw [if_neg hl] at K1
      exact K1.elim
  refine PySem.W.callWith_KW0 (h₀ := X.base) I.ok.mod.kin hk hall (thn (hkw.run pos pins s σ w.H _ I t0) fun ws s2 ⟨zs, H2, I2, rz, l2, q2⟩ => ⟨I2.kIn, ?_⟩) hpl
  rw [hks]
  show wpAny _ _ (call (.ref f) ([] ++ []) (ks.zip ws)) _ _ _
  exact wpAny_call (run_G F hr tk I2 (hb s2 ws I2.kIn (rz.length.symm.trans l2)) (vals_perm rz pm (by rw [l2]; exact hpm)) q2)
end
/-! ### the law's promise -/
theorem head_sp {K : PySem.W.Frag} {fa : Nat → Addr} {f : SF} {n : Nat} {H : Hp} {a : Addr} {ns : List Int} (hf : ∃ st', f [.scr ns] [] = .ok (.bl true) st') (hO : Only H) (hS : SqL K H a (ns.map V.int)) : spS ⟨fa, K⟩ f 1 [.ref a] H (fun v _ => v = .bl true) fun _ _ _ => False := by
  obtain ⟨st', e⟩ := hf
  refine ⟨rfl, ⟨[], [], H, []⟩, [.scr ns], rfl, ⟨rfl, fun m n a om on h => by simp at h, fun n o a h => by simp at h, fun a h => by cases h⟩, .one ?_, ?_⟩
  · simp only [Rep]
    refine ⟨a, rfl, ?_⟩
    rcases hS with (h | ⟨o, h⟩) | ⟨o, its, n, h⟩
    · rcases hO a with z | ⟨o, xs, z⟩
      · rw [z] at h; cases h
      · rw [z] at h; cases h
    · refine .inl ⟨o, h, ?_⟩
      rintro (⟨n, x, h1, _⟩ | h1)
      · simp at h1
      · cases h1
    · exact .inr ⟨o, its, n, h⟩
  · show PostF _ _ (f [.scr ns] []) _ _
    rw [e]
    intro w' v _ _ _ r
    exact rep_bl r
end MP


/-! MpMore: stores at places, repr, bit_length. -/
namespace MP
open PySem PySem.Spec PyProof.Rows L2

/-! ### x[i] = v -/
def setKey (k : Key) (d : D) : List Key → List D → List D
  | j :: ks, x :: xs => if j = k then d :: setKey k d ks xs else x :: setKey k d ks xs
  | _, _ => []
def putAt (x y d : D) (st : Stt) : Option Stt := match x with
  | .cel n => match st[n]? with
    | some (some (.lst xs)) => match y with
      | .int i => match ixN xs.length i with
        | some j => some (st.set n (some (.lst (xs.set j d))))
        | none => none
      | _ => none
    | some (some (.dk ks xs)) => match keyD y with
      | some k => if ks.length < sizeLine ∧ ks.length = xs.length then
          if keyIn k ks = true then some (st.set n (some (.dk ks (setKey k d ks xs)))) else some (st.set n (some (.dk (ks ++ [k]) (xs ++ [d]))))
        else none
      | none => none
    | _ => none
  | _ => none
def gAt (o i : SE) : SGt := fun d σ st => match o σ st with
  | .ok x st1 => match i σ st1 with
    | .ok y st2 => match putAt x y d st2 with
      | some st3 => some (σ, st3)
      | none => none
    | _ => none
  | _ => none
theorem zip_put {ks : List Key} {k : Key} {v : V} : ∀ {vs : List V}, ks.length = vs.length → keyIn k ks = true → ∃ us, putK (ks.zip vs) k v = ks.zip us ∧ ks.length = us.length ∧ (∀ (T : Tb) (w : Wd) (ds : List D) (d : D), Reps T w ds vs → Rep T w d v → Reps T w (setKey k d ks ds) us) := by
  intro vs hl hk
  have any : ((ks.zip vs).any fun kv => decide (kv.1 = k)) = true := by
    unfold keyIn at hk
    induction ks generalizing vs with
    | nil => cases hk
    | cons j ks ih =>
      cases vs with
      | nil => cases hl
      | cons u vs =>
        rw [List.zip_cons_cons, List.any_cons]
        rw [List.any_cons] at hk
        rcases (Bool.or_eq_true _ _).mp hk with h | h
        · rw [h]; rfl
        · rw [ih (by simpa using hl) h, Bool.or_true]
  unfold putK
  rw [if_pos any]
  clear any hk
  induction ks generalizing vs with
  | nil =>
    cases vs with
    | nil => exact ⟨[], rfl, rfl, fun T w ds d r _ => by
        simp only [setKey]; exact .nil⟩
    | cons _ _ => cases hl
  | cons j ks ih =>
    cases vs with
    | nil => cases hl
    | cons u vs =>
      obtain ⟨us, e1, e2, e3⟩ := ih (vs := vs) (by simpa using hl)
      by_cases h : j = k
      · refine ⟨v :: us, ?_, by simpa using e2, fun T w ds d r rd => ?_⟩
        · rw [List.zip_cons_cons, List.map_cons, if_pos h, e1]; rfl
        · cases ds with
          | nil => simp [Reps] at r
          | cons x xs =>
            simp only [Reps] at r
            obtain ⟨_, _, q, r1, r2⟩ := r
            cases q
            simp only [setKey]
            rw [if_pos h]
            exact .cons rd (e3 T w xs d r2 rd)
      · refine ⟨u :: us, ?_, by simpa using e2, fun T w ds d r rd => ?_⟩
        · rw [List.zip_cons_cons, List.map_cons, if_neg h, e1]; rfl
        · cases ds with
          | nil => simp [Reps] at r
          | cons x xs =>
            simp only [Reps] at r
            obtain ⟨_, _, q, r1, r2⟩ := r
            cases q
            simp only [setKey]
            rw [if_neg h]
            exact .cons r1 (e3 T w xs d r2 rd)
theorem zip_new {ks : List Key} {k : Key} {v : V} {vs : List V} (hl : ks.length = vs.length) (hk : keyIn k ks = false) : putK (ks.zip vs) k v = (ks ++ [k]).zip (vs ++ [v]) := by
  have any : ((ks.zip vs).any fun kv => decide (kv.1 = k)) = false := by
    unfold keyIn at hk
    induction ks generalizing vs with
    | nil => rfl
    | cons j ks ih =>
      cases vs with
      | nil => rfl
      | cons u vs =>
        rw [List.zip_cons_cons, List.any_cons]
        rw [List.any_cons] at hk
        rw [Bool.or_eq_false_iff] at hk ⊢
        exact ⟨hk.1, ih (by simpa using hl) hk.2⟩
  unfold putK
  rw [any, if_neg Bool.false_ne_true, List.zip_append hl]
  rfl
section
variable {T : Tb} {X : Cx} {W : WX} {o i : Expr} {co ci : SE} {pos : Pos}
theorem PSet.or {X : Cx} {r r' : TSet} (h : PSet X r) (h' : PSet X r') : PSet X (fun o i v H Q => r o i v H Q ∨ r' o i v H Q) := fun pins s σ H o i v ov iv u Q I a b c q => q.elim (h pins s σ H o i v ov iv u Q I a b c) (h' pins s σ H o i v ov iv u Q I a b c)
/-- o[i] as a target -/
theorem tgAt (hu : X.A.units + 1 < cLine) (ho : SndE T W0 X o co) (hi : SndE T W0 X i ci) (ha : ∀ v, assign (.Subscript o i pos) X.env v = (do
      let ov ← holding [v] (eval o X.env)
      let iv ← holding [v, ov] (eval i X.env)
      standAt pos
      holding [v, ov, iv] (setItem ov iv v)
      release [v, ov, iv] [])) : SndG T X (.Subscript o i pos) [] (gAt co ci) := by
  refine PG.imp (pg_sub ho hi (PSet.or set_list (set_dict hu)) ha) fun v σ H Q ⟨w, σd, d, e, c, eo, rv, P⟩ => ?_
  subst e
  unfold gAt at P
  cases q1 : co σd w.st with
  | fail => rw [q1] at P; exact P.elim
  | exc _ _ _ => rw [q1] at P; exact P.elim
  | ok x st1 =>
    rw [q1] at P
    refine ⟨w, σd, rfl, c, eo, ?_⟩
    rw [q1]
    intro w1 e1 s1 c1 xv rx
    subst e1
    simp only at P
    cases q2 : ci σd w1.st with
    | fail => rw [q2] at P; exact P.elim
    | exc _ _ _ => rw [q2] at P; exact P.elim
    | ok y st2 =>
      rw [q2] at P
      refine ⟨w1, σd, rfl, c1, eo.mono s1.s0, ?_⟩
      rw [q2]
      intro w2 e2 s2 c2 yv ry
      subst e2
      simp only at P
      have rx2 := Rep.mono s2.s0 x rx
      have rv2 := Rep.mono (s1.trans s2).s0 d rv
      have eo2 := eo.mono (s1.trans s2).s0
      cases q3 : putAt x y d w2.st with
      | none => rw [q3] at P; exact P.elim
      | some st3 =>
        rw [q3] at P
        unfold putAt at q3
        split at q3
        · rename_i n
          simp only [Rep] at rx2
          obtain ⟨a, rfl, han⟩ := rx2
          split at q3
          · rename_i xs hx
            obtain ⟨us, h1, h2⟩ := c2.cell n _ a hx han
            split at q3
            · rename_i k
              split at q3
              · rename_i j hj
                cases q3
                rw [h2.length] at hj
                exact .inl ⟨a, us, k, j, rfl, rep_int ry, h1, hj, P { w2 with H := upd w2.H a (.lst (us.set j v)), st := w2.st.set n (some (.lst (xs.set j d))) } σ rfl ((s1.trans s2).trans (put_stp c2 hx han)) (put_ok c2 hx han fun w' s' e => ⟨_, e, (Rep.mono s' _ rv2 |> fun z => Reps.set z j (Reps.mono s' _ h2))⟩) (eo2.mono (put_stp c2 hx han).s0) rfl fun _ _ => rfl⟩
              · cases q3
            · cases q3
          · rename_i ks xs hx
            obtain ⟨us, h1, hl, h2⟩ := c2.cell n _ a hx han
            split at q3
            · rename_i k hk
              split at q3
              · rename_i hz
                have hzl : (ks.zip us).length < sizeLine := by rw [List.length_zip, ← hl, Nat.min_self]; exact hz.1
                split at q3
                · rename_i hin
                  cases q3
                  obtain ⟨us', e1, e2, e3⟩ := zip_put (v := v) hl hin
                  have dp := DPut.k (v := v) (k := k) h1 hzl
                  rw [e1] at dp
                  rw [← keyD_ok ry hk] at dp
                  exact .inr ⟨a, _, rfl, dp, P { w2 with H := upd w2.H a (.dK (ks.zip us')), st := w2.st.set n (some (.dk ks (setKey k d ks xs))) } σ rfl ((s1.trans s2).trans (put_stp c2 hx han)) (put_ok c2 hx han fun w' s' e => ⟨_, e, e2, e3 T w' xs d (Reps.mono s' _ h2) (Rep.mono s' _ rv2)⟩) (eo2.mono (put_stp c2 hx han).s0) rfl fun _ _ => rfl⟩
                · rename_i hin
                  cases q3
                  have dp := DPut.k (v := v) (k := k) h1 hzl
                  rw [zip_new hl (by simpa using hin)] at dp
                  rw [← keyD_ok ry hk] at dp
                  exact .inr ⟨a, _, rfl, dp, P { w2 with H := upd w2.H a (.dK ((ks ++ [k]).zip (us ++ [v]))), st := w2.st.set n (some (.dk (ks ++ [k]) (xs ++ [d]))) } σ rfl ((s1.trans s2).trans (put_stp c2 hx han)) (put_ok c2 hx han fun w' s' e => ⟨_, e, by simp [hl], (Reps.mono s' _ h2).append (.one (Rep.mono s' _ rv2))⟩) (eo2.mono (put_stp c2 hx han).s0) rfl fun _ _ => rfl⟩
              · cases q3
            · cases q3
          · cases q3
        · cases q3
end

/-! ### x.bit_length() -/
def opBits : D → Stt → Option N := fun x _ => match x with
  | .int i => some (.v (.int (Builtin.Int.intBits i : Nat)))
  | _ => none
section
variable {T : Tb} {X : Cx} {W : WX} {o : Expr} {co : SE} {apos pos : Pos}
theorem sBits (ho : SndE T W X o co) (hb : attributeBase o "bit_length" X.env (eval o X.env) = eval o X.env) (hl : (apos.endLine == pos.line) = true) : SndE T W X (.Call (.Attribute o "bit_length" apos) [] [] pos) (cUn opBits co) := by
  refine PE.imp (pe_bits ho hb hl) fun σ H Q ⟨w, σd, e, c, eo, P⟩ => ?_
  subst e
  refine ⟨w, σd, rfl, c, eo, P.bind.imp fun x w1 s1 c1 K1 v rv => ?_⟩
  have K2 := K1.fin c1
  cases x with
  | int i => exact ⟨i, rep_int rv, K2 _ (rep_i _)⟩
  | _ => exact K2.elim
end

/-! ### repr -/
mutual
/-- data whose text is short enough -/
def shw : PyData → Bool
  | .none => true
  | .bool _ => true
  | .int i => decide (i.natAbs.log2 < 1900)
  | .str x => x.cps.toList.all fun c => decide (c < 16 ^ 8)
  | .list xs => shws xs
  | .tuple xs => shws xs
  | .dict _ => false
def shws : List PyData → Bool
  | [] => true
  | x :: xs => shw x && shws xs
end
mutual
theorem shw_ok : ∀ d : PyData, shw d = true → d.leavesShort 1901 = true ∧ d.showable = true ∧ d.hasDict = false
  | .none, _ => ⟨rfl, rfl, rfl⟩
  | .bool _, _ => ⟨rfl, rfl, rfl⟩
  | .int i, h => by
    have h1 : i.natAbs.log2 < 1900 := by simpa only [shw, decide_eq_true_eq] using h
    have h2 := int_text_length_le (a := i) (k := 1900) (by decide) h1
    refine ⟨?_, ?_, rfl⟩
    · simp only [PyData.leavesShort, decide_eq_true_eq]
      show (Str.ofString (toString i)).length ≤ 1901
      rw [PySem.ofString_length]
      exact h2
    · simp only [PyData.showable, decide_eq_true_eq]
      omega
  | .str x, h => by
    simp only [shw] at h
    refine ⟨?_, rfl, rfl⟩
    simp only [PyData.leavesShort]
    exact h
  | .list xs, h => by
    have := shws_ok xs (by simpa only [shw] using h)
    exact ⟨by simpa only [PyData.leavesShort] using this.1, by simpa only [PyData.showable] using this.2.1, by simpa only [PyData.hasDict] using this.2.2⟩
  | .tuple xs, h => by
    have := shws_ok xs (by simpa only [shw] using h)
    exact ⟨by simpa only [PyData.leavesShort] using this.1, by simpa only [PyData.showable] using this.2.1, by simpa only [PyData.hasDict] using this.2.2⟩
  | .dict _, h => by simp [shw] at h
theorem shws_ok : ∀ ds : List PyData, shws ds = true → PyData.leavesShortAll 1901 ds = true ∧ PyData.showableAll ds = true ∧ PyData.hasDictAll ds = false
  | [], _ => ⟨rfl, rfl, rfl⟩
  | x :: xs, h => by
    simp only [shws, Bool.and_eq_true] at h
    have a := shw_ok x h.1
    have b := shws_ok xs h.2
    refine ⟨?_, ?_, ?_⟩
    · simp only [PyData.leavesShortAll, a.1, b.1, Bool.and_self]
    · simp only [PyData.showableAll, a.2.1, b.2.1, Bool.and_self]
    · simp only [PyData.hasDictAll, a.2.2, b.2.2, Bool.or_self]
end
theorem sizeLine_val : sizeLine = 16777216 := by decide
def fRepr : List D → Stt → Option N := fun ds st => match ds with
  | [d] => match py st d with
    | some p => if shw p = true ∧ p.bulk ≤ 8000 ∧ p.depth < 60 then (match p with
      | .list _ => some (.v (.str p.shown))
      | .tuple _ => some (.v (.str p.shown))
      | .int _ => some (.v (.str p.shown))
      | _ => none) else none
    | none => none
  | _ => none
section
variable {T : Tb} {X : Cx}
theorem call_reprD (hg : X.A.guards = some []) (hu : X.A.units + 64 < cLine) : CallR X (.builtin "repr") (fun xs H Q => ∃ (a : Addr) (d : PyData), xs = [.ref a] ∧ Dp X.K H (.ref a) d ∧ d.showable = true ∧ d.hasDict = false ∧ d.depth < 60 ∧ d.shown.length ≤ sizeLine ∧ Q (.str d.shown) H) := by
  intro pins s σ H xs us Q I r h
  obtain ⟨a, d, rfl, hd, hs, hn, hde, hz, q⟩ := h
  obtain rfl := Vals.ref1 r
  obtain ⟨as, ra⟩ := Dp.reads I d (.ref a) (.ref a) hd rfl
  exact repr_of_reads' ra hs (fun z => by rw [hn] at z; cases z) hg (by omega) (fun _ _ e => e) (fun h' u tk hk => ⟨.str d.shown, H, I.kept (t' := tk) hk, ⟨u, rfl⟩, q⟩) hz
theorem bRepr (hg : X.A.guards = some []) (hu : X.A.units + 64 < cLine) : CallS T X (.builtin "repr") fRepr := by
  refine ⟨_, CallR.or (call_reprD hg hu) SkE.call_repr_int, fun w vs ds Q c r P => ?_⟩
  unfold fRepr at P
  split at P
  · rename_i d
    obtain ⟨v, rfl, r1⟩ := reps1 r
    split at P
    · rename_i p hp
      have dp := py_dp (K := X.K) c r1 hp
      split at P
      · rename_i hk
        have ok := shw_ok p hk.1
        have hz : p.shown.length ≤ sizeLine := by
          have := PyData.shown_le_bulk 1901 (by decide) p ok.1
          have h2 : 1903 * p.bulk ≤ 1903 * 8000 := Nat.mul_le_mul_left _ hk.2.1
          rw [sizeLine_val]
          omega
        split at P
        · have q := P _ (rep_s _)
          cases dp
          exact .inl ⟨_, _, rfl, .lst ‹_› ‹_›, ok.2.1, ok.2.2, hk.2.2, hz, q⟩
        · have q := P _ (rep_s _)
          cases dp
          exact .inl ⟨_, _, rfl, .tup ‹_› ‹_›, ok.2.1, ok.2.2, hk.2.2, hz, q⟩
        · rename_i i
          have q := P _ (rep_s _)
          cases dp
          have h1 : i.natAbs.log2 < 1900 := by simpa only [shw, decide_eq_true_eq] using hk.1
          exact .inr ⟨i, rfl, by omega, q⟩
        · exact P.elim
      · exact P.elim
    · exact P.elim
  · exact P.elim
end
end MP


/-! MpEval: the combinators applied, for simp; what is left behind a def. -/
namespace MP
open PySem PySem.Spec PyProof.Rows L2
section
variable (σ : Ev) (st : Stt)
@[simp] theorem eSeq (a b : SS) : cSeq a b σ st = match a σ st with
  | .nx σ1 st1 => b σ1 st1
  | r => r := (rfl)
@[simp] theorem eEnd : cEnd σ st = .nx σ st := (rfl)
@[simp] theorem eDrop (a : SE) : cDrop a σ st = (a σ st).st σ fun _ st1 => .nx σ st1 := (rfl)
@[simp] theorem eRet (a : SE) : cRet a σ st = (a σ st).st σ fun d st1 => .rt d st1 := (rfl)
@[simp] theorem eRetN : cRetN σ st = .rt .non st := (rfl)
@[simp] theorem eIfS (t : SB) (a b : SS) : cIfS t a b σ st = (t σ st).st σ fun k st1 => if k = true then a σ st1 else b σ st1 := (rfl)
@[simp] theorem eBrk : cBrk σ st = .bk σ st := (rfl)
@[simp] theorem eCt : cCt σ st = .ct σ st := (rfl)
@[simp] theorem eSet (i : Nat) (a : SE) : cSet i a σ st = (a σ st).st σ fun d st1 => .nx (σ.set i (some d)) st1 := (rfl)
@[simp] theorem ePar (i j : Nat) (a b : SE) : cPar i j a b σ st = (a σ st).st σ fun d st1 => (b σ st1).st σ fun e st2 => .nx ((σ.set i (some d)).set j (some e)) st2 := (rfl)
@[simp] theorem eAsg (g : SGt) (a : SE) : cAsg g a σ st = (a σ st).st σ fun d st1 => match g d σ st1 with
  | some q => .nx q.1 q.2
  | none => .fail := (rfl)
@[simp] theorem eFor (it : SI) (g : SGt) (b : SS) : cFor it g b σ st = (it σ st).st σ fun q st1 => forGo q.2 g b q.1 σ st1 := (rfl)
@[simp] theorem eWh (n : Nat) (t : SB) (b : SS) : cWh n t b σ st = whGo t b n σ st := (rfl)
@[simp] theorem eV (i : Nat) : cV i σ st = match σ[i]? with
  | some (some d) => .ok d st
  | _ => .fail := (rfl)
@[simp] theorem eC (d : D) : cC d σ st = .ok d st := (rfl)
@[simp] theorem eBin (k : Bool) (f : D → D → Stt → Option N) (a b : SE) : cBin k f a b σ st = (a σ st).bind fun x st1 => (b σ st1).bind fun y st2 => fin k (f x y st2) st2 := (rfl)
@[simp] theorem eUn (f : D → Stt → Option N) (a : SE) : cUn f a σ st = (a σ st).bind fun x st1 => fin false (f x st1) st1 := (rfl)
@[simp] theorem eNil : cNil σ st = .ok [] st := (rfl)
@[simp] theorem eCons (a : SE) (r : SA) : cCons a r σ st = (a σ st).bind fun x st1 => (r σ st1).bind fun xs st2 => .ok (x :: xs) st2 := (rfl)
@[simp] theorem eB (k : Bool) (f : List D → Stt → Option N) (a : SA) : cB k f a σ st = (a σ st).bind fun xs st1 => fin k (f xs st1) st1 := (rfl)
@[simp] theorem eIf (t : SB) (a b : SE) : cIf t a b σ st = (t σ st).bind fun k st1 => if k = true then a σ st1 else b σ st1 := (rfl)
@[simp] theorem eAndT (a b : SB) : cAndT a b σ st = (a σ st).bind fun k st1 => if k = true then b σ st1 else .ok false st1 := (rfl)
@[simp] theorem eOrT (a b : SB) : cOrT a b σ st = (a σ st).bind fun k st1 => if k = true then .ok true st1 else b σ st1 := (rfl)
@[simp] theorem eNotT (a : SB) : cNotT a σ st = (a σ st).bind fun k st1 => .ok (!k) st1 := (rfl)
@[simp] theorem eTst (a : SE) : cTst a σ st = (a σ st).bind fun x st1 => match x with
  | .bl k => .ok k st1
  | _ => .fail := (rfl)
@[simp] theorem eAndV (a b : SE) : cAndV a b σ st = (a σ st).bind fun x st1 => match x with
  | .bl k => if k = true then b σ st1 else .ok (.bl false) st1
  | _ => .fail := (rfl)
@[simp] theorem eOrV (a b : SE) : cOrV a b σ st = (a σ st).bind fun x st1 => match x with
  | .bl k => if k = true then .ok (.bl true) st1 else b σ st1
  | _ => .fail := (rfl)
@[simp] theorem eNotV (a : SE) : cNotV a σ st = (a σ st).bind fun x st1 => match x with
  | .bl k => .ok (.bl (!k)) st1
  | _ => .fail := (rfl)
@[simp] theorem eLst (k : Bool) (a : SA) : cLst k a σ st = (a σ st).bind fun ds st1 => fin k (if ds.length ≤ sizeLine then some (.l ds) else none) st1 := (rfl)
@[simp] theorem eTup (a : SA) : cTup a σ st = (a σ st).bind fun ds st1 => fin false (if ds.length ≤ sizeLine then some (.t ds) else none) st1 := (rfl)
@[simp] theorem eDNew (k : Bool) : cDNew k σ st = fin k (some (.k [] [])) st := (rfl)
@[simp] theorem eSl (k : Bool) (a : SE) (lo hi : Option SE) : cSl k a lo hi σ st = (a σ st).bind fun x st1 => (cPart lo σ st1).bind fun l st2 => (cPart hi σ st2).bind fun h st3 => fin k (opSl x l h st3) st3 := (rfl)
@[simp] theorem ePart0 : cPart none σ st = .ok none st := (rfl)
@[simp] theorem ePart1 (a : SE) : cPart (some a) σ st = (a σ st).bind fun x st1 => match x with
  | .int i => .ok (some i) st1
  | _ => .fail := (rfl)
@[simp] theorem eMut (f : FM) (o : SE) (a : SA) : cMut f o a σ st = (o σ st).bind fun x st1 => if isL st1 x = true then (a σ st1).bind fun ds st2 => putR (f x ds st2) st2 else .fail := (rfl)
@[simp] theorem eMeth (f : D → List D → Stt → Option N) (o : SE) (a : SA) : cMeth f o a σ st = (o σ st).bind fun x st1 => if isL st1 x = true then (a σ st1).bind fun ds st2 => fin false (f x ds st2) st2 else .fail := (rfl)
@[simp] theorem eCallD (f : SF) (dd : List D) (a : SA) : cCallD f dd a σ st = (a σ st).bind fun ds st1 => f (ds ++ dd) st1 := (rfl)
@[simp] theorem eCallK (f : SF) (m : Nat) (p : List Nat) (a : SA) : cCallK f m p a σ st = (a σ st).bind fun ds st1 => if ds.length = m then f (permD p ds) st1 else .fail := (rfl)
@[simp] theorem eLc (k : Bool) (it : SI) (vs : List Nat) (g : SGt) (tt : SB) (elt : SE) : cLc k it vs g tt elt σ st = (it σ st).bind fun q st1 => match lcGo q.2 g tt elt (wipeD σ vs) q.1 st1 with
  | some r => fin k (if r.1.length ≤ sizeLine then some (.l r.1) else none) r.2
  | none => .fail := (rfl)
@[simp] theorem eYes : cYes σ st = .ok true st := (rfl)
@[simp] theorem eValL (a : SE) : iValL a σ st = (a σ st).bind fun d st1 => match itemsQ st1 d with
  | some ds => .ok ds st1
  | none => .fail := (rfl)
@[simp] theorem eValT (a : SE) : iValT a σ st = (a σ st).bind fun d st1 => match asT d with
  | some ds => .ok (ds, []) st1
  | none => .fail := (rfl)
theorem p62 : (2 : Int) ^ 62 = 4611686018427387904 := by decide
@[simp] theorem eR1 (a : SE) : iR1 a σ st = (a σ st).bind fun d st1 => match d with
  | .int j => if -4611686018427387904 ≤ j ∧ j < 4611686018427387904 then .ok (rngD 0 j.toNat, []) st1 else .fail
  | _ => .fail := by
  rw [← p62]
  rfl
@[simp] theorem eR2 (a b : SE) : iR2 a b σ st = (a σ st).bind fun d st1 => (b σ st1).bind fun e st2 => match d, e with
  | .int i, .int j => if -4611686018427387904 ≤ i ∧ i < 4611686018427387904 ∧ -4611686018427387904 ≤ j ∧ j < 4611686018427387904 then .ok (rngD i (j - i).toNat, []) st2 else .fail
  | _, _ => .fail := by
  rw [← p62]
  rfl
@[simp] theorem eEn (a : SE) : iEn a σ st = (a σ st).bind fun d st1 => match itemsL st1 d with
  | some q => .ok (q.1.zipIdx.map fun p => D.tup [.int (p.2 : Nat), p.1], q.2) st1
  | none => .fail := (rfl)
@[simp] theorem eZp (a b : SE) : iZp a b σ st = (a σ st).bind fun d st1 => (b σ st1).bind fun e st2 => match itemsL st2 d, itemsL st2 e with
  | some q, some r => .ok ((q.1.zip r.1).map fun p => D.tup [p.1, p.2], q.2 ++ r.2) st2
  | _, _ => match zipT d e with
    | some q => .ok q st2
    | none => .fail := (rfl)
end
section
variable (st : Stt)
@[simp] theorem fin_v (b : Bool) (d : D) : fin b (some (.v d)) st = .ok d st := (rfl)
@[simp] theorem fin_t (b : Bool) (ds : List D) : fin b (some (.t ds)) st = .ok (.tup ds) st := (rfl)
@[simp] theorem fin_lF (ds : List D) : fin false (some (.l ds)) st = .ok (.lst ds) st := (rfl)
@[simp] theorem fin_lT (ds : List D) : fin true (some (.l ds)) st = .ok (.cel st.length) (st ++ [some (.lst ds)]) := (rfl)
@[simp] theorem fin_kF (ks : List Key) (ds : List D) : fin false (some (.k ks ds)) st = .ok (.dk ks ds) st := (rfl)
@[simp] theorem fin_kT (ks : List Key) (ds : List D) : fin true (some (.k ks ds)) st = .ok (.cel st.length) (st ++ [some (.dk ks ds)]) := (rfl)
@[simp] theorem fin_none (b : Bool) : fin b none st = .fail := (rfl)
@[simp] theorem chk_nil : chk [] st = true := (rfl)
@[simp] theorem forGo_nil (g : SGt) (b : SS) (σ : Ev) : forGo [] g b [] σ st = .nx σ st := (rfl)
@[simp] theorem gN_e (i : Nat) (d : D) (σ : Ev) : gN i d σ st = some (σ.set i (some d), st) := (rfl)
@[simp] theorem gs0_e (σ : Ev) : gs0 [] σ st = some (σ, st) := (rfl)
@[simp] theorem gsC_e (g : SGt) (r : SGs) (d : D) (ds : List D) (σ : Ev) : gsC g r (d :: ds) σ st = match g d σ st with
  | some q => r ds q.1 q.2
  | none => none := (rfl)
@[simp] theorem gT_e (r : SGs) (ds : List D) (σ : Ev) : gT r (.tup ds) σ st = r ds σ st := (rfl)
@[simp] theorem gAt_e (o i : SE) (d : D) (σ : Ev) : gAt o i d σ st = match o σ st with
  | .ok x st1 => match i σ st1 with
    | .ok y st2 => match putAt x y d st2 with
      | some st3 => some (σ, st3)
      | none => none
    | _ => none
  | _ => none := (rfl)
end
/-- small sizes -/
@[simp] theorem le_size {n : Nat} (h : n ≤ 16777216) : n ≤ sizeLine := by rw [sizeLine_val]; exact h
theorem ok_size {n : Nat} (h : n ≤ 16777216 := by omega) : (n ≤ sizeLine) = True := by rw [sizeLine_val]; exact eq_true h
theorem ok_size' {n : Nat} (h : n < 16777216 := by omega) : (n < sizeLine) = True := by rw [sizeLine_val]; exact eq_true h

/-! ### cells at the end of the store -/
section
variable {α : Type} (st l : List α)
@[simp] theorem app_at (j : Nat) : (st ++ l)[st.length + j]? = l[j]? := by
  rw [List.getElem?_append_right (Nat.le_add_right _ _), Nat.add_sub_cancel_left]
@[simp] theorem app_at0 : (st ++ l)[st.length]? = l[0]? := app_at st l 0
@[simp] theorem app_set (j : Nat) (x : α) : (st ++ l).set (st.length + j) x = st ++ l.set j x := by
  rw [List.set_append_right _ _ (Nat.le_add_right _ _), Nat.add_sub_cancel_left]
@[simp] theorem app_set0 (x : α) : (st ++ l).set st.length x = st ++ l.set 0 x := app_set st l 0 x
theorem app_lt {n : Nat} {x : α} (h : st[n]? = some x) : (st ++ l)[n]? = some x := by
  rw [List.getElem?_append_left (List.getElem?_eq_some_iff.mp h).1]; exact h
theorem app_set_lt {n : Nat} {x y : α} (h : st[n]? = some x) : (st ++ l).set n y = st.set n y ++ l := List.set_append_left _ _ (List.getElem?_eq_some_iff.mp h).1
end

/-! ### what is left -/
mutual
/-- data without new cells -/
def old (n0 : Nat) : D → Bool
  | .lst xs => olds_ n0 xs
  | .tup xs => olds_ n0 xs
  | .dk _ xs => olds_ n0 xs
  | .dt _ xs => olds_ n0 xs
  | .cel n => decide (n < n0)
  | .non => true
  | .bl _ => true
  | .int _ => true
  | .str _ => true
  | .ty _ => true
  | .fn _ => true
  | .scr _ => true
def olds_ (n0 : Nat) : List D → Bool
  | [] => true
  | d :: ds => old n0 d && olds_ n0 ds
end
mutual
theorem rsF_old (n0 : Nat) (ks : List Nat) (st : Stt) (below : D → Option D) : ∀ d : D, old n0 d = true → rsF n0 ks st below d = some d
  | .non, _ => rfl
  | .bl _, _ => rfl
  | .int _, _ => rfl
  | .str _, _ => rfl
  | .ty _, _ => rfl
  | .fn _, _ => rfl
  | .scr _, _ => rfl
  | .cel n, h => by
    simp only [old, decide_eq_true_eq] at h
    simp [rsF, h]
  | .lst xs, h => by simp only [old] at h; simp only [rsF, rsFs_old n0 ks st below xs h]; rfl
  | .tup xs, h => by simp only [old] at h; simp only [rsF, rsFs_old n0 ks st below xs h]; rfl
  | .dk _ xs, h => by simp only [old] at h; simp only [rsF, rsFs_old n0 ks st below xs h]; rfl
  | .dt _ xs, h => by simp only [old] at h; simp only [rsF, rsFs_old n0 ks st below xs h]; rfl
theorem rsFs_old (n0 : Nat) (ks : List Nat) (st : Stt) (below : D → Option D) : ∀ ds : List D, olds_ n0 ds = true → rsFs n0 ks st below ds = some ds
  | [], _ => rfl
  | d :: ds, h => by
    simp only [olds_, Bool.and_eq_true] at h
    simp only [rsFs, rsF_old n0 ks st below d h.1, rsFs_old n0 ks st below ds h.2]
end
theorem rs_old {n0 : Nat} {ks : List Nat} {st : Stt} {d : D} (h : old n0 d = true) : rs n0 ks st d = some d := rsF_old n0 ks st _ d h
theorem mapO_id {f : D → Option D} : ∀ {ds : List D}, (∀ d ∈ ds, f d = some d) → mapO f ds = some ds
  | [], _ => rfl
  | d :: ds, h => by
    unfold mapO
    rw [h d List.mem_cons_self, mapO_id fun x hx => h x (List.mem_cons_of_mem _ hx)]
theorem olds_mem {n0 : Nat} : ∀ {ds : List D}, olds_ n0 ds = true → ∀ d ∈ ds, old n0 d = true
  | d :: ds, h, x, hx => by
    simp only [olds_, Bool.and_eq_true] at h
    rcases List.mem_cons.mp hx with rfl | hx
    · exact h.1
    · exact olds_mem h.2 x hx
theorem mapO_old {n0 k : Nat} {ks : List Nat} {st : Stt} {ds : List D} (h : olds_ n0 ds = true) : mapO (rsN n0 ks st k) ds = some ds := mapO_id fun d hd => by
  have := olds_mem h d hd
  cases k with
  | zero => exact rsF_old _ _ _ _ d this
  | succ k => exact rsF_old _ _ _ _ d this
mutual
theorem cellsF_old (n0 : Nat) (below : Nat → List Nat) : ∀ d : D, old n0 d = true → cellsF n0 below d = []
  | .non, _ => rfl
  | .bl _, _ => rfl
  | .int _, _ => rfl
  | .str _, _ => rfl
  | .ty _, _ => rfl
  | .fn _, _ => rfl
  | .scr _, _ => rfl
  | .cel n, h => by
    simp only [old, decide_eq_true_eq] at h
    simp [cellsF, h]
  | .lst xs, h => by simp only [old] at h; simp only [cellsF]; exact cellsFs_old n0 below xs h
  | .tup xs, h => by simp only [old] at h; simp only [cellsF]; exact cellsFs_old n0 below xs h
  | .dk _ xs, h => by simp only [old] at h; simp only [cellsF]; exact cellsFs_old n0 below xs h
  | .dt _ xs, h => by simp only [old] at h; simp only [cellsF]; exact cellsFs_old n0 below xs h
theorem cellsFs_old (n0 : Nat) (below : Nat → List Nat) : ∀ ds : List D, olds_ n0 ds = true → cellsFs n0 below ds = []
  | [], _ => rfl
  | d :: ds, h => by
    simp only [olds_, Bool.and_eq_true] at h
    simp only [cellsFs, cellsF_old n0 below d h.1, cellsFs_old n0 below ds h.2, List.append_nil]
end
theorem cellsN_old {n0 : Nat} {st : Stt} {k : Nat} {d : D} (h : old n0 d = true) : cellsN n0 st k d = [] := by
  cases k with
  | zero => exact cellsF_old _ _ d h
  | succ k => exact cellsF_old _ _ d h
theorem pk_old {kp : Bool} {n0 : Nat} {st : Stt} {d : D} (h : old n0 d = true) : pkB kp n0 d st = [] := by
  cases kp with
  | false => rfl
  | true => show ddN (cellsN n0 st 3 d) = []; rw [cellsN_old h]; rfl
theorem olds_same {n0 : Nat} {ks : List Nat} {st : Stt} : ∀ (r g : Stt), olds n0 ks st r (r ++ g) = some r
  | [], _ => rfl
  | a :: r, g => by
    show (match oldO n0 ks st a a, olds n0 ks st r (r ++ g) with
      | some x, some y => some (x :: y)
      | _, _ => none) = _
    rw [olds_same r g]
    cases a with
    | none => rfl
    | some o => simp [oldO]
/-- one old cell is changed -/
theorem olds_set {n0 : Nat} {ks : List Nat} {st : Stt} {o' o'' : O} (h2 : rsO n0 ks st o' = some o'') : ∀ (r g : Stt) (n : Nat) (o : O), r[n]? = some (some o) → ∃ x, olds n0 ks st r (r.set n (some o') ++ g) = some (r.set n (some x)) ∧ (x = o'' ∨ x = o' ∧ o = o')
  | [], _, _, _, h => by simp at h
  | a :: r, g, 0, o, h => by
    simp at h
    subst h
    show ∃ x, (match oldO n0 ks st (some o) (some o'), olds n0 ks st r (r ++ g) with
      | some x, some y => some (x :: y)
      | _, _ => none) = _ ∧ _
    rw [olds_same r g]
    simp only [oldO]
    by_cases hb : O.beq o o' = true
    · rw [if_pos hb]
      have e := O.beq_eq hb
      exact ⟨o, rfl, .inr ⟨e, e⟩⟩
    · rw [if_neg hb, h2]
      exact ⟨o'', rfl, .inl rfl⟩
  | a :: r, g, n + 1, o, h => by
    obtain ⟨x, e, hx⟩ := olds_set h2 r g n o (by simpa using h)
    refine ⟨x, ?_, hx⟩
    show (match oldO n0 ks st a a, olds n0 ks st r (r.set n (some o') ++ g) with
      | some x, some y => some (x :: y)
      | _, _ => none) = _
    rw [e]
    cases a with
    | none => rfl
    | some b => simp [oldO]
/-- a value that stands; nothing old is changed -/
theorem out_v {kp : Bool} {st g : Stt} {d : D} (h : old st.length d = true) : okO (outD (pkB kp) st d (st ++ g)) = .ok d st := by
  unfold outD
  rw [pk_old h, rs_old h, olds_same]
  simp [goodK, news, okO]
/-- one old cell is changed -/
theorem out_set {kp : Bool} {st g : Stt} {d : D} {n : Nat} {o : O} {xs : List D} (h : old st.length d = true) (hn : st[n]? = some (some o)) (hx : olds_ st.length xs = true) : okO (outD (pkB kp) st d (st.set n (some (.lst xs)) ++ g)) = .ok d (st.set n (some (.lst xs))) := by
  unfold outD
  rw [pk_old h, rs_old h]
  have h2 : rsO st.length [] (st.set n (some (.lst xs)) ++ g) (.lst xs) = some (.lst xs) := by
    unfold rsO
    show (mapO (rsN _ _ _ 7) xs).map O.lst = _
    rw [mapO_old hx]
    rfl
  obtain ⟨x, e, hx2⟩ := olds_set h2 st g n o hn
  have ex : x = .lst xs := by
    rcases hx2 with e | ⟨e, _⟩ <;> exact e
  rw [e, ex]
  simp [goodK, news, okO]
/-- a new list, handed out -/
theorem out_l {kp : Bool} {st g : Stt} {xs : List D} (hx : olds_ st.length xs = true) : okO (outD (pkB kp) st (.cel st.length) (st ++ some (.lst xs) :: g)) = fin kp (some (.l xs)) st := by
  have e7 : mapO (rsN st.length [] (st ++ some (.lst xs) :: g) 6) xs = some xs := mapO_old hx
  cases kp with
  | false =>
    unfold outD
    simp only [pkB, olds_same]
    have : rs st.length [] (st ++ some (.lst xs) :: g) (.cel st.length) = some (.lst xs) := by
      show rsF _ _ _ _ _ = _
      simp only [rsF, Nat.lt_irrefl, if_false, idxN, app_at0, List.getElem?_cons_zero, e7]
      rfl
    rw [this]
    simp [goodK, news, okO]
  | true =>
    unfold outD
    have pk : pkB true st.length (.cel st.length) (st ++ some (.lst xs) :: g) = [st.length] := by
      show ddN (cellsN _ _ 3 _) = _
      have : cellsN st.length (st ++ some (.lst xs) :: g) 3 (.cel st.length) = [st.length] := by
        show cellsF _ _ _ = _
        simp only [cellsF, Nat.lt_irrefl, if_false, app_at0, List.getElem?_cons_zero]
        have : (xs.map (cellsN st.length (st ++ some (.lst xs) :: g) 2)).flatten = [] := by
          rw [List.flatten_eq_nil_iff]
          intro l hl
          obtain ⟨d, hd, rfl⟩ := List.mem_map.mp hl
          exact cellsN_old (olds_mem hx d hd)
        rw [this]
      rw [this]
      rfl
    rw [pk, olds_same]
    have : rs st.length [st.length] (st ++ some (.lst xs) :: g) (.cel st.length) = some (.cel st.length) := by
      show rsF _ _ _ _ _ = _
      simp [rsF, idxN]
    rw [this]
    have e8 : mapO (rs st.length [st.length] (st ++ some (.lst xs) :: g)) xs = some xs := mapO_old (k := 7) hx
    simp [goodK, news, okO, rsO, e8]
/-! ### old cells changed -/
/-- st1 is st with some cells' lists changed -/
structure Kp (n0 : Nat) (st st1 : Stt) : Prop where
  len : st1.length = st.length
  at_ : ∀ (i : Nat) (x : Option O), st[i]? = some x → st1[i]? = some x ∨ ∃ o xs, x = some o ∧ st1[i]? = some (some (.lst xs)) ∧ olds_ n0 xs = true
theorem Kp.refl {n0 : Nat} (st : Stt) : Kp n0 st st := ⟨rfl, fun _ _ h => .inl h⟩
theorem Kp.set {n0 n : Nat} {st st1 : Stt} {xs : List D} (k : Kp n0 st st1) {o : O} (h : st[n]? = some (some o)) (hx : olds_ n0 xs = true) : Kp n0 st (st1.set n (some (.lst xs))) := by
  refine ⟨by rw [List.length_set]; exact k.len, fun i x hi => ?_⟩
  by_cases e : n = i
  · subst e
    have e2 : some o = x := Option.some.inj (h.symm.trans hi)
    subst e2
    exact .inr ⟨o, xs, rfl, List.getElem?_set_self (by rw [k.len]; exact (List.getElem?_eq_some_iff.mp h).1), hx⟩
  · rw [List.getElem?_set_ne e]
    exact k.at_ i x hi
theorem Kp.tail {n0 : Nat} {a b : Option O} {r s : Stt} (k : Kp n0 (a :: r) (b :: s)) : Kp n0 r s :=
  ⟨by simpa using k.len, fun i x h => by simpa using k.at_ (i + 1) x (by simpa using h)⟩
theorem olds_kp {n0 : Nat} {ks : List Nat} {st g : Stt} : ∀ {r s : Stt}, Kp n0 r s → olds n0 ks st r (s ++ g) = some s
  | [], [], _ => rfl
  | [], _ :: _, k => by cases k.len
  | _ :: _, [], k => by cases k.len
  | a :: r, b :: s, k => by
    have ih := olds_kp (ks := ks) (st := st) (g := g) k.tail
    show (match oldO n0 ks st a b, olds n0 ks st r (s ++ g) with
      | some x, some y => some (x :: y)
      | _, _ => none) = _
    rw [ih]
    rcases k.at_ 0 a rfl with h | ⟨o, xs, rfl, h, hx⟩
    · have e : b = a := by simpa using h
      subst e
      cases b with
      | none => rfl
      | some o => simp [oldO]
    · have e : b = some (.lst xs) := by simpa using h
      subst e
      simp only [oldO]
      by_cases hb : O.beq o (.lst xs) = true
      · rw [if_pos hb, O.beq_eq hb]
      · rw [if_neg hb]
        have h2 : rsO n0 ks st (.lst xs) = some (.lst xs) := by
          unfold rsO
          show (mapO (rsN _ _ _ 7) xs).map O.lst = _
          rw [mapO_old hx]
          rfl
        rw [h2]
        rfl
/-- a value that stands -/
theorem out_vk {kp : Bool} {st st1 : Stt} (g : Stt) {d : D} (h : old st.length d = true) (k : Kp st.length st st1) : okO (outD (pkB kp) st d (st1 ++ g)) = .ok d st1 := by
  unfold outD
  rw [pk_old h, rs_old h, olds_kp k]
  simp [goodK, news, okO]
theorem out_vk0 {kp : Bool} {st st1 : Stt} {d : D} (h : old st.length d = true) (k : Kp st.length st st1) : okO (outD (pkB kp) st d st1) = .ok d st1 := by
  have := out_vk (kp := kp) [] h k
  rwa [List.append_nil] at this
/-- a new list, handed out -/
theorem out_lk {kp : Bool} {st st1 : Stt} (g : Stt) {xs : List D} (hx : olds_ st.length xs = true) (k : Kp st.length st st1) : okO (outD (pkB kp) st (.cel st.length) (st1 ++ some (.lst xs) :: g)) = fin kp (some (.l xs)) st1 := by
  have hl := k.len
  have at1 : (st1 ++ some (O.lst xs) :: g)[st.length]? = some (some (.lst xs)) := by
    rw [← hl, app_at0]
    rfl
  have e7 : mapO (rsN st.length [] (st1 ++ some (.lst xs) :: g) 6) xs = some xs := mapO_old hx
  cases kp with
  | false =>
    unfold outD
    simp only [pkB, olds_kp k]
    have : rs st.length [] (st1 ++ some (.lst xs) :: g) (.cel st.length) = some (.lst xs) := by
      show rsF _ _ _ _ _ = _
      simp only [rsF, Nat.lt_irrefl, if_false, idxN, at1, e7]
      rfl
    rw [this]
    simp [goodK, news, okO]
  | true =>
    unfold outD
    have pk : pkB true st.length (.cel st.length) (st1 ++ some (.lst xs) :: g) = [st.length] := by
      show ddN (cellsN _ _ 3 _) = _
      have : cellsN st.length (st1 ++ some (.lst xs) :: g) 3 (.cel st.length) = [st.length] := by
        show cellsF _ _ _ = _
        simp only [cellsF, Nat.lt_irrefl, if_false, at1]
        have : (xs.map (cellsN st.length (st1 ++ some (.lst xs) :: g) 2)).flatten = [] := by
          rw [List.flatten_eq_nil_iff]
          intro l hl
          obtain ⟨d, hd, rfl⟩ := List.mem_map.mp hl
          exact cellsN_old (olds_mem hx d hd)
        rw [this]
      rw [this]
      rfl
    rw [pk, olds_kp k]
    have : rs st.length [st.length] (st1 ++ some (.lst xs) :: g) (.cel st.length) = some (.cel st.length) := by
      show rsF _ _ _ _ _ = _
      simp [rsF, idxN]
    rw [this]
    have e8 : mapO (rs st.length [st.length] (st1 ++ some (.lst xs) :: g)) xs = some xs := mapO_old (k := 7) hx
    simp [goodK, news, okO, rsO, e8, at1, hl]
theorem out_lk0 {kp : Bool} {st st1 : Stt} {xs : List D} (hx : olds_ st.length xs = true) (k : Kp st.length st st1) : okO (outD (pkB kp) st (.cel st.length) (st1 ++ [some (.lst xs)])) = fin kp (some (.l xs)) st1 := out_lk [] hx k
/-- data of ints is old -/
@[simp] theorem old_ints (n0 : Nat) (ns : List Int) : olds_ n0 (ns.map D.int) = true := by
  induction ns with
  | nil => rfl
  | cons n r ih => simp [olds_, old, ih]
theorem olds_all {n0 : Nat} : ∀ {ds : List D}, (∀ d ∈ ds, old n0 d = true) → olds_ n0 ds = true
  | [], _ => rfl
  | d :: ds, h => by
    simp only [olds_, Bool.and_eq_true]
    exact ⟨h d List.mem_cons_self, olds_all fun x hx => h x (List.mem_cons_of_mem _ hx)⟩
theorem olds_iff {n0 : Nat} {ds : List D} : olds_ n0 ds = true ↔ ∀ d ∈ ds, old n0 d = true := ⟨olds_mem, olds_all⟩
end MP


/-! the defs of neverbehind_k58_whole_who_parks_where: printed by gen.py -/
namespace Lw
open PySem PySem.Spec PyProof.Rows L2 MP
/-! _law_purse(script, at): 0 script, 1 at, 2 seed -/
def b__law_purse (kp : Bool) : SS :=
  (cSeq (cSet 2 (cB false fSum (cCons (cSl false (cV 0) (some (cV 1)) (some (cBin false opAdd (cV 1) (cC (.int 1))))) cNil)))
    (cRet (cLst kp (cCons (cBin kp opMod (cB false fInt (cCons (cB false fMax (cCons (cBin false opSub (cV 2) (cBin false opPow (cC (.int 10)) (cC (.int 18)))) (cCons (cC (.int 0)) cNil))) cNil)) (cBin false opPow (cBin false opPow (cC (.int 10)) (cC (.int 60))) (cC (.int 8)))) (cCons (cBin kp opMod (cB false fInt (cCons (cV 2) cNil)) (cC (.int 2147483629))) (cCons (cC (.int 0)) (cCons (cV 1) cNil)))))))
def f__law_purse (kp : Bool) : SF := fnS kp 2 3 (b__law_purse kp)
/-! _law_purses(script, few): 0 script, 1 few, 2 at -/
def b__law_purses (kp : Bool) : SS :=
  (cRet (cLc kp (iR1 (cB false fMax (cCons (cC (.int 1)) (cCons (cB false fMin (cCons (cV 1) (cCons (cB false fLen (cCons (cV 0) cNil)) cNil))) cNil)))) [2] (gN 2) cYes (cCallD (f__law_purse kp) [] (cCons (cV 0) (cCons (cV 2) cNil)))))
def f__law_purses (kp : Bool) : SF := fnS kp 2 3 (b__law_purses kp)
/-! is_whole(value): 0 value -/
def b_is_whole (kp : Bool) : SS :=
  (cRet (cAndV (cB false fIsi (cCons (cV 0) (cCons (cC (.ty .int)) cNil))) (cNotV (cB false fIsi (cCons (cV 0) (cCons (cC (.ty .bool)) cNil))))))
def f_is_whole (kp : Bool) : SF := fnS kp 1 1 (b_is_whole kp)
/-! is_count(value, least): 0 value, 1 least -/
def b_is_count (kp : Bool) : SS :=
  (cRet (cAndV (cCallD (f_is_whole false) [] (cCons (cV 0) cNil)) (cBin false opGe (cV 0) (cB false fMax (cCons (cV 1) (cCons (cC (.int 0)) cNil))))))
def f_is_count (kp : Bool) : SF := fnS kp 2 2 (b_is_count kp)
/-! check_places(places): 0 places -/
def b_check_places (kp : Bool) : SS :=
  (cIfS (cNotT (cTst (cCallD (f_is_count false) [.int 0] (cCons (cV 0) cNil))))
    cNever
    cEnd)
def f_check_places (kp : Bool) : SF := fnS kp 1 1 (b_check_places kp)
/-! are_wishes(places, value): 0 places, 1 value, 2 wish -/
def b_are_wishes (kp : Bool) : SS :=
  (cRet (cAndV (cB false fIsi (cCons (cV 1) (cCons (cC (.ty .list)) cNil))) (cB false (fAll false) (cCons (cLc false (iValL (cV 1)) [2] (gN 2) cYes (cAndV (cCallD (f_is_count false) [.int 0] (cCons (cV 2) cNil)) (cBin false opLt (cV 2) (cV 0)))) cNil))))
def f_are_wishes (kp : Bool) : SF := fnS kp 2 3 (b_are_wishes kp)
/-! check_wishes(places, wishes): 0 places, 1 wishes -/
def b_check_wishes (kp : Bool) : SS :=
  (cSeq (cDrop (cCallD (f_check_places false) [] (cCons (cV 0) cNil)))
    (cIfS (cNotT (cTst (cCallD (f_are_wishes false) [] (cCons (cV 0) (cCons (cV 1) cNil)))))
    cNever
    cEnd))
def f_check_wishes (kp : Bool) : SF := fnS kp 2 2 (b_check_wishes kp)
/-! parked_there(places, wishes): 0 places, 1 wishes, 2 found, 3 taken, 4 wish, 5 place -/
def b_parked_there (kp : Bool) : SS :=
  (cSeq (cPar 2 3 (cLst true cNil) (cDNew true))
    (cSeq (cFor (iValL (cV 1)) (gN 4)
    (cSeq (cSet 5 (cV 4))
      (cSeq (cWh 100 (cTst (cBin false (opIn false) (cV 5) (cV 3)))
      (cSet 5 (cBin false opAdd (cV 5) (cC (.int 1)))))
      (cSeq (cIfS (cTst (cBin false opLt (cV 5) (cV 0)))
      (cAsg (gAt (cV 3) (cV 5)) (cC (.bl true)))
      cEnd)
      (cDrop (cMut mAppend (cV 2) (cCons (cIf (cTst (cBin false opLt (cV 5) (cV 0))) (cV 5) (cC .non)) cNil)))))))
    (cRet (cV 2))))
def f_parked_there (kp : Bool) : SF := fnS kp 2 6 (b_parked_there kp)
/-! parked(places, wishes): 0 places, 1 wishes -/
def b_parked (kp : Bool) : SS :=
  (cSeq (cDrop (cCallD (f_check_wishes false) [] (cCons (cV 0) (cCons (cV 1) cNil))))
    (cRet (cCallD (f_parked_there kp) [] (cCons (cV 0) (cCons (cV 1) cNil)))))
def f_parked (kp : Bool) : SF := fnS kp 2 2 (b_parked kp)
/-! standing_there(places, wishes): 0 places, 1 wishes, 2 found, 3 car, 4 place -/
def b_standing_there (kp : Bool) : SS :=
  (cSeq (cSet 2 (cBin true opMul (cLst false (cCons (cC .non) cNil)) (cV 0)))
    (cSeq (cFor (iEn (cCallD (f_parked_there false) [] (cCons (cV 0) (cCons (cV 1) cNil)))) (gT (gsC (gN 3) (gsC (gN 4) gs0)))
    (cIfS (cTst (cBin false (opIsN true) (cV 4) (cC .non)))
      (cAsg (gAt (cV 2) (cV 4)) (cV 3))
      cEnd))
    (cRet (cV 2))))
def f_standing_there (kp : Bool) : SF := fnS kp 2 5 (b_standing_there kp)
/-! standing(places, wishes): 0 places, 1 wishes -/
def b_standing (kp : Bool) : SS :=
  (cSeq (cDrop (cCallD (f_check_wishes false) [] (cCons (cV 0) (cCons (cV 1) cNil))))
    (cRet (cCallD (f_standing_there kp) [] (cCons (cV 0) (cCons (cV 1) cNil)))))
def f_standing (kp : Bool) : SF := fnS kp 2 2 (b_standing kp)
/-! first_crowded(places, wishes): 0 places, 1 wishes, 2 left, 3 counts, 4 wish, 5 place -/
def b_first_crowded (kp : Bool) : SS :=
  (cSeq (cSet 2 (cB false fLen (cCons (cV 1) cNil)))
    (cSeq (cSet 3 (cBin true opMul (cLst false (cCons (cC (.int 0)) cNil)) (cV 0)))
    (cSeq (cFor (iValL (cV 1)) (gN 4)
    (cAsg (gAt (cV 3) (cV 4)) (cBin false opAdd (cBin false opIx (cV 3) (cV 4)) (cC (.int 1)))))
    (cSeq (cFor (iR1 (cV 0)) (gN 5)
    (cSeq (cIfS (cTst (cBin false opGt (cV 2) (cBin false opSub (cV 0) (cV 5))))
      (cRet (cV 5))
      cEnd)
      (cSet 2 (cBin false opSub (cV 2) (cBin false opIx (cV 3) (cV 5))))))
    (cRet (cC .non))))))
def f_first_crowded (kp : Bool) : SF := fnS kp 2 6 (b_first_crowded kp)
/-! does_none_leave(places, wishes): 0 places, 1 wishes -/
def b_does_none_leave (kp : Bool) : SS :=
  (cSeq (cDrop (cCallD (f_check_wishes false) [] (cCons (cV 0) (cCons (cV 1) cNil))))
    (cRet (cBin false (opIsN false) (cCallD (f_first_crowded kp) [] (cCons (cV 0) (cCons (cV 1) cNil))) (cC .non))))
def f_does_none_leave (kp : Bool) : SF := fnS kp 2 2 (b_does_none_leave kp)
/-! park_bar(places, wishes): 0 places, 1 wishes, 2 place, 3 car, 4 wish -/
def b_park_bar (kp : Bool) : SS :=
  (cSeq (cDrop (cCallD (f_check_wishes false) [] (cCons (cV 0) (cCons (cV 1) cNil))))
    (cSeq (cSet 2 (cCallD (f_first_crowded false) [] (cCons (cV 0) (cCons (cV 1) cNil))))
    (cSeq (cIfS (cTst (cBin false (opIsN false) (cV 2) (cC .non)))
    (cRet (cC .non))
    cEnd)
    (cRet (cTup (cCons (cV 2) (cCons (cLc kp (iEn (cV 1)) [3, 4] (gT (gsC (gN 3) (gsC (gN 4) gs0))) (cTst (cBin false opGe (cV 4) (cV 2))) (cV 3)) cNil)))))))
def f_park_bar (kp : Bool) : SF := fnS kp 2 5 (b_park_bar kp)
/-! _law_exact(mine, theirs): 0 mine, 1 theirs, 2 is_list, 3 is_like, 4 a, 5 b -/
def b__law_exact (r : Bool → SF) (kp : Bool) : SS :=
  (cSeq (cIfS (cTst (cB false fIsi (cCons (cV 0) (cCons (cTup (cCons (cC (.ty .list)) (cCons (cC (.ty .tuple)) cNil))) cNil))))
    (cSeq (cSet 2 (cBin false (opEqB false) (cB false fIsi (cCons (cV 1) (cCons (cC (.ty .list)) cNil))) (cB false fIsi (cCons (cV 0) (cCons (cC (.ty .list)) cNil)))))
      (cSeq (cSet 3 (cAndV (cV 2) (cBin false (opEqB false) (cB false fIsi (cCons (cV 1) (cCons (cC (.ty .tuple)) cNil))) (cB false fIsi (cCons (cV 0) (cCons (cC (.ty .tuple)) cNil))))))
      (cRet (cAndV (cV 3) (cAndV (cBin false (opEqB false) (cB false fLen (cCons (cV 0) cNil)) (cB false fLen (cCons (cV 1) cNil))) (cB false (fAll false) (cCons (cLc false (iZp (cV 0) (cV 1)) [4, 5] (gT (gsC (gN 4) (gsC (gN 5) gs0))) cYes (cCallD (r false) [] (cCons (cV 4) (cCons (cV 5) cNil)))) cNil)))))))
    cEnd)
    (cSeq (cIfS (cOrT (cTst (cB false fIsi (cCons (cV 1) (cCons (cTup (cCons (cC (.ty .list)) (cCons (cC (.ty .tuple)) cNil))) cNil)))) (cTst (cBin false (opEqB true) (cBin false (opIsN false) (cV 0) (cC .non)) (cBin false (opIsN false) (cV 1) (cC .non)))))
    (cRet (cC (.bl false)))
    cEnd)
    (cSeq (cSet 3 (cAndV (cBin false (opEqB false) (cB false fIsi (cCons (cV 0) (cCons (cC (.ty .int)) cNil))) (cB false fIsi (cCons (cV 1) (cCons (cC (.ty .int)) cNil)))) (cBin false (opEqB false) (cB false fIsi (cCons (cV 0) (cCons (cC (.ty .str)) cNil))) (cB false fIsi (cCons (cV 1) (cCons (cC (.ty .str)) cNil))))))
    (cRet (cAndV (cV 3) (cAndV (cBin false (opEqB false) (cB false fIsi (cCons (cV 0) (cCons (cC (.ty .bool)) cNil))) (cB false fIsi (cCons (cV 1) (cCons (cC (.ty .bool)) cNil)))) (cBin false (opEqB false) (cV 0) (cV 1))))))))
def f__law_exact : Nat → Bool → SF
  | 0, _ => fNever
  | n + 1, kp => fnS kp 2 6 (b__law_exact (f__law_exact n) kp)
/-! _law_mixed(seed, spin, at): 0 seed, 1 spin, 2 at, 3 mixed -/
def b__law_mixed (kp : Bool) : SS :=
  (cSeq (cSet 3 (cBin false opAdd (cBin false opMul (cV 0) (cC (.int 69069))) (cBin false opMul (cBin false opMul (cC (.int 104729)) (cV 1)) (cV 1))))
    (cSeq (cSet 3 (cBin false opMod (cB false fInt (cCons (cBin false opAdd (cBin false opAdd (cV 3) (cBin false opMul (cC (.int 7919)) (cV 2))) (cV 1)) cNil)) (cC (.int 2147483647))))
    (cSeq (cSet 3 (cBin false opMod (cB false fInt (cCons (cBin false opAdd (cBin false opMul (cV 3) (cV 3)) (cC (.int 40503))) cNil)) (cC (.int 2147483629))))
    (cRet (cBin kp opMod (cB false fInt (cCons (cBin false opMul (cV 3) (cC (.int 48271))) cNil)) (cC (.int 2147483587)))))))
def f__law_mixed (kp : Bool) : SF := fnS kp 3 4 (b__law_mixed kp)
/-! _law_draw(purse, many): 0 purse, 1 many, 2 drawn, 3 found, 4 piece -/
def b__law_draw (kp : Bool) : SS :=
  (cSeq (cIfS (cTst (cBin false opGt (cBin false opIx (cV 0) (cC (.int 0))) (cC (.int 0))))
    (cSeq (cSet 2 (cBin kp opMod (cB false fInt (cCons (cBin false opIx (cV 0) (cC (.int 0))) cNil)) (cV 1)))
      (cSeq (cAsg (gAt (cV 0) (cC (.int 0))) (cBin false opDiv (cBin false opIx (cV 0) (cC (.int 0))) (cV 1)))
      (cRet (cV 2))))
    cEnd)
    (cSeq (cSet 3 (cC (.int 0)))
    (cSeq (cFor (iR1 (cBin false opAdd (cC (.int 1)) (cBin false opDiv (cUn opBits (cV 1)) (cC (.int 28))))) (gN 4)
    (cSeq (cAsg (gAt (cV 0) (cC (.int 2))) (cBin false opAdd (cBin false opIx (cV 0) (cC (.int 2))) (cC (.int 1))))
      (cSet 3 (cBin false opAdd (cBin false opMul (cV 3) (cC (.int 2147483587))) (cCallD (f__law_mixed false) [] (cCons (cBin false opIx (cV 0) (cC (.int 1))) (cCons (cBin false opIx (cV 0) (cC (.int 2))) (cCons (cBin false opIx (cV 0) (cC (.int 3))) cNil))))))))
    (cRet (cBin kp opMod (cB false fInt (cCons (cV 3) cNil)) (cV 1))))))
def f__law_draw (kp : Bool) : SF := fnS kp 2 5 (b__law_draw kp)
/-! _law_shuffled(purse, some): 0 purse, 1 some, 2 found, 3 item -/
def b__law_shuffled (kp : Bool) : SS :=
  (cSeq (cSet 2 (cLst true cNil))
    (cSeq (cFor (iValL (cV 1)) (gN 3)
    (cDrop (cMut mInsert (cV 2) (cCons (cCallD (f__law_draw false) [] (cCons (cV 0) (cCons (cBin false opAdd (cB false fLen (cCons (cV 2) cNil)) (cC (.int 1))) cNil))) (cCons (cV 3) cNil)))))
    (cRet (cV 2))))
def f__law_shuffled (kp : Bool) : SF := fnS kp 2 4 (b__law_shuffled kp)
/-! _law_parked(places, wishes): 0 places, 1 wishes, 2 found, 3 wish, 4 left, 5 place -/
def b__law_parked (kp : Bool) : SS :=
  (cSeq (cSet 2 (cLst true cNil))
    (cSeq (cFor (iValL (cV 1)) (gN 3)
    (cSeq (cSet 4 (cLc false (iR2 (cV 3) (cV 0)) [5] (gN 5) (cTst (cBin false (opIn true) (cV 5) (cV 2))) (cV 5)))
      (cDrop (cMut mAppend (cV 2) (cCons (cIf (cTst (cBin false (opEqB true) (cV 4) (cLst false cNil))) (cBin false opIx (cV 4) (cC (.int 0))) (cC .non)) cNil)))))
    (cRet (cV 2))))
def f__law_parked (kp : Bool) : SF := fnS kp 2 6 (b__law_parked kp)
/-! _law_one_of(purse, some): 0 purse, 1 some -/
def b__law_one_of (kp : Bool) : SS :=
  (cRet (cBin false opIx (cV 1) (cCallD (f__law_draw false) [] (cCons (cV 0) (cCons (cB false fLen (cCons (cV 1) cNil)) cNil)))))
def f__law_one_of (kp : Bool) : SF := fnS kp 2 2 (b__law_one_of kp)
/-! _law_wishes(purse, places, cars): 0 purse, 1 places, 2 cars, 3 way, 4 found, 5 car, 6 left, 7 place -/
def b__law_wishes (kp : Bool) : SS :=
  (cSeq (cSet 3 (cCallD (f__law_draw false) [] (cCons (cV 0) (cCons (cC (.int 4)) cNil))))
    (cSeq (cIfS (cTst (cBin false (opEqB false) (cV 1) (cC (.int 0))))
    (cRet (cLst kp cNil))
    cEnd)
    (cSeq (cIfS (cTst (cBin false (opEqB false) (cV 3) (cC (.int 0))))
    (cRet (cLc kp (iR1 (cV 2)) [5] (gN 5) cYes (cCallD (f__law_draw kp) [] (cCons (cV 0) (cCons (cV 1) cNil)))))
    cEnd)
    (cSeq (cIfS (cTst (cBin false (opEqB false) (cV 3) (cC (.int 1))))
    (cRet (cLc kp (iR1 (cV 2)) [5] (gN 5) cYes (cB false fMin (cCons (cCallD (f__law_draw false) [] (cCons (cV 0) (cCons (cV 1) cNil))) (cCons (cCallD (f__law_draw false) [] (cCons (cV 0) (cCons (cV 1) cNil))) cNil)))))
    cEnd)
    (cSeq (cSet 4 (cLst true cNil))
    (cSeq (cFor (iR1 (cV 2)) (gN 5)
    (cSeq (cSet 6 (cLc false (iR1 (cV 1)) [7] (gN 7) (cTst (cBin false (opIn true) (cV 7) (cCallD (f__law_parked false) [] (cCons (cV 1) (cCons (cV 4) cNil))))) (cV 7)))
      (cDrop (cMut mAppend (cV 4) (cCons (cIf (cTst (cBin false (opEqB true) (cV 6) (cLst false cNil))) (cCallD (f__law_draw false) [] (cCons (cV 0) (cCons (cBin false opAdd (cC (.int 1)) (cCallD (f__law_one_of false) [] (cCons (cV 0) (cCons (cV 6) cNil)))) cNil))) (cCallD (f__law_draw false) [] (cCons (cV 0) (cCons (cV 1) cNil)))) cNil)))))
    (cRet (cCallD (f__law_shuffled kp) [] (cCons (cV 0) (cCons (cV 4) cNil))))))))))
def f__law_wishes (kp : Bool) : SF := fnS kp 3 8 (b__law_wishes kp)
/-! _law_bar(places, wishes): 0 places, 1 wishes, 2 place, 3 cars, 4 car, 5 wish -/
def b__law_bar (kp : Bool) : SS :=
  (cSeq (cFor (iR1 (cV 0)) (gN 2)
    (cSeq (cSet 3 (cLc false (iEn (cV 1)) [4, 5] (gT (gsC (gN 4) (gsC (gN 5) gs0))) (cTst (cBin false opGe (cV 5) (cV 2))) (cV 4)))
      (cIfS (cTst (cBin false opGt (cB false fLen (cCons (cV 3) cNil)) (cBin false opSub (cV 0) (cV 2))))
      (cRet (cTup (cCons (cV 2) (cCons (cV 3) cNil))))
      cEnd)))
    (cRet (cC .non)))
def f__law_bar (kp : Bool) : SF := fnS kp 2 6 (b__law_bar kp)
/-! lucky_cars(places, wishes): 0 places, 1 wishes, 2 ends, 3 car, 4 wish -/
def b_lucky_cars (kp : Bool) : SS :=
  (cSeq (cDrop (cCallD (f_check_wishes false) [] (cCons (cV 0) (cCons (cV 1) cNil))))
    (cSeq (cSet 2 (cCallD (f_parked_there false) [] (cCons (cV 0) (cCons (cV 1) cNil))))
    (cRet (cLc kp (iEn (cV 1)) [3, 4] (gT (gsC (gN 3) (gsC (gN 4) gs0))) (cTst (cBin false (opEqB false) (cBin false opIx (cV 2) (cV 3)) (cV 4))) (cV 3)))))
def f_lucky_cars (kp : Bool) : SF := fnS kp 2 5 (b_lucky_cars kp)
/-! driven_there(places, wishes): 0 places, 1 wishes, 2 ends, 3 place, 4 wish -/
def b_driven_there (kp : Bool) : SS :=
  (cSeq (cSet 2 (cCallD (f_parked_there false) [] (cCons (cV 0) (cCons (cV 1) cNil))))
    (cRet (cB kp fSum (cCons (cLc false (iZp (cV 2) (cV 1)) [3, 4] (gT (gsC (gN 3) (gsC (gN 4) gs0))) (cTst (cBin false (opIsN true) (cV 3) (cC .non))) (cBin false opSub (cV 3) (cV 4))) cNil))))
def f_driven_there (kp : Bool) : SF := fnS kp 2 5 (b_driven_there kp)
/-! driven(places, wishes): 0 places, 1 wishes -/
def b_driven (kp : Bool) : SS :=
  (cSeq (cDrop (cCallD (f_check_wishes false) [] (cCons (cV 0) (cCons (cV 1) cNil))))
    (cRet (cCallD (f_driven_there kp) [] (cCons (cV 0) (cCons (cV 1) cNil)))))
def f_driven (kp : Bool) : SF := fnS kp 2 2 (b_driven kp)
/-! _law_case_right(purse): 0 purse, 1 places, 2 wishes, 3 kept, 4 ends, 5 stand, 6 lucky, 7 far, 8 due, 9 told, 10 named, 11 more, 12 late, 13 taken, 14 again, 15 place, 16 car, 17 wish, 18 end -/
def q__law_case_right_0 (kp : Bool) : SS :=
  (cSet 1 (cCallD (f__law_draw false) [] (cCons (cV 0) (cCons (cC (.int 13)) cNil))))
def q__law_case_right_1 (kp : Bool) : SS :=
  (cSet 2 (cCallD (f__law_wishes false) [] (cCons (cV 0) (cCons (cV 1) (cCons (cCallD (f__law_draw false) [] (cCons (cV 0) (cCons (cBin false opAdd (cV 1) (cC (.int 4))) cNil))) cNil)))))
def q__law_case_right_2 (kp : Bool) : SS :=
  (cAsg (gT (gsC (gN 3) (gsC (gN 4) gs0))) (cTup (cCons (cB false fRepr (cCons (cV 2) cNil)) (cCons (cCallD (f__law_parked false) [] (cCons (cV 1) (cCons (cV 2) cNil))) cNil))))
def q__law_case_right_3 (kp : Bool) : SS :=
  (cSet 5 (cLc false (iR1 (cV 1)) [15] (gN 15) cYes (cBin false opIx (cBin false opAdd (cLc false (iEn (cV 4)) [16, 18] (gT (gsC (gN 16) (gsC (gN 18) gs0))) (cTst (cBin false (opEqB false) (cV 18) (cV 15))) (cV 16)) (cLst false (cCons (cC .non) cNil))) (cC (.int 0)))))
def q__law_case_right_4 (kp : Bool) : SS :=
  (cSet 6 (cLc false (iEn (cV 2)) [16, 17] (gT (gsC (gN 16) (gsC (gN 17) gs0))) (cTst (cBin false (opEqB false) (cBin false opIx (cV 4) (cV 16)) (cV 17))) (cV 16)))
def q__law_case_right_5 (kp : Bool) : SS :=
  (cSet 7 (cB false fSum (cCons (cLc false (iZp (cV 4) (cV 2)) [18, 17] (gT (gsC (gN 18) (gsC (gN 17) gs0))) (cTst (cBin false (opIsN true) (cV 18) (cC .non))) (cBin false opSub (cV 18) (cV 17))) cNil)))
def q__law_case_right_6 (kp : Bool) : SS :=
  (cSet 8 (cLst false (cCons (cV 4) (cCons (cV 5) (cCons (cBin false (opIn true) (cC .non) (cV 4)) (cCons (cCallD (f__law_bar false) [] (cCons (cV 1) (cCons (cV 2) cNil))) (cCons (cV 6) (cCons (cV 7) cNil))))))))
def q__law_case_right_7 (kp : Bool) : SS :=
  (cSet 9 (cLst false (cCons (cCallD (f_parked true) [] (cCons (cV 1) (cCons (cV 2) cNil))) (cCons (cCallD (f_standing true) [] (cCons (cV 1) (cCons (cV 2) cNil))) cNil))))
def q__law_case_right_8 (kp : Bool) : SS :=
  (cSet 9 (cBin false opAdd (cV 9) (cLst false (cCons (cCallD (f_does_none_leave true) [] (cCons (cV 1) (cCons (cV 2) cNil))) (cCons (cCallD (f_park_bar true) [] (cCons (cV 1) (cCons (cV 2) cNil))) cNil)))))
def q__law_case_right_9 (kp : Bool) : SS :=
  (cSet 9 (cBin false opAdd (cV 9) (cLst false (cCons (cCallD (f_lucky_cars true) [] (cCons (cV 1) (cCons (cV 2) cNil))) (cCons (cCallD (f_driven true) [] (cCons (cV 1) (cCons (cV 2) cNil))) cNil)))))
def q__law_case_right_10 (kp : Bool) : SS :=
  (cSet 10 (cLst false (cCons (cCallK (f_parked false) 2 [1, 0] (cCons (cV 2) (cCons (cV 1) cNil))) (cCons (cCallK (f_standing false) 2 [1, 0] (cCons (cV 2) (cCons (cV 1) cNil))) cNil))))
def q__law_case_right_11 (kp : Bool) : SS :=
  (cSet 10 (cBin false opAdd (cV 10) (cLst false (cCons (cCallK (f_does_none_leave false) 2 [1, 0] (cCons (cV 2) (cCons (cV 1) cNil))) (cCons (cCallK (f_park_bar false) 2 [1, 0] (cCons (cV 2) (cCons (cV 1) cNil))) cNil)))))
def q__law_case_right_12 (kp : Bool) : SS :=
  (cSet 10 (cBin false opAdd (cV 10) (cLst false (cCons (cCallK (f_lucky_cars false) 2 [1, 0] (cCons (cV 2) (cCons (cV 1) cNil))) (cCons (cCallK (f_driven false) 2 [1, 0] (cCons (cV 2) (cCons (cV 1) cNil))) cNil)))))
def q__law_case_right_13 (kp : Bool) : SS :=
  (cIfS (cOrT (cNotT (cTst (cCallD (f__law_exact 12 false) [] (cCons (cLst false (cCons (cV 8) (cCons (cV 8) cNil))) (cCons (cLst false (cCons (cV 9) (cCons (cV 10) cNil))) cNil))))) (cTst (cBin false (opEqB true) (cBin false (opIsN false) (cBin false opIx (cV 8) (cC (.int 3))) (cC .non)) (cBin false opIx (cV 8) (cC (.int 2))))))
    (cRet (cC (.bl false)))
    cEnd)
def q__law_case_right_14 (kp : Bool) : SS :=
  (cSet 11 (cLc false (iR1 (cV 1)) [15] (gN 15) cYes (cBin false opAdd (cBin false opSub (cB false fLen (cCons (cLc false (iValL (cV 2)) [17] (gN 17) (cTst (cBin false opGe (cV 17) (cV 15))) (cV 17)) cNil)) (cV 1)) (cV 15))))
def q__law_case_right_15 (kp : Bool) : SS :=
  (cIfS (cTst (cBin false (opEqB true) (cMeth fCount (cV 4) (cCons (cC .non) cNil)) (cB false fMax (cCons (cBin false opAdd (cV 11) (cLst false (cCons (cC (.int 0)) cNil))) cNil))))
    (cRet (cC (.bl false)))
    cEnd)
def q__law_case_right_16 (kp : Bool) : SS :=
  (cDrop (cMut mAppend (cBin false opIx (cV 9) (cC (.int 0))) (cCons (cC (.str "more")) cNil)))
def q__law_case_right_17 (kp : Bool) : SS :=
  (cDrop (cMut mAppend (cBin false opIx (cV 9) (cC (.int 1))) (cCons (cC (.str "more")) cNil)))
def q__law_case_right_18 (kp : Bool) : SS :=
  (cDrop (cMut mAppend (cBin false opIx (cV 9) (cC (.int 4))) (cCons (cC (.str "more")) cNil)))
def q__law_case_right_19 (kp : Bool) : SS :=
  (cIfS (cTst (cBin false (opIsN true) (cBin false opIx (cV 9) (cC (.int 3))) (cC .non)))
    (cDrop (cMut mAppend (cBin false opIx (cBin false opIx (cV 9) (cC (.int 3))) (cC (.int 1))) (cCons (cC (.str "more")) cNil)))
    cEnd)
def q__law_case_right_20 (kp : Bool) : SS :=
  (cSet 12 (cCallD (f__law_shuffled false) [] (cCons (cV 0) (cCons (cV 2) cNil))))
def q__law_case_right_21 (kp : Bool) : SS :=
  (cSet 13 (cLc false (iValL (cV 5)) [18] (gN 18) cYes (cBin false (opIsN true) (cV 18) (cC .non))))
def q__law_case_right_22 (kp : Bool) : SS :=
  (cSet 14 (cLc false (iValL (cCallD (f_standing false) [] (cCons (cV 1) (cCons (cV 12) cNil)))) [16] (gN 16) cYes (cBin false (opIsN true) (cV 16) (cC .non))))
def q__law_case_right_23 (kp : Bool) : SS :=
  (cSet 9 (cLst false (cCons (cCallD (f_parked true) [] (cCons (cV 1) (cCons (cV 2) cNil))) (cCons (cCallD (f_standing true) [] (cCons (cV 1) (cCons (cV 2) cNil))) (cCons (cCallD (f_park_bar true) [] (cCons (cV 1) (cCons (cV 2) cNil))) (cCons (cCallD (f_lucky_cars true) [] (cCons (cV 1) (cCons (cV 2) cNil))) cNil))))))
def q__law_case_right_24 (kp : Bool) : SS :=
  (cRet (cAndV (cCallD (f__law_exact 12 false) [] (cCons (cLst false (cCons (cV 13) (cCons (cBin false opAdd (cSl false (cV 8) none (some (cC (.int 2)))) (cSl false (cV 8) (some (cC (.int 3))) (some (cC (.int 5))))) cNil))) (cCons (cLst false (cCons (cV 14) (cCons (cV 9) cNil))) cNil))) (cBin false (opEqB false) (cB false fRepr (cCons (cV 2) cNil)) (cV 3))))
def b__law_case_right (kp : Bool) : SS :=
  (cSeq (q__law_case_right_0 kp) (cSeq (q__law_case_right_1 kp) (cSeq (q__law_case_right_2 kp) (cSeq (q__law_case_right_3 kp) (cSeq (q__law_case_right_4 kp) (cSeq (q__law_case_right_5 kp) (cSeq (q__law_case_right_6 kp) (cSeq (q__law_case_right_7 kp) (cSeq (q__law_case_right_8 kp) (cSeq (q__law_case_right_9 kp) (cSeq (q__law_case_right_10 kp) (cSeq (q__law_case_right_11 kp) (cSeq (q__law_case_right_12 kp) (cSeq (q__law_case_right_13 kp) (cSeq (q__law_case_right_14 kp) (cSeq (q__law_case_right_15 kp) (cSeq (q__law_case_right_16 kp) (cSeq (q__law_case_right_17 kp) (cSeq (q__law_case_right_18 kp) (cSeq (q__law_case_right_19 kp) (cSeq (q__law_case_right_20 kp) (cSeq (q__law_case_right_21 kp) (cSeq (q__law_case_right_22 kp) (cSeq (q__law_case_right_23 kp) (q__law_case_right_24 kp)))))))))))))))))))))))))
def f__law_case_right (kp : Bool) : SF := fnS kp 1 19 (b__law_case_right kp)
/-! law(script): 0 script, 1 purse, 2 spin, 3 wishes, 4 told, 5 due, 6 bare -/
def b_law (kp : Bool) : SS :=
  (cSeq (cFor (iValL (cCallD (f__law_purses true) [] (cCons (cV 0) (cCons (cC (.int 3)) cNil)))) (gN 1)
    (cFor (iR1 (cC (.int 2))) (gN 2)
      (cIfS (cNotT (cTst (cCallD (f__law_case_right false) [] (cCons (cV 1) cNil))))
        (cRet (cC (.bl false)))
        cEnd)))
    (cSeq (cSet 3 (cLst false (cCons (cC (.int 2)) (cCons (cC (.int 0)) (cCons (cC (.int 2)) (cCons (cC (.int 0)) (cCons (cC (.int 3)) cNil)))))))
    (cSeq (cSet 4 (cLst false (cCons (cCallD (f_parked false) [] (cCons (cC (.int 5)) (cCons (cV 3) cNil))) (cCons (cCallD (f_standing false) [] (cCons (cC (.int 5)) (cCons (cV 3) cNil))) (cCons (cCallD (f_parked false) [] (cCons (cC (.int 4)) (cCons (cLst false (cCons (cC (.int 3)) (cCons (cC (.int 1)) (cCons (cC (.int 3)) (cCons (cC (.int 1)) cNil))))) cNil))) cNil)))))
    (cSeq (cSet 4 (cBin false opAdd (cV 4) (cLst false (cCons (cCallD (f_park_bar false) [] (cCons (cC (.int 4)) (cCons (cLst false (cCons (cC (.int 3)) (cCons (cC (.int 1)) (cCons (cC (.int 3)) (cCons (cC (.int 1)) cNil))))) cNil))) (cCons (cCallD (f_standing false) [] (cCons (cC (.int 2)) (cCons (cLst false cNil) cNil))) cNil)))))
    (cSeq (cSet 5 (cLst false (cCons (cLst false (cCons (cC (.int 2)) (cCons (cC (.int 0)) (cCons (cC (.int 3)) (cCons (cC (.int 1)) (cCons (cC (.int 4)) cNil)))))) (cCons (cLst false (cCons (cC (.int 1)) (cCons (cC (.int 3)) (cCons (cC (.int 0)) (cCons (cC (.int 2)) (cCons (cC (.int 4)) cNil)))))) (cCons (cLst false (cCons (cC (.int 3)) (cCons (cC (.int 1)) (cCons (cC .non) (cCons (cC (.int 2)) cNil))))) (cCons (cTup (cCons (cC (.int 1)) (cCons (cLst false (cCons (cC (.int 0)) (cCons (cC (.int 1)) (cCons (cC (.int 2)) (cCons (cC (.int 3)) cNil))))) cNil))) (cCons (cLst false (cCons (cC .non) (cCons (cC .non) cNil))) cNil)))))))
    (cSeq (cSet 6 (cLst false (cCons (cCallD (f_parked false) [] (cCons (cC (.int 0)) (cCons (cLst false cNil) cNil))) (cCons (cCallD (f_does_none_leave false) [] (cCons (cC (.int 0)) (cCons (cLst false cNil) cNil))) (cCons (cCallD (f_park_bar false) [] (cCons (cC (.int 0)) (cCons (cLst false cNil) cNil))) cNil)))))
    (cRet (cAndV (cCallD (f__law_exact 12 false) [] (cCons (cV 5) (cCons (cV 4) cNil))) (cCallD (f__law_exact 12 false) [] (cCons (cLst false (cCons (cLst false cNil) (cCons (cC (.bl true)) (cCons (cC .non) cNil)))) (cCons (cV 6) cNil)))))))))))
def f_law (kp : Bool) : SF := fnS kp 1 7 (b_law kp)
end Lw


/-! CmA: purses and draws (the same in all laws). -/
namespace Lw
open PySem PySem.Spec PyProof.Rows L2 MP

abbrev P4 (a b c d : Int) : O := .lst [.int a, .int b, .int c, .int d]
/-- a purse -/
def Pu (N : Nat) (o : O) : Prop := ∃ a b c d : Int, o = P4 a b c d ∧ 0 ≤ a ∧ 0 ≤ b ∧ b < 2147483648 ∧ 0 ≤ c ∧ c ≤ N ∧ 0 ≤ d ∧ d ≤ 100
theorem Pu.mono {N M : Nat} {o : O} (h : Pu N o) (l : N ≤ M) : Pu M o := by
  obtain ⟨a, b, c, d, e, h1, h2, h3, h4, h5, h6, h7⟩ := h
  exact ⟨a, b, c, d, e, h1, h2, h3, h4, by omega, h6, h7⟩
@[simp] theorem at4_0 (x y z u : D) : atI [x, y, z, u] 0 = some x := rfl
@[simp] theorem at4_1 (x y z u : D) : atI [x, y, z, u] 1 = some y := rfl
@[simp] theorem at4_2 (x y z u : D) : atI [x, y, z, u] 2 = some z := rfl
@[simp] theorem at4_3 (x y z u : D) : atI [x, y, z, u] 3 = some u := rfl
@[simp] theorem ix4_0 : ixN 4 0 = some 0 := rfl
@[simp] theorem ix4_2 : ixN 4 2 = some 2 := rfl
theorem mul_small {i j : Int} (hi : i.natAbs < 2 ^ 400000) (hj : j.natAbs < 2 ^ 400000) : mulOk i j = true := by
  unfold mulOk
  have h1 : i.natAbs.log2 < 400001 := by
    by_cases h : i.natAbs = 0
    · rw [h]; decide
    · have := (Nat.log2_lt h).mpr hi; omega
  have h2 : j.natAbs.log2 < 400001 := by
    by_cases h : j.natAbs = 0
    · rw [h]; decide
    · have := (Nat.log2_lt h).mpr hj; omega
  exact decide_eq_true (by omega)
theorem big64 {i : Int} (h : i.natAbs < 2 ^ 64) : i.natAbs < 2 ^ 400000 := Nat.lt_of_lt_of_le h (Nat.pow_le_pow_right (by decide) (by decide))
theorem mul64 {i j : Int} (hi : i.natAbs < 2 ^ 64) (hj : j.natAbs < 2 ^ 64) : mulOk i j = true := mul_small (big64 hi) (big64 hj)
theorem div_small {j : Int} (h1 : 0 < j) (h2 : j < 2 ^ 64) : divOk j = true := by
  unfold divOk
  rw [Bool.and_eq_true]
  refine ⟨decide_eq_true h1, decide_eq_true ?_⟩
  have h : j.natAbs ≠ 0 := by omega
  have : j.natAbs.log2 < 64 := (Nat.log2_lt h).mpr (by omega)
  omega
/-- _law_mixed -/
theorem mixed_ok (kp : Bool) (st : Stt) {b c d : Int} (hb : 0 ≤ b) (hb2 : b < 2147483648) (hc : 0 ≤ c) (hc2 : c ≤ 2000000000) (hd : 0 ≤ d) (hd2 : d ≤ 100) : ∃ v : Int, f__law_mixed kp [.int b, .int c, .int d] st = .ok (.int v) st ∧ 0 ≤ v ∧ v < 2147483587 := by
  have m1 : mulOk b 69069 = true := mul64 (by omega) (by decide)
  have m2 : mulOk 104729 c = true := mul64 (by decide) (by omega)
  have m3 : mulOk (104729 * c) c = true := mul64 (by omega) (by omega)
  have m4 : mulOk 7919 d = true := mul64 (by decide) (by omega)
  obtain ⟨x, hx⟩ : ∃ x, x = (b * 69069 + 104729 * c * c + 7919 * d + c) % 2147483647 := ⟨_, rfl⟩
  have x1 : 0 ≤ x := by rw [hx]; exact Int.emod_nonneg _ (by decide)
  have x2 : x < 2147483647 := by rw [hx]; exact Int.emod_lt_of_pos _ (by decide)
  have m5 : mulOk x x = true := mul64 (by omega) (by omega)
  obtain ⟨y, hy⟩ : ∃ y, y = (x * x + 40503) % 2147483629 := ⟨_, rfl⟩
  have y1 : 0 ≤ y := by rw [hy]; exact Int.emod_nonneg _ (by decide)
  have y2 : y < 2147483629 := by rw [hy]; exact Int.emod_lt_of_pos _ (by decide)
  have m6 : mulOk y 48271 = true := mul64 (by omega) (by decide)
  refine ⟨y * 48271 % 2147483587, ?_, Int.emod_nonneg _ (by decide), Int.emod_lt_of_pos _ (by decide)⟩
  have q : f__law_mixed kp [.int b, .int c, .int d] st = okO (outD (pkB kp) st (.int (y * 48271 % 2147483587)) st) := by
    simp [f__law_mixed, b__law_mixed, fnS, opMul, opAdd, opMod, fInt, m1, m2, m3, m4, ← hx, m5, ← hy, m6]
  rw [q]
  have := out_v (kp := kp) (st := st) (g := []) (d := .int (y * 48271 % 2147483587)) rfl
  rwa [List.append_nil] at this

theorem asQ_cel {st : Stt} {n : Nat} {xs : List D} (h : st[n]? = some (some (.lst xs))) : asQ st (.cel n) = some xs := by
  simp [asQ, asL, h]
theorem ixq {st : Stt} {x : D} {xs : List D} (h : asQ st x = some xs) (i : Int) : opIx x (.int i) st = (atI xs i).map .v := by
  simp [opIx, h]
theorem put_cel {st : Stt} {n : Nat} {xs : List D} (h : st[n]? = some (some (.lst xs))) (i : Int) (d : D) : MP.putAt (.cel n) (.int i) d st = match ixN xs.length i with
  | some j => some (st.set n (some (.lst (xs.set j d))))
  | none => none := by
  cases e : ixN xs.length i <;> simp [MP.putAt, h, e]
theorem set_at {st : Stt} {n : Nat} {x y : Option O} (h : st[n]? = some x) : (st.set n y)[n]? = some y := List.getElem?_set_self (List.getElem?_eq_some_iff.mp h).1
theorem set_set {st : Stt} {n : Nat} {x y : Option O} : (st.set n x).set n y = st.set n y := List.set_set ..
theorem old_lt {st : Stt} {n : Nat} {x : Option O} (h : st[n]? = some x) : n < st.length := (List.getElem?_eq_some_iff.mp h).1
/-- what a draw does to the purse in cell n -/
def Drw (f : SF) (m : Int) (st : Stt) (n : Nat) (N : Nat) : Prop := ∃ (v : Int) (o : O), 0 ≤ v ∧ v < m ∧ f [.cel n, .int m] st = .ok (.int v) (st.set n (some o)) ∧ Pu (N + 1) o
theorem bits_small {m : Int} (h1 : 1 ≤ m) (h2 : m < 2 ^ 27) : (Builtin.Int.intBits m : Int) / 28 = 0 := by
  have := PyProof.Rows.intBits_le (a := m) (k := 27) (by omega)
  omega
theorem cnt_ok {σ : Ev} {st : Stt} {m : Int} (hσ : σ[1]? = some (some (.int m))) (h1 : 1 ≤ m) (h2 : m < 2 ^ 27) : iR1 (cBin false opAdd (cC (.int 1)) (cBin false opDiv (cUn opBits (cV 1)) (cC (.int 28)))) σ st = .ok ([.int 0], []) st := by
  have dv28 : divOk 28 = true := div_small (by decide) (by decide)
  have e : cBin false opDiv (cUn opBits (cV 1)) (cC (.int 28)) σ st = .ok (.int 0) st := by
    simp only [eBin, eUn, eV, hσ, R.bind, opBits, fin_v, eC, opDiv, dv28, if_true, bits_small h1 h2]
  rw [eR1, eBin, eC]
  show (((cBin false opDiv (cUn opBits (cV 1)) (cC (.int 28)) σ st).bind _).bind _) = _
  rw [e]
  rfl
def dBody : SS := (cSeq (cAsg (gAt (cV 0) (cC (.int 2))) (cBin false opAdd (cBin false opIx (cV 0) (cC (.int 2))) (cC (.int 1))))
      (cSet 3 (cBin false opAdd (cBin false opMul (cV 3) (cC (.int 2147483587))) (cCallD (f__law_mixed false) [] (cCons (cBin false opIx (cV 0) (cC (.int 1))) (cCons (cBin false opIx (cV 0) (cC (.int 2))) (cCons (cBin false opIx (cV 0) (cC (.int 3))) cNil)))))))
theorem dBody_ok {st : Stt} {n : Nat} {m b c d v : Int} (hn : st[n]? = some (some (P4 0 b c d))) (hv : f__law_mixed false [D.int b, D.int (c + 1), D.int d] (st.set n (some (P4 0 b (c + 1) d))) = R.ok (D.int v) (st.set n (some (P4 0 b (c + 1) d)))) :
    dBody [some (D.cel n), some (D.int m), none, some (D.int 0), some (.int 0)] st = .nx [some (D.cel n), some (D.int m), none, some (D.int v), some (.int 0)] (st.set n (some (P4 0 b (c + 1) d))) := by
  have q1 := asQ_cel hn
  have hn2 : (st.set n (some (P4 0 b (c + 1) d)))[n]? = some (some (P4 0 b (c + 1) d)) := set_at hn
  have q2 := asQ_cel hn2
  have hz : mulOk 0 2147483587 = true := mul64 (by decide) (by decide)
  unfold dBody
  simp [ixq q1, opAdd, opMul, put_cel hn, ixq q2, hv, hz]
theorem dLoop_ok {st : Stt} {n : Nat} {m b c d v : Int} (hn : st[n]? = some (some (P4 0 b c d))) (hv : f__law_mixed false [D.int b, D.int (c + 1), D.int d] (st.set n (some (P4 0 b (c + 1) d))) = R.ok (D.int v) (st.set n (some (P4 0 b (c + 1) d)))) (h1 : 1 ≤ m) (h2 : m < 2 ^ 27) :
    cFor (iR1 (cBin false opAdd (cC (.int 1)) (cBin false opDiv (cUn opBits (cV 1)) (cC (.int 28))))) (gN 4) dBody [some (D.cel n), some (D.int m), none, some (D.int 0), none] st = .nx [some (D.cel n), some (D.int m), none, some (D.int v), some (.int 0)] (st.set n (some (P4 0 b (c + 1) d))) := by
  rw [eFor, cnt_ok rfl h1 h2]
  show forGo [] (gN 4) dBody [.int 0] _ st = _
  simp [forGo, dBody_ok hn hv]
theorem draw_ok (kp : Bool) {st : Stt} {n : Nat} {o : O} {N : Nat} {m : Int} (hn : st[n]? = some (some o)) (ho : Pu N o) (hN : N ≤ 1000000000) (h1 : 1 ≤ m) (h2 : m < 2 ^ 27) : Drw (f__law_draw kp) m st n N := by
  obtain ⟨a, b, c, d, rfl, ha, hb, hb2, hc, hc2, hd, hd2⟩ := ho
  have q1 := asQ_cel hn
  have dv : divOk m = true := div_small (by omega) (by omega)
  have dv28 : divOk 28 = true := div_small (by decide) (by decide)
  have m0 : 0 < m := by omega
  have lt := old_lt hn
  by_cases h : 0 < a
  · refine ⟨a % m, P4 (a / m) b c d, Int.emod_nonneg _ (by omega), Int.emod_lt_of_pos _ m0, ?_, a / m, b, c, d, rfl, Int.ediv_nonneg ha (by omega), hb, hb2, hc, by omega, hd, hd2⟩
    have q : f__law_draw kp [.cel n, .int m] st = okO (outD (pkB kp) st (.int (a % m)) (st.set n (some (P4 (a / m) b c d)))) := by
      simp [f__law_draw, b__law_draw, fnS, ixq q1, opGt, opCmpI, h, opMod, opDiv, fInt, dv, m0, put_cel hn]
    rw [q]
    have := out_set (kp := kp) (st := st) (g := []) (d := .int (a % m)) (n := n) (o := P4 a b c d) (xs := [.int (a / m), .int b, .int c, .int d]) rfl hn rfl
    rwa [List.append_nil] at this
  · have ea : a = 0 := by omega
    subst ea
    obtain ⟨v, hv, v1, v2⟩ := mixed_ok false (st.set n (some (P4 0 b (c + 1) d))) hb hb2 (show 0 ≤ c + 1 by omega) (by omega) hd hd2
    refine ⟨v % m, P4 0 b (c + 1) d, Int.emod_nonneg _ (by omega), Int.emod_lt_of_pos _ m0, ?_, 0, b, c + 1, d, rfl, Int.le_refl _, hb, hb2, by omega, by omega, hd, hd2⟩
    have q : f__law_draw kp [.cel n, .int m] st = okO (outD (pkB kp) st (.int (v % m)) (st.set n (some (P4 0 b (c + 1) d)))) := by
      have e := dLoop_ok hn hv h1 h2
      unfold dBody at e
      simp [f__law_draw, b__law_draw, fnS, ixq q1, opGt, opCmpI, opMod, fInt, m0, e, -eFor]
    rw [q]
    have := out_set (kp := kp) (st := st) (g := []) (d := .int (v % m)) (n := n) (o := P4 0 b c d) (xs := [.int 0, .int b, .int (c + 1), .int d]) rfl hn rfl
    rwa [List.append_nil] at this
end Lw


/-! CmB: _law_exact finds data like itself (the same in all laws). -/
namespace Lw
open PySem PySem.Spec PyProof.Rows L2 MP

/-! data without dicts, at most n deep -/
mutual
def flat : Nat → PyData → Bool
  | _, .none => true
  | _, .bool _ => true
  | _, .int _ => true
  | _, .str s => PyData.strOk s
  | n + 1, .list ps => decide (ps.length ≤ 100000) && flats n ps
  | n + 1, .tuple ps => decide (ps.length ≤ 100000) && flats n ps
  | _, _ => false
def flats : Nat → List PyData → Bool
  | _, [] => true
  | n, p :: ps => flat n p && flats n ps
end
theorem flats_mem {n : Nat} : ∀ {ps : List PyData}, flats n ps = true → ∀ p ∈ ps, flat n p = true
  | p :: ps, h, x, hx => by
    simp only [flats, Bool.and_eq_true] at h
    rcases List.mem_cons.mp hx with rfl | hx
    · exact h.1
    · exact flats_mem h.2 x hx
/-- x, y stand for the same data -/
def Sm (st : Stt) (d e : D) : Prop := ∃ (k k' : Nat) (p : PyData), pyN st k d = some p ∧ pyN st k' e = some p
theorem pyN_lst {st : Stt} {k : Nat} {d : D} {ps : List PyData} (h : pyN st k d = some (.list ps)) : ∃ (xs : List D) (gs : Gs) (k' : Nat), asT d = none ∧ itemsL st d = some (xs, gs) ∧ chk gs st = true ∧ asQ st d = some xs ∧ tyOf st d = some .list ∧ xs.mapM (pyN st k') = some ps := by
  have key : ∀ below : D → Option PyData, pyF st below d = some (.list ps) → ((∃ xs, d = .lst xs ∧ pyFs st below xs = some ps) ∨ ∃ n xs, d = .cel n ∧ st[n]? = some (some (.lst xs)) ∧ xs.mapM below = some ps) := by
    intro below h
    cases d with
    | lst xs =>
      simp only [pyF] at h
      cases q : pyFs st below xs with
      | none => rw [q] at h; cases h
      | some qs => rw [q] at h; cases h; exact .inl ⟨xs, rfl, q⟩
    | cel n =>
      simp only [pyF] at h
      split at h
      · rename_i xs hx
        cases q : xs.mapM below with
        | none => rw [q] at h; cases h
        | some qs => rw [q] at h; cases h; exact .inr ⟨n, xs, rfl, hx, q⟩
      · cases h
    | tup xs =>
      simp only [pyF] at h
      cases q : pyFs st below xs with
      | none => rw [q] at h; cases h
      | some qs => rw [q] at h; cases h
    | _ => simp [pyF] at h
  have fsM : ∀ (below : D → Option PyData) (xs : List D), pyFs st below xs = xs.mapM (pyF st below) := by
    intro below xs
    induction xs with
    | nil => rfl
    | cons x xs ih =>
      rw [List.mapM_cons]
      simp only [pyFs, ih]
      cases pyF st below x with
      | none => rfl
      | some p =>
        cases xs.mapM (pyF st below) with
        | none => rfl
        | some q => rfl
  cases k with
  | zero =>
    rcases key _ h with ⟨xs, rfl, h2⟩ | ⟨n, xs, rfl, hx, h2⟩
    · exact ⟨xs, [], 0, rfl, rfl, rfl, rfl, rfl, by rw [← h2, fsM]; rfl⟩
    · cases xs with
      | nil =>
        refine ⟨[], [(n, [])], 0, rfl, by simp [itemsL, hx], by simp [chk, hx], by simp [asQ, asL, hx], by simp [tyOf, hx], ?_⟩
        cases h2
        rfl
      | cons x xs =>
        rw [List.mapM_cons] at h2
        cases h2
  | succ k =>
    rcases key _ h with ⟨xs, rfl, h2⟩ | ⟨n, xs, rfl, hx, h2⟩
    · exact ⟨xs, [], k + 1, rfl, rfl, rfl, rfl, rfl, by rw [← h2, fsM]; rfl⟩
    · exact ⟨xs, [(n, xs)], k, rfl, by simp [itemsL, hx], by simp [chk, hx], by simp [asQ, asL, hx], by simp [tyOf, hx], h2⟩
theorem pyN_tup {st : Stt} {k : Nat} {d : D} {ps : List PyData} (h : pyN st k d = some (.tuple ps)) : ∃ (xs : List D) (k' : Nat), d = .tup xs ∧ xs.mapM (pyN st k') = some ps := by
  have fsM : ∀ (below : D → Option PyData) (xs : List D), pyFs st below xs = xs.mapM (pyF st below) := by
    intro below xs
    induction xs with
    | nil => rfl
    | cons x xs ih =>
      rw [List.mapM_cons]
      simp only [pyFs, ih]
      cases pyF st below x with
      | none => rfl
      | some p =>
        cases xs.mapM (pyF st below) with
        | none => rfl
        | some q => rfl
  have key : ∀ below : D → Option PyData, pyF st below d = some (.tuple ps) → ∃ xs, d = .tup xs ∧ pyFs st below xs = some ps := by
    intro below h
    cases d with
    | tup xs =>
      simp only [pyF] at h
      cases q : pyFs st below xs with
      | none => rw [q] at h; cases h
      | some qs => rw [q] at h; cases h; exact ⟨xs, rfl, q⟩
    | lst xs =>
      simp only [pyF] at h
      cases q : pyFs st below xs with
      | none => rw [q] at h; cases h
      | some qs => rw [q] at h; cases h
    | cel n =>
      simp only [pyF] at h
      split at h
      · rename_i xs hx
        cases q : xs.mapM below with
        | none => rw [q] at h; cases h
        | some qs => rw [q] at h; cases h
      · cases h
    | _ => simp [pyF] at h
  cases k with
  | zero => obtain ⟨xs, rfl, h2⟩ := key _ h; exact ⟨xs, 0, rfl, by rw [← h2, fsM]; rfl⟩
  | succ k => obtain ⟨xs, rfl, h2⟩ := key _ h; exact ⟨xs, k + 1, rfl, by rw [← h2, fsM]; rfl⟩
theorem pyN_sca {st : Stt} {k : Nat} {d : D} {p : PyData} (h : pyN st k d = some p) (hp : flat 0 p = true) : (d = .non ∧ p = .none) ∨ (∃ b, d = .bl b ∧ p = .bool b) ∨ (∃ i, d = .int i ∧ p = .int i) ∨ ∃ s, d = .str s ∧ p = .str s := by
  have key : ∀ below : D → Option PyData, pyF st below d = some p → (d = .non ∧ p = .none) ∨ (∃ b, d = .bl b ∧ p = .bool b) ∨ (∃ i, d = .int i ∧ p = .int i) ∨ ∃ s, d = .str s ∧ p = .str s := by
    intro below h
    cases d with
    | non => simp only [pyF] at h; cases h; exact .inl ⟨rfl, rfl⟩
    | bl b => simp only [pyF] at h; cases h; exact .inr (.inl ⟨b, rfl, rfl⟩)
    | int b => simp only [pyF] at h; cases h; exact .inr (.inr (.inl ⟨b, rfl, rfl⟩))
    | str b => simp only [pyF] at h; cases h; exact .inr (.inr (.inr ⟨b, rfl, rfl⟩))
    | tup xs =>
      simp only [pyF] at h
      cases q : pyFs st below xs with
      | none => rw [q] at h; cases h
      | some qs => rw [q] at h; cases h; cases hp
    | lst xs =>
      simp only [pyF] at h
      cases q : pyFs st below xs with
      | none => rw [q] at h; cases h
      | some qs => rw [q] at h; cases h; cases hp
    | cel n =>
      simp only [pyF] at h
      split at h
      · rename_i xs hx
        cases q : xs.mapM below with
        | none => rw [q] at h; cases h
        | some qs => rw [q] at h; cases h; cases hp
      · cases h
    | _ => simp [pyF] at h
  cases k with
  | zero => exact key _ h
  | succ k => exact key _ h
/-- the pairs of two lists that stand for the same data -/
theorem pairs_same {st : Stt} {k k' : Nat} {xs ys : List D} {ps : List PyData} (hx : xs.mapM (pyN st k) = some ps) (hy : ys.mapM (pyN st k') = some ps) : xs.length = ys.length ∧ xs.length = ps.length ∧ ∀ q ∈ xs.zip ys, ∃ p ∈ ps, pyN st k q.1 = some p ∧ pyN st k' q.2 = some p := by
  induction xs generalizing ys ps with
  | nil =>
    cases hx
    cases ys with
    | nil => exact ⟨rfl, rfl, fun q hq => by cases hq⟩
    | cons y ys =>
      rw [List.mapM_cons] at hy
      cases q : pyN st k' y with
      | none => rw [q] at hy; cases hy
      | some p =>
        cases q2 : ys.mapM (pyN st k') with
        | none => rw [q, q2] at hy; cases hy
        | some r => rw [q, q2] at hy; cases hy
  | cons x xs ih =>
    rw [List.mapM_cons] at hx
    cases q : pyN st k x with
    | none => rw [q] at hx; cases hx
    | some p =>
      cases q2 : xs.mapM (pyN st k) with
      | none => rw [q, q2] at hx; cases hx
      | some r =>
        rw [q, q2] at hx
        cases hx
        cases ys with
        | nil => cases hy
        | cons y ys =>
          rw [List.mapM_cons] at hy
          cases q3 : pyN st k' y with
          | none => rw [q3] at hy; cases hy
          | some p' =>
            cases q4 : ys.mapM (pyN st k') with
            | none => rw [q3, q4] at hy; cases hy
            | some r' =>
              rw [q3, q4] at hy
              cases hy
              obtain ⟨h1, h3, h2⟩ := ih q2 q4
              refine ⟨congrArg Nat.succ h1, congrArg Nat.succ h3, fun z hz => ?_⟩
              rw [List.zip_cons_cons] at hz
              rcases List.mem_cons.mp hz with rfl | hz
              · exact ⟨_, List.mem_cons_self, q, q3⟩
              · obtain ⟨p2, m, e1, e2⟩ := h2 z hz
                exact ⟨p2, List.mem_cons_of_mem _ m, e1, e2⟩
/-- a comprehension whose parts change nothing -/
theorem lc_pure {gs : Gs} {g : SGt} {tt : SB} {elt : SE} {σ : Ev} {st : Stt} (hc : chk gs st = true) {f : D → D} : ∀ {ds : List D}, (∀ d ∈ ds, ∃ σ', g d σ st = some (σ', st) ∧ tt σ' st = .ok true st ∧ elt σ' st = .ok (f d) st) → lcGo gs g tt elt σ ds st = some (ds.map f, st)
  | [], _ => by simp [lcGo, hc]
  | d :: ds, h => by
    obtain ⟨σ', h1, h2, h3⟩ := h d List.mem_cons_self
    have ih := lc_pure (g := g) (tt := tt) (elt := elt) (σ := σ) hc (f := f) (ds := ds) fun x hx => h x (List.mem_cons_of_mem _ hx)
    simp [lcGo, hc, h1, h2, h3, ih]
theorem bls_true : ∀ (n : Nat), blsOf ((List.replicate n (D.bl true))) = some (List.replicate n true)
  | 0 => rfl
  | n + 1 => by simp [List.replicate_succ, blsOf, bls_true n]
theorem fAll_true {st : Stt} {α : Type} (l : List α) : fAll false [.lst (l.map fun _ => D.bl true)] st = some (.v (.bl true)) := by
  have e : (l.map fun _ => D.bl true) = List.replicate l.length (D.bl true) := by
    induction l with
    | nil => rfl
    | cons a l ih => simp [List.replicate_succ, ih]
  simp [fAll, asL, e, bls_true]
theorem eqB_bl (a b : Bool) (st : Stt) : opEqB false (.bl a) (.bl b) st = some (.v (.bl (a == b))) := by
  cases a <;> cases b <;> rfl
theorem eqB_int (a b : Int) (st : Stt) : opEqB false (.int a) (.int b) st = some (.v (.bl (a == b))) := by
  simp [opEqB, py, pyN, pyF, PyData.eqv, SeqAt.shaped, PyData.canLay0, PyData.depth]
theorem eqB_str {a : Str} (h : PyData.strOk a = true) (st : Stt) : opEqB false (.str a) (.str a) st = some (.v (.bl true)) := by
  simp [opEqB, py, pyN, pyF, PyData.eqv, SeqAt.shaped, PyData.canLay0, PyData.depth, h]
theorem eqB_non (st : Stt) : opEqB false .non .non st = some (.v (.bl true)) := rfl
theorem fin_true {kp : Bool} {st : Stt} {v : R D} (h : v = okO (outD (pkB kp) st (.bl true) st)) : v = .ok (.bl true) st := by
  rw [h]
  have := out_v (kp := kp) (st := st) (g := []) (d := .bl true) rfl
  rwa [List.append_nil] at this
theorem exact_sca (n : Nat) (kp : Bool) {st : Stt} {k k' : Nat} {d e : D} {p : PyData} (hd : pyN st k d = some p) (he : pyN st k' e = some p) (hp : flat 0 p = true) : f__law_exact (n + 1) kp [d, e] st = .ok (.bl true) st := by
  apply fin_true (kp := kp)
  rcases pyN_sca hd hp with ⟨rfl, rfl⟩ | ⟨b, rfl, rfl⟩ | ⟨i, rfl, rfl⟩ | ⟨s, rfl, rfl⟩ <;> rcases pyN_sca he hp with ⟨rfl, z⟩ | ⟨b', rfl, z⟩ | ⟨i', rfl, z⟩ | ⟨s', rfl, z⟩ <;> cases z
  · simp [f__law_exact, b__law_exact, fnS, fIsi, tyOf, tysOf, isa, opIsN, MP.isNon, opEqB, eqB_bl, py, pyN, pyF, PyData.eqv, SeqAt.shaped, PyData.canLay0, PyData.depth]
  · simp [f__law_exact, b__law_exact, fnS, fIsi, tyOf, tysOf, isa, opIsN, MP.isNon, opEqB, eqB_bl, py, pyN, pyF, PyData.eqv, SeqAt.shaped, PyData.canLay0, PyData.depth]
  · simp [f__law_exact, b__law_exact, fnS, fIsi, tyOf, tysOf, isa, opIsN, MP.isNon, opEqB, eqB_bl, py, pyN, pyF, PyData.eqv, SeqAt.shaped, PyData.canLay0, PyData.depth]
  · have hs : PyData.strOk s = true := by simpa only [flat] using hp
    simp [f__law_exact, b__law_exact, fnS, fIsi, tyOf, tysOf, isa, opIsN, MP.isNon, opEqB, eqB_bl, py, pyN, pyF, PyData.eqv, SeqAt.shaped, PyData.canLay0, PyData.depth, hs]
theorem exact_ok : ∀ (n : Nat) (kp : Bool) {st : Stt} {k k' : Nat} {d e : D} {p : PyData}, pyN st k d = some p → pyN st k' e = some p → flat n p = true → f__law_exact (n + 1) kp [d, e] st = .ok (.bl true) st := by
  intro n
  induction n with
  | zero => intro kp st k k' d e p hd he hp; exact exact_sca 0 kp hd he hp
  | succ n ih =>
    intro kp st k k' d e p hd he hp
    cases p with
    | list ps =>
      obtain ⟨xs, gs, k1, t1, i1, c1, a1, y1, m1⟩ := pyN_lst hd
      obtain ⟨ys, hs, k2, t2, i2, c2, a2, y2, m2⟩ := pyN_lst he
      obtain ⟨hl, hps, hq⟩ := pairs_same m1 m2
      have hp : (decide (ps.length ≤ 100000) && flats n ps) = true := by simpa only [flat] using hp
      rw [Bool.and_eq_true] at hp
      have hlen : ps.length ≤ 100000 := of_decide_eq_true hp.1
      have hf := flats_mem hp.2
      apply fin_true (kp := kp)
      have ck : chk (gs ++ hs) st = true := by
        clear i1
        induction gs with
        | nil => exact c2
        | cons x r ih => simp only [List.cons_append, chk, Bool.and_eq_true] at c1 ⊢; exact ⟨c1.1, ih c1.2⟩
      have lc : lcGo (gs ++ hs) (gT (gsC (gN 4) (gsC (gN 5) gs0))) cYes (cCallD (f__law_exact (n + 1) false) [] (cCons (cV 4) (cCons (cV 5) cNil))) [some d, some e, some (.bl true), some (.bl true), none, none] ((xs.zip ys).map fun p => D.tup [p.1, p.2]) st = some (((xs.zip ys).map fun p => D.tup [p.1, p.2]).map fun _ => D.bl true, st) := by
        refine lc_pure ck fun z hz => ?_
        obtain ⟨q, hqm, rfl⟩ := List.mem_map.mp hz
        obtain ⟨p2, pm, e1, e2⟩ := hq q hqm
        have := ih false e1 e2 (hf p2 pm)
        refine ⟨_, by simp; rfl, rfl, ?_⟩
        simp [this]
      have sz : (((xs.zip ys).map fun p => D.tup [p.1, p.2]).map fun _ => D.bl true).length ≤ sizeLine := by
        rw [sizeLine_val, List.length_map, List.length_map, List.length_zip, ← hl, hps, Nat.min_self]
        omega
      have fa := fAll_true (st := st) ((xs.zip ys).map fun p => D.tup [p.1, p.2])
      have l1 : fLen [d] st = some (.v (.int (xs.length : Nat))) := by simp [fLen, a1]
      have l2 : fLen [e] st = some (.v (.int (ys.length : Nat))) := by simp [fLen, a2]
      rw [show f__law_exact (n + 1 + 1) kp = fnS kp 2 6 (b__law_exact (f__law_exact (n + 1)) kp) from rfl]
      clear ih
      generalize f__law_exact (n + 1) = g at lc ⊢
      simp [b__law_exact, fnS, fIsi, tysOf, isa, y1, y2, eqB_bl, l1, l2, eqB_int, hl, i1, i2, wipeD, lc, -List.map_map, -List.length_map, sz, fa]
    | tuple ps =>
      obtain ⟨xs, k1, rfl, m1⟩ := pyN_tup hd
      obtain ⟨ys, k2, rfl, m2⟩ := pyN_tup he
      obtain ⟨hl, hps, hq⟩ := pairs_same m1 m2
      have hp : (decide (ps.length ≤ 100000) && flats n ps) = true := by simpa only [flat] using hp
      rw [Bool.and_eq_true] at hp
      have hlen : ps.length ≤ 100000 := of_decide_eq_true hp.1
      have hf := flats_mem hp.2
      apply fin_true (kp := kp)
      have lc : lcGo [] (gT (gsC (gN 4) (gsC (gN 5) gs0))) cYes (cCallD (f__law_exact (n + 1) false) [] (cCons (cV 4) (cCons (cV 5) cNil))) [some (.tup xs), some (.tup ys), some (.bl true), some (.bl true), none, none] ((xs.zip ys).map fun p => D.tup [p.1, p.2]) st = some (((xs.zip ys).map fun p => D.tup [p.1, p.2]).map fun _ => D.bl true, st) := by
        refine lc_pure rfl fun z hz => ?_
        obtain ⟨q, hqm, rfl⟩ := List.mem_map.mp hz
        obtain ⟨p2, pm, e1, e2⟩ := hq q hqm
        have := ih false e1 e2 (hf p2 pm)
        refine ⟨_, by simp; rfl, rfl, ?_⟩
        simp [this]
      have sz : (((xs.zip ys).map fun p => D.tup [p.1, p.2]).map fun _ => D.bl true).length ≤ sizeLine := by
        rw [sizeLine_val, List.length_map, List.length_map, List.length_zip, ← hl, hps, Nat.min_self]
        omega
      have fa := fAll_true (st := st) ((xs.zip ys).map fun p => D.tup [p.1, p.2])
      rw [show f__law_exact (n + 1 + 1) kp = fnS kp 2 6 (b__law_exact (f__law_exact (n + 1)) kp) from rfl]
      clear ih
      generalize f__law_exact (n + 1) = g at lc ⊢
      simp [b__law_exact, fnS, fIsi, tyOf, tysOf, isa, eqB_bl, fLen, asQ, eqB_int, hl, itemsL, zipT, asT, wipeD, lc, -List.map_map, -List.length_map, sz, fa]
    | none => exact exact_sca (n + 1) kp hd he rfl
    | bool b => exact exact_sca (n + 1) kp hd he rfl
    | int i => exact exact_sca (n + 1) kp hd he rfl
    | str s => exact exact_sca (n + 1) kp hd he hp
    | dict kvs => cases hp
end Lw


/-! CmC: purses made, one of some, shuffled (the same in all laws). -/
namespace Lw
open PySem MP
open L2 (atI ixN atI_nat)

section
variable {st : Stt} {n : Nat} {x y : Option O}
theorem sa_n (l : Stt) (hn : n < st.length) : (st.set n x ++ l)[n]? = some x := by
  rw [List.getElem?_append_left (by rw [List.length_set]; exact hn), List.getElem?_set_self hn]
theorem sa_end : (st.set n x ++ [y])[st.length]? = some y := by
  have : (st.set n x).length = st.length := List.length_set
  rw [← this, app_at0]; rfl
theorem sa_set (l : Stt) (hn : n < st.length) : (st.set n x ++ l).set n y = st.set n y ++ l := by
  rw [List.set_append_left _ _ (by rw [List.length_set]; exact hn), List.set_set]
theorem sa_setE {z : Option O} : (st.set n x ++ [y]).set st.length z = st.set n x ++ [z] := by
  have : (st.set n x).length = st.length := List.length_set
  rw [← this, app_set0]; rfl
end
theorem Pu.lst {N : Nat} {o : O} (h : Pu N o) (n0 : Nat) : ∃ xs, o = .lst xs ∧ olds_ n0 xs = true := by
  obtain ⟨a, b, c, d, rfl, _⟩ := h
  exact ⟨_, rfl, rfl⟩
theorem Pu.kp {N n : Nat} {o p : O} {st : Stt} (h : Pu N o) (hn : st[n]? = some (some p)) : Kp st.length st (st.set n (some o)) := by
  obtain ⟨xs, rfl, hx⟩ := h.lst st.length
  exact (Kp.refl st).set hn hx

/-! ### one of some -/
theorem one_ok (kp : Bool) {st : Stt} {n N : Nat} {o : O} {xs : List D} (hn : st[n]? = some (some o)) (ho : Pu N o) (hN : N ≤ 1000000000) (h1 : xs ≠ []) (h2 : xs.length < 134217728) (hx : olds_ st.length xs = true) :
    ∃ x o', x ∈ xs ∧ f__law_one_of kp [.cel n, .lst xs] st = .ok x (st.set n (some o')) ∧ Pu (N + 1) o' := by
  have h0 : 0 < xs.length := List.length_pos_iff.mpr h1
  obtain ⟨v, o', v1, v2, e, po⟩ := draw_ok false hn ho hN (m := (xs.length : Nat)) (by omega) (by omega)
  have hv : v.toNat < xs.length := by omega
  have at_ : atI xs v = some xs[v.toNat] := by
    have := atI_nat (xs := xs) (j := v.toNat) (List.getElem?_eq_getElem hv)
    rwa [Int.toNat_of_nonneg v1] at this
  refine ⟨xs[v.toNat], o', List.getElem_mem hv, ?_, po⟩
  have q : f__law_one_of kp [.cel n, .lst xs] st = okO (outD (pkB kp) st xs[v.toNat] (st.set n (some o'))) := by
    simp [f__law_one_of, b__law_one_of, fnS, fLen, asQ, asL, e, opIx, at_]
  rw [q]
  exact out_vk0 (olds_mem hx _ (List.getElem_mem hv)) (po.kp hn)

/-! ### shuffled -/
def shB : SS := (cDrop (cMut mInsert (cV 2) (cCons (cCallD (f__law_draw false) [] (cCons (cV 0) (cCons (cBin false opAdd (cB false fLen (cCons (cV 2) cNil)) (cC (.int 1))) cNil))) (cCons (cV 3) cNil))))
theorem shB_ok {st : Stt} {n N : Nat} {o o0 : O} {found : List D} {x d : D} (h0 : st[n]? = some (some o0)) (ho : Pu N o) (hN : N ≤ 1000000000) (hf : found.length < 100000) :
    ∃ k o', k ≤ found.length ∧ shB [some (.cel n), some d, some (.cel st.length), some x] (st.set n (some o) ++ [some (.lst found)]) = .nx [some (.cel n), some d, some (.cel st.length), some x] (st.set n (some o') ++ [some (.lst (found.take k ++ [x] ++ found.drop k))]) ∧ Pu (N + 1) o' := by
  have hn := old_lt h0
  obtain ⟨v, o', v1, v2, e, po⟩ := draw_ok false (sa_n (x := some o) [some (.lst found)] hn) ho hN (m := (found.length : Int) + 1) (by omega) (by omega)
  rw [sa_set _ hn] at e
  refine ⟨v.toNat, o', by omega, ?_, po⟩
  have a1 : asL (st.set n (some o) ++ [some (.lst found)]) (.cel st.length) = some found := by simp only [asL, sa_end]
  have l1 : fLen [.cel st.length] (st.set n (some o) ++ [some (.lst found)]) = some (.v (.int (found.length : Nat))) := by simp only [fLen, asQ, a1]
  have m1 : mInsert (.cel st.length) [.int v, x] (st.set n (some o') ++ [some (.lst found)]) = some (st.length, .lst (found.take v.toNat ++ [x] ++ found.drop v.toNat), .non) := by
    simp only [mInsert, sa_end]
    rw [if_pos ⟨by rw [sizeLine_val]; omega, v1, by omega⟩]
  unfold shB
  simp only [eDrop, eMut, eV, eCons, eCallD, eBin, eB, eC, eNil, R.bind, R.st, List.getElem?_cons_zero, List.getElem?_cons_succ, isL, a1, l1, Option.isSome_some, if_true, fin_v, opAdd, List.cons_append, List.nil_append, List.append_nil, e, m1, putR, sa_setE]
theorem shuf_go {st : Stt} {n : Nat} {o0 : O} {d : D} {gs : Gs} (h0 : st[n]? = some (some o0)) (hg : ∀ o fs, chk gs (st.set n (some o) ++ [some (.lst fs)]) = true) : ∀ (xs found : List D) (N : Nat) (o : O) (s3 : Option D), Pu N o → N + xs.length ≤ 1000000000 → found.length + xs.length ≤ 100000 →
    ∃ ys o' s3', forGo gs (gN 3) shB xs [some (.cel n), some d, some (.cel st.length), s3] (st.set n (some o) ++ [some (.lst found)]) = .nx [some (.cel n), some d, some (.cel st.length), s3'] (st.set n (some o') ++ [some (.lst ys)]) ∧ ys.Perm (found ++ xs) ∧ Pu (N + xs.length) o'
  | [], found, N, o, s3, ho, _, _ => ⟨found, o, s3, by simp [forGo, hg], by simp, ho⟩
  | x :: xs, found, N, o, s3, ho, hN, hl => by
    rw [List.length_cons] at hN hl
    obtain ⟨k, o1, hk, e, po⟩ := shB_ok (d := d) (x := x) h0 ho (by omega) (show found.length < 100000 by omega)
    have hlen : (found.take k ++ [x] ++ found.drop k).length = found.length + 1 := by simp; omega
    obtain ⟨ys, o', s3', e2, p2, po2⟩ := shuf_go h0 hg xs (found.take k ++ [x] ++ found.drop k) (N + 1) o1 (some x) po (by omega) (by rw [hlen]; omega)
    refine ⟨ys, o', s3', ?_, ?_, ?_⟩
    · simp only [forGo, hg, if_true, gN_e, List.set_cons_succ, List.set_cons_zero, e]
      exact e2
    · refine p2.trans ?_
      have : (found.take k ++ [x] ++ found.drop k).Perm (x :: found) := by
        rw [List.append_assoc]
        refine List.perm_middle.trans ?_
        show (x :: (found.take k ++ found.drop k)).Perm _
        rw [List.take_append_drop]
      refine (this.append_right xs).trans ?_
      exact List.perm_middle.symm
    · rw [List.length_cons]
      exact po2.mono (by omega)
theorem shuf_ok (kp : Bool) {st : Stt} {n N : Nat} {o : O} {d : D} {xs : List D} {gs : Gs} (h0 : st[n]? = some (some o)) (ho : Pu N o) (hN : N + xs.length ≤ 1000000000) (hl : xs.length ≤ 100000) (hd : itemsQ (st ++ [some (.lst [])]) d = some (xs, gs))
    (hg : ∀ o fs, chk gs (st.set n (some o) ++ [some (.lst fs)]) = true) (hx : olds_ st.length xs = true) :
    ∃ ys o', ys.Perm xs ∧ f__law_shuffled kp [.cel n, d] st = fin kp (some (.l ys)) (st.set n (some o')) ∧ Pu (N + xs.length) o' := by
  have hs : st.set n (some o) = st := by
    apply List.ext_getElem?
    intro i
    by_cases e : n = i
    · subst e; rw [List.getElem?_set_self (old_lt h0), h0]
    · rw [List.getElem?_set_ne e]
  obtain ⟨ys, o', s3, e, p, po⟩ := shuf_go (d := d) (gs := gs) h0 hg xs [] N o none ho hN (by simpa using hl)
  rw [hs] at e
  rw [List.nil_append] at p
  refine ⟨ys, o', p, ?_, po⟩
  have e2 : forGo gs (gN 3) (cDrop (cMut mInsert (cV 2) (cCons (cCallD (f__law_draw false) [] (cCons (cV 0) (cCons (cBin false opAdd (cB false fLen (cCons (cV 2) cNil)) (cC (.int 1))) cNil))) (cCons (cV 3) cNil)))) xs [some (.cel n), some d, some (.cel st.length), none] (st ++ [some (.lst [])]) = .nx [some (.cel n), some d, some (.cel st.length), s3] (st.set n (some o') ++ [some (.lst ys)]) := e
  have q : f__law_shuffled kp [.cel n, d] st = okO (outD (pkB kp) st (.cel st.length) (st.set n (some o') ++ [some (.lst ys)])) := by
    simp [f__law_shuffled, b__law_shuffled, fnS, hd, e2, -eDrop]
  rw [q]
  exact out_lk0 (olds_all fun y hy => olds_mem hx y (p.mem_iff.mp hy)) (po.kp h0)

/-! ### purses -/
theorem pow_e {i j : Int} {k : Nat} (h0 : 0 ≤ j) (hi : i.natAbs < 2 ^ k) (hj : (k : Int) * j ≤ 134217728) (st : Stt) : opPow (.int i) (.int j) st = some (.v (.int (i ^ j.toNat))) := by
  have b := PyProof.Rows.intBits_le hi
  have e : (2 : Int) ^ 27 = 134217728 := by decide
  have c : (Builtin.Int.intBits i : Int) * j ≤ 2 ^ 27 := by
    rw [e]
    exact Int.le_trans (Int.mul_le_mul_of_nonneg_right (by omega) h0) hj
  exact if_pos ⟨h0, c⟩
theorem pow_pos' {i : Int} (h : 0 < i) : ∀ n : Nat, 0 < i ^ n
  | 0 => by rw [Int.pow_zero]; decide
  | n + 1 => by rw [Int.pow_succ]; exact Int.mul_pos (pow_pos' h n) h
theorem cut_ints (ns : List Int) (lo hi : Option Int) : ∃ ms : List Int, cutD (ns.map D.int) lo hi = ms.map D.int := by
  unfold cutD
  rw [List.length_map, ← List.map_drop, ← List.map_take]
  exact ⟨_, rfl⟩
theorem purse_ok {st : Stt} {ns : List Int} {at_ : Int} (h0 : 0 ≤ at_) (h1 : at_ ≤ 63) : ∃ o, f__law_purse true [.scr ns, .int at_] st = .ok (.cel st.length) (st ++ [some o]) ∧ Pu 0 o := by
  obtain ⟨ms, hms⟩ := cut_ints ns (some at_) (some (at_ + 1))
  obtain ⟨A, hA⟩ : ∃ A, A = (10 : Int) ^ (18 : Int).toNat := ⟨_, rfl⟩
  obtain ⟨B, hB⟩ : ∃ B, B = (10 : Int) ^ (60 : Int).toNat := ⟨_, rfl⟩
  obtain ⟨C, hC⟩ : ∃ C, C = B ^ (8 : Int).toNat := ⟨_, rfl⟩
  have eA : ∀ st, opPow (.int 10) (.int 18) st = some (.v (.int A)) := fun st => by rw [hA]; exact pow_e (k := 4) (by decide) (by decide) (by decide) st
  have eB : ∀ st, opPow (.int 10) (.int 60) st = some (.v (.int B)) := fun st => by rw [hB]; exact pow_e (k := 4) (by decide) (by decide) (by decide) st
  have eC : ∀ st, opPow (.int B) (.int 8) st = some (.v (.int C)) := fun st => by rw [hC]; exact pow_e (k := 200) (by decide) (by rw [hB]; decide) (by decide) st
  have pB : 0 < B := by rw [hB]; exact pow_pos' (by decide) _
  have pC : 0 < C := by rw [hC]; exact pow_pos' pB _
  obtain ⟨S, hS⟩ : ∃ S, S = ms.sum := ⟨_, rfl⟩
  have eSum : ∀ st, fSum [.lst (ms.map D.int)] st = some (.v (.int S)) := fun st => by simp [fSum, asL, hS]
  obtain ⟨M, hM⟩ : ∃ M, M = maxI (S - A) 0 := ⟨_, rfl⟩
  have eM : ∀ st, fMax [.int (S - A), .int 0] st = some (.v (.int M)) := fun st => by rw [hM]; rfl
  have eSl : ∀ st, opSl (.scr ns) (some at_) (some (at_ + 1)) st = some (.l (ms.map D.int)) := fun st => by simp only [opSl, asL, hms]
  refine ⟨P4 (M % C) (S % 2147483629) 0 at_, ?_, _, _, _, _, rfl, Int.emod_nonneg _ (by omega), Int.emod_nonneg _ (by decide), ?_, by decide, by decide, h0, by omega⟩
  · have q : f__law_purse true [.scr ns, .int at_] st = okO (outD (pkB true) st (.cel st.length) (st ++ [some (.lst [.int (M % C), .int (S % 2147483629), .int 0, .int at_])])) := by
      simp [f__law_purse, b__law_purse, fnS, opAdd, eSl, eSum, eA, eB, eC, opSub, eM, fInt, opMod, pC, sizeLine_val]
    rw [q, out_lk0 rfl (Kp.refl st)]
    rfl
  · have := Int.emod_lt_of_pos S (show (0 : Int) < 2147483629 by decide)
    omega

/-- the purses, as cells behind their list -/
def pursesAt (os : List O) : Stt := some (.lst ((List.range os.length).map fun i => D.cel (i + 1))) :: os.map some
theorem purses_ok {ns : List Int} {few : Int} (h1 : 1 ≤ few) (h3 : few ≤ 3) : ∃ os : List O, f__law_purses true [.scr ns, .int few] [] = .ok (.cel 0) (pursesAt os) ∧ (∀ o ∈ os, Pu 0 o) ∧ os.length ≤ 3 := by
  obtain ⟨k, hk⟩ : ∃ k, k = maxI 1 (minI few (ns.length : Int)) := ⟨_, rfl⟩
  have hk1 : k = 1 ∨ k = 2 ∨ k = 3 := by
    unfold maxI minI at hk
    split at hk <;> split at hk <;> omega
  have e1 : ∀ st, fMin [.int few, .int (ns.length : Nat)] st = some (.v (.int (minI few (ns.length : Nat)))) := fun st => rfl
  have e2 : ∀ st, fMax [.int 1, .int (minI few (ns.length : Nat))] st = some (.v (.int k)) := fun st => by rw [hk]; rfl
  have e3 : ∀ st, fLen [.scr ns] st = some (.v (.int (ns.length : Nat))) := fun st => rfl
  have e4 : ∀ st, iR1 (cB false fMax (cCons (cC (.int 1)) (cCons (cB false fMin (cCons (cV 1) (cCons (cB false fLen (cCons (cV 0) cNil)) cNil))) cNil))) [some (.scr ns), some (.int few), none] st = .ok (rngD 0 k.toNat, []) st := fun st => by
    simp only [eR1, eB, eCons, eC, eV, eNil, R.bind, List.getElem?_cons_zero, List.getElem?_cons_succ, e3, fin_v, e1, e2]
    exact if_pos ⟨by omega, by omega⟩
  obtain ⟨o0, p0, u0⟩ := purse_ok (st := []) (ns := ns) (at_ := 0) (by decide) (by decide)
  obtain ⟨o1, p1, u1⟩ := purse_ok (st := [some o0]) (ns := ns) (at_ := 1) (by decide) (by decide)
  obtain ⟨o2, p2, u2⟩ := purse_ok (st := [some o0, some o1]) (ns := ns) (at_ := 2) (by decide) (by decide)
  have p0 : f__law_purse true [.scr ns, .int 0] [] = .ok (.cel 0) [some o0] := p0
  have p1 : f__law_purse true [.scr ns, .int 1] [some o0] = .ok (.cel 1) [some o0, some o1] := p1
  have p2 : f__law_purse true [.scr ns, .int 2] [some o0, some o1] = .ok (.cel 2) [some o0, some o1, some o2] := p2
  obtain ⟨a0, b0, c0, d0, rfl, _⟩ := id u0
  obtain ⟨a1, b1, c1, d1, rfl, _⟩ := id u1
  obtain ⟨a2, b2, c2, d2, rfl, _⟩ := id u2
  rcases hk1 with rfl | rfl | rfl
  · have r : rngD 0 (1 : Int).toNat = [.int 0] := rfl
    rw [r] at e4
    refine ⟨[P4 a0 b0 c0 d0], ?_, by simp [u0], by simp⟩
    have q : f__law_purses true [.scr ns, .int few] [] = okO (outD (pkB true) [] (.cel 1) [some (P4 a0 b0 c0 d0), some (.lst [.cel 0])]) := by
      simp [f__law_purses, b__law_purses, fnS, e4, lcGo, wipeD, p0, sizeLine_val, -eR1]
    rw [q]
    rfl
  · have r : rngD 0 (2 : Int).toNat = [.int 0, .int 1] := rfl
    rw [r] at e4
    refine ⟨[P4 a0 b0 c0 d0, P4 a1 b1 c1 d1], ?_, by simp [u0, u1], by simp⟩
    have q : f__law_purses true [.scr ns, .int few] [] = okO (outD (pkB true) [] (.cel 2) [some (P4 a0 b0 c0 d0), some (P4 a1 b1 c1 d1), some (.lst [.cel 0, .cel 1])]) := by
      simp [f__law_purses, b__law_purses, fnS, e4, lcGo, wipeD, p0, p1, sizeLine_val, -eR1]
    rw [q]
    rfl
  · have r : rngD 0 (3 : Int).toNat = [.int 0, .int 1, .int 2] := rfl
    rw [r] at e4
    refine ⟨[P4 a0 b0 c0 d0, P4 a1 b1 c1 d1, P4 a2 b2 c2 d2], ?_, by simp [u0, u1, u2], by simp⟩
    have q : f__law_purses true [.scr ns, .int few] [] = okO (outD (pkB true) [] (.cel 3) [some (P4 a0 b0 c0 d0), some (P4 a1 b1 c1 d1), some (P4 a2 b2 c2 d2), some (.lst [.cel 0, .cel 1, .cel 2])]) := by
      simp [f__law_purses, b__law_purses, fnS, e4, lcGo, wipeD, p0, p1, p2, sizeLine_val, -eR1]
    rw [q]
    rfl
end Lw


/-! CmD: a law's loop over its purses: for purse in _law_purses(..): for spin in range(2): if not CASE(purse): return False. -/
namespace Lw
open PySem MP
open L2 (atI ixN atI_nat)

/-- what the law asks of a purse comes out -/
def CaseOk (F : SF) (K : Nat) : Prop := ∀ (st : Stt) (n : Nat) (o : O) (N : Nat), st[n]? = some (some o) → Pu N o → N ≤ 800000 → ∃ o', F [.cel n] st = .ok (.bl true) (st.set n (some o')) ∧ Pu (N + K) o'
abbrev caseB (F : SF) : SS := cIfS (cNotT (cTst (cCallD F [] (cCons (cV 1) cNil)))) (cRet (cC (.bl false))) cEnd
theorem rng2 : rngD 0 (2 : Int).toNat = [.int 0, .int 1] := rfl
theorem spins_ok {F : SF} {K : Nat} (hF : CaseOk F K) {st : Stt} {n N : Nat} {o : O} {s0 p2 : Option D} {rest : List (Option D)} (hn : st[n]? = some (some o)) (ho : Pu N o) (hN : N + K ≤ 800000) :
    ∃ o', cFor (iR1 (cC (.int 2))) (gN 2) (caseB F) (s0 :: some (.cel n) :: p2 :: rest) st = .nx (s0 :: some (.cel n) :: some (.int 1) :: rest) (st.set n (some o')) ∧ Pu (N + 2 * K) o' := by
  obtain ⟨o1, e1, u1⟩ := hF st n o N hn ho (by omega)
  obtain ⟨o2, e2, u2⟩ := hF (st.set n (some o1)) n o1 (N + K) (set_at hn) u1 hN
  refine ⟨o2, ?_, u2.mono (by omega)⟩
  rw [List.set_set] at e2
  have r : iR1 (cC (.int 2)) (s0 :: some (.cel n) :: p2 :: rest) st = .ok ([.int 0, .int 1], []) st := by
    simp only [eR1, eC, R.bind]
    rw [if_pos ⟨by decide, by decide⟩]
    rfl
  rw [eFor, r]
  simp [forGo, e1, e2]
theorem purses_set {os : List O} {i : Nat} {o : O} : (pursesAt os).set (i + 1) (some o) = pursesAt (os.set i o) := by
  unfold pursesAt
  rw [List.set_cons_succ, List.length_set, List.map_set]
theorem purses_get {os : List O} {i : Nat} {o : O} (h : os[i]? = some o) : (pursesAt os)[i + 1]? = some (some o) := by
  unfold pursesAt
  rw [List.getElem?_cons_succ, List.getElem?_map, h]
  rfl
theorem loop_go {F : SF} {K : Nat} (hF : CaseOk F K) (hK : 7 * K ≤ 800000) {s0 : Option D} {rest : List (Option D)} : ∀ (j i : Nat) (os : List O) (p1 p2 : Option D), i + j = os.length → os.length ≤ 3 → (∀ o ∈ os, Pu (2 * K * i) o) →
    ∃ os' p1' p2', forGo [(0, (List.range os.length).map fun i => D.cel (i + 1))] (gN 1) (cFor (iR1 (cC (.int 2))) (gN 2) (caseB F)) (((List.range os.length).map fun i => D.cel (i + 1)).drop i) (s0 :: p1 :: p2 :: rest) (pursesAt os) = .nx (s0 :: p1' :: p2' :: rest) (pursesAt os') ∧ os'.length = os.length
  | 0, i, os, p1, p2, hi, h3, ho => by
    refine ⟨os, p1, p2, ?_, rfl⟩
    rw [List.drop_of_length_le (by simp; omega)]
    simp [forGo, chk, pursesAt]
  | j + 1, i, os, p1, p2, hi, h3, ho => by
    have hlt : i < os.length := by omega
    have e : ((List.range os.length).map fun i => D.cel (i + 1)).drop i = .cel (i + 1) :: ((List.range os.length).map fun i => D.cel (i + 1)).drop (i + 1) := by
      rw [List.drop_eq_getElem_cons (by simpa using hlt)]
      simp
    have hg := purses_get (List.getElem?_eq_getElem hlt)
    have b : 2 * K * i ≤ 6 * K := by
      have : i ≤ 2 := by omega
      calc 2 * K * i ≤ 2 * K * 2 := Nat.mul_le_mul_left _ this
        _ ≤ 6 * K := by omega
    obtain ⟨o', e1, u⟩ := spins_ok (s0 := s0) (p2 := p2) (rest := rest) hF hg (ho _ (List.getElem_mem hlt)) (by omega)
    rw [purses_set] at e1
    have hl : (os.set i o').length = os.length := List.length_set
    obtain ⟨os', p1', p2', e2, l2⟩ := loop_go hF hK (s0 := s0) (rest := rest) j (i + 1) (os.set i o') (some (.cel (i + 1))) (some (.int 1)) (by rw [hl]; omega) (by rw [hl]; exact h3) fun o h => by
      have h2 : 2 * K * (i + 1) = 2 * K * i + 2 * K := by rw [Nat.mul_add, Nat.mul_one]
      rcases List.mem_or_eq_of_mem_set h with h | h
      · exact (ho o h).mono (by omega)
      · rw [h, h2]; exact u
    rw [hl] at e2
    refine ⟨os', p1', p2', ?_, l2.trans hl⟩
    rw [e]
    have ck : chk [(0, (List.range os.length).map fun i => D.cel (i + 1))] (pursesAt os) = true := by simp [chk, pursesAt]
    unfold forGo
    rw [if_pos ck]
    simp only [gN_e, List.set_cons_succ, List.set_cons_zero, e1]
    exact e2
theorem loop_ok {F : SF} {K : Nat} (hF : CaseOk F K) (hK : 7 * K ≤ 800000) {s0 p1 p2 : Option D} {rest : List (Option D)} {ns : List Int} {few : Int} (h1 : 1 ≤ few) (h3 : few ≤ 3) (hs : s0 = some (.scr ns)) :
    ∃ os p1' p2', cFor (iValL (cCallD (f__law_purses true) [] (cCons (cV 0) (cCons (cC (.int few)) cNil)))) (gN 1) (cFor (iR1 (cC (.int 2))) (gN 2) (caseB F)) (s0 :: p1 :: p2 :: rest) [] = .nx (s0 :: p1' :: p2' :: rest) (pursesAt os) := by
  obtain ⟨os, e, ho, hl⟩ := purses_ok (ns := ns) h1 h3
  obtain ⟨os', p1', p2', e2, _⟩ := loop_go hF hK (s0 := s0) (rest := rest) os.length 0 os p1 p2 (by omega) hl fun o h => (ho o h).mono (by omega)
  refine ⟨os', p1', p2', ?_⟩
  rw [List.drop_zero] at e2
  rw [eFor]
  have iq : itemsQ (pursesAt os) (.cel 0) = some ((List.range os.length).map fun i => D.cel (i + 1), [(0, (List.range os.length).map fun i => D.cel (i + 1))]) := by
    simp [itemsQ, asT, itemsL, pursesAt]
  subst hs
  simp only [eValL, eCallD, eCons, eV, eC, eNil, R.bind, R.st, List.getElem?_cons_zero, List.append_nil, e, iq]
  exact e2
end Lw


/-! CmE: lists of whole numbers and None; ranges; the first free place. -/
namespace Lw
open PySem MP
open L2 (atI ixN atI_nat)

/-- a whole number, or None -/
def oD : Option Int → D
  | some i => .int i
  | none => .non
def oP : Option Int → PyData
  | some i => .int i
  | none => .none
theorem oD_inj {a b : Option Int} (h : oD a = oD b) : a = b := by
  cases a <;> cases b <;> simp_all [oD]
@[simp] theorem py_oD (st : Stt) (below : D → Option PyData) (a : Option Int) : pyF st below (oD a) = some (oP a) := by cases a <;> rfl
theorem pyFs_oD (st : Stt) (below : D → Option PyData) : ∀ xs : List (Option Int), pyFs st below (xs.map oD) = some (xs.map oP)
  | [] => rfl
  | a :: r => by simp [pyFs, pyFs_oD st below r]
theorem eqv_oP (a b : Option Int) : PyData.eqv (oP a) (oP b) = decide (a = b) := by
  cases a <;> cases b <;> simp [oP, PyData.eqv]
  rename_i i j
  by_cases h : i = j <;> simp [h]
theorem lay_oP : ∀ xs : List (Option Int), PyData.canLayAll0 (xs.map oP) = true ∧ PyData.depthAll (xs.map oP) = 0
  | [] => ⟨rfl, rfl⟩
  | a :: r => by
    obtain ⟨h1, h2⟩ := lay_oP r
    cases a <;> simp [oP, PyData.canLayAll0, PyData.canLay0, PyData.depthAll, PyData.depth, h1, h2]
theorem shp_oP (a : Option Int) : SeqAt.shaped (oP a) = true := by cases a <;> rfl
theorem shp_list (xs : List (Option Int)) : SeqAt.shaped (.list (xs.map oP)) = true := by
  obtain ⟨h1, h2⟩ := lay_oP xs
  simp [SeqAt.shaped, PyData.canLay0, PyData.depth, h1, h2]
/-- a in xs -/
theorem in_ok {neg : Bool} {st : Stt} {d : D} {xs : List (Option Int)} (a : Option Int) (h : asL st d = some (xs.map oD)) : opIn neg (oD a) d st = some (.v (.bl ((decide (a ∈ xs)) != neg))) := by
  unfold opIn
  rw [h]
  have e1 : py st (oD a) = some (oP a) := py_oD st _ a
  simp only [e1, pyFs_oD, shp_oP, shp_list, Bool.and_self, if_true]
  have : ((xs.map oP).any fun z => PyData.eqv z (oP a)) = decide (a ∈ xs) := by
    induction xs with
    | nil => rfl
    | cons x r ih =>
      rw [List.map_cons, List.any_cons, eqv_oP]
      have ih' : ((r.map oP).any fun z => PyData.eqv z (oP a)) = decide (a ∈ r) := by
        clear h ih
        induction r with
        | nil => rfl
        | cons y s ih =>
          rw [List.map_cons, List.any_cons, eqv_oP, ih]
          by_cases h : y = a
          · simp [h]
          · have : ¬ a = y := fun z => h z.symm
            simp [h, this]
      rw [ih']
      by_cases h : x = a
      · simp [h]
      · have : ¬ a = x := fun z => h z.symm
        simp [h, this]
  rw [this]
/-- lo, lo + 1, .. -/
def irange (lo : Int) : Nat → List Int
  | 0 => []
  | n + 1 => lo :: irange (lo + 1) n
theorem rngD_eq (lo : Int) (n : Nat) : rngD lo n = (irange lo n).map D.int := by
  unfold rngD
  induction n generalizing lo with
  | zero => rfl
  | succ n ih =>
    rw [List.range_succ_eq_map, List.map_cons, List.map_map]
    show _ = D.int lo :: (irange (lo + 1) n).map D.int
    rw [← ih]
    congr 1
    · simp
    · apply List.map_congr_left
      intro i _
      simp only [Function.comp, Nat.succ_eq_add_one, Int.natCast_add, Int.natCast_one, D.int.injEq]
      omega
theorem irange_mem {lo x : Int} : ∀ {n : Nat}, x ∈ irange lo n ↔ lo ≤ x ∧ x < lo + n
  | 0 => by
    simp only [irange, List.not_mem_nil, false_iff]
    omega
  | n + 1 => by
    simp only [irange, List.mem_cons]
    rw [irange_mem (lo := lo + 1)]
    omega
theorem irange_len (lo : Int) : ∀ n : Nat, (irange lo n).length = n
  | 0 => rfl
  | n + 1 => by simp [irange, irange_len (lo + 1) n]
theorem irange_nodup {lo : Int} : ∀ {n : Nat}, (irange lo n).Nodup
  | 0 => .nil
  | n + 1 => by
    simp only [irange, List.nodup_cons]
    refine ⟨fun h => ?_, irange_nodup⟩
    have := irange_mem.mp h
    omega
/-- the first place from w on that t lets free -/
def nx (t : Int → Bool) : Nat → Int → Option Int
  | 0, _ => none
  | n + 1, w => if t w = true then nx t n (w + 1) else some w
theorem nx_none {t : Int → Bool} : ∀ {n : Nat} {w : Int}, nx t n w = none → ∀ x ∈ irange w n, t x = true
  | 0, _, _, x, hx => by simp [irange] at hx
  | n + 1, w, h, x, hx => by
    unfold nx at h
    split at h
    · rename_i ht
      simp only [irange, List.mem_cons] at hx
      rcases hx with rfl | hx
      · exact ht
      · exact nx_none h x hx
    · cases h
theorem nx_some {t : Int → Bool} : ∀ {n : Nat} {w q : Int}, nx t n w = some q → w ≤ q ∧ q < w + n ∧ t q = false ∧ ∀ x, w ≤ x → x < q → t x = true
  | 0, _, _, h => by cases h
  | n + 1, w, q, h => by
    unfold nx at h
    split at h
    · rename_i ht
      obtain ⟨h1, h2, h3, h4⟩ := nx_some h
      refine ⟨by omega, by omega, h3, fun x h5 h6 => ?_⟩
      by_cases e : x = w
      · rw [e]; exact ht
      · exact h4 x (by omega) h6
    · rename_i ht
      cases h
      exact ⟨Int.le_refl _, by omega, by simpa using ht, fun x h5 h6 => by omega⟩
theorem nx_eq {t : Int → Bool} {n : Nat} {w q : Int} (h1 : w ≤ q) (h2 : q < w + n) (h3 : t q = false) (h4 : ∀ x, w ≤ x → x < q → t x = true) : nx t n w = some q := by
  cases e : nx t n w with
  | none =>
    have := nx_none e q (irange_mem.mpr ⟨h1, h2⟩)
    rw [this] at h3; cases h3
  | some r =>
    obtain ⟨a1, a2, a3, a4⟩ := nx_some e
    have : r = q := by
      rcases Int.lt_trichotomy r q with h | h | h
      · rw [h4 r a1 h] at a3; cases a3
      · exact h
      · rw [a4 q h1 h] at h3; cases h3
    rw [this]
/-- more pigeons -/
theorem pigeon : ∀ {l m : List Int}, l.Nodup → (∀ x ∈ l, x ∈ m) → l.length ≤ m.length
  | [], _, _, _ => Nat.zero_le _
  | x :: l, m, nd, h => by
    rw [List.nodup_cons] at nd
    have hx := h x List.mem_cons_self
    have := pigeon (m := m.erase x) nd.2 fun y hy => (List.mem_erase_of_ne (fun (e : y = x) => nd.1 (by rw [← e]; exact hy))).mpr (h y (List.mem_cons_of_mem _ hy))
    rw [List.length_erase_of_mem hx] at this
    have h0 : 0 < m.length := List.length_pos_of_mem hx
    simp only [List.length_cons]
    omega
theorem nx_there {m : List Int} {n : Nat} {w : Int} (h : m.length < n) : ∃ q, nx (fun x => decide (x ∈ m)) n w = some q := by
  cases e : nx (fun x => decide (x ∈ m)) n w with
  | some q => exact ⟨q, rfl⟩
  | none =>
    have := pigeon (irange_nodup (lo := w) (n := n)) fun x hx => of_decide_eq_true (nx_none e x hx)
    rw [irange_len] at this
    omega
/-- the free places of a range, in order -/
theorem free_head {t : Int → Bool} : ∀ {n : Nat} {w : Int}, ((irange w n).filter fun x => !t x).head? = nx t n w
  | 0, _ => rfl
  | n + 1, w => by
    unfold nx
    simp only [irange, List.filter_cons]
    by_cases h : t w = true
    · simp [h, free_head]
    · simp [h]
end Lw


/-! CmF: cars that park: the law's own parking. -/
namespace Lw
open PySem MP
open L2 (atI ixN atI_nat)

/-- where the next car parks -/
def step (p : Int) (found : List (Option Int)) (w : Int) : Option Int := match nx (fun x => decide (some x ∈ found)) (found.length + 1) w with
  | some q => if q < p then some q else none
  | none => none
def parkF (p : Int) : List (Option Int) → List Int → List (Option Int)
  | found, [] => found
  | found, w :: ws => parkF p (found ++ [step p found w]) ws
theorem parkF_len (p : Int) : ∀ (ws : List Int) (found : List (Option Int)), (parkF p found ws).length = found.length + ws.length
  | [], _ => rfl
  | w :: ws, found => by
    show (parkF p (found ++ [step p found w]) ws).length = _
    rw [parkF_len p ws]
    simp
    omega
/-- some taken places are in found -/
theorem taken_len : ∀ (found : List (Option Int)), ∃ m : List Int, m.length ≤ found.length ∧ ∀ x, some x ∈ found ↔ x ∈ m
  | [] => ⟨[], Nat.le_refl _, fun x => by simp⟩
  | a :: r => by
    obtain ⟨m, h1, h2⟩ := taken_len r
    cases a with
    | none => exact ⟨m, Nat.le_succ_of_le h1, fun x => by simp [h2]⟩
    | some y => exact ⟨y :: m, Nat.succ_le_succ h1, fun x => by simp [h2]⟩
theorem nx_found (found : List (Option Int)) {n : Nat} (h : found.length < n) (w : Int) : ∃ q, nx (fun x => decide (some x ∈ found)) n w = some q := by
  obtain ⟨m, h1, h2⟩ := taken_len found
  have e : (fun x => decide (some x ∈ found)) = fun x => decide (x ∈ m) := funext fun x => by simp [h2]
  rw [e]
  exact nx_there (by omega)
/-- the fuel doesn't matter -/
theorem nx_fuel {t : Int → Bool} {n m : Nat} {w q : Int} (h : nx t n w = some q) (hm : (q - w).toNat < m) : nx t m w = some q := by
  obtain ⟨h1, h2, h3, h4⟩ := nx_some h
  exact nx_eq h1 (by omega) h3 h4
theorem step_eq {p : Int} {found : List (Option Int)} {w q : Int} {n : Nat} (h : nx (fun x => decide (some x ∈ found)) n w = some q) : step p found w = if q < p then some q else none := by
  obtain ⟨r, hr⟩ := nx_found found (Nat.lt_succ_self found.length) w
  obtain ⟨h1, h2, h3, h4⟩ := nx_some h
  obtain ⟨g1, g2, g3, g4⟩ := nx_some hr
  have e : r = q := by
    rcases Int.lt_trichotomy r q with z | z | z
    · rw [h4 r g1 z] at g3; cases g3
    · exact z
    · rw [g4 q h1 z] at h3; cases h3
  unfold step
  rw [hr, e]
/-- a comprehension with a test whose parts change nothing -/
theorem lc_filter {gs : Gs} {g : SGt} {tt : SB} {elt : SE} {σ : Ev} {st : Stt} (hc : chk gs st = true) {b : D → Bool} {f : D → D} : ∀ {ds : List D}, (∀ d ∈ ds, ∃ σ', g d σ st = some (σ', st) ∧ tt σ' st = .ok (b d) st ∧ elt σ' st = .ok (f d) st) → lcGo gs g tt elt σ ds st = some ((ds.filter b).map f, st)
  | [], _ => by simp [lcGo, hc]
  | d :: ds, h => by
    obtain ⟨σ', h1, h2, h3⟩ := h d List.mem_cons_self
    have ih := lc_filter (g := g) (tt := tt) (elt := elt) (σ := σ) hc (b := b) (f := f) (ds := ds) fun x hx => h x (List.mem_cons_of_mem _ hx)
    cases hb : b d <;> simp [lcGo, hc, h1, h2, h3, ih, hb]
theorem ne_nil (xs : List Int) (st : Stt) : opEqB true (.lst (xs.map D.int)) (.lst []) st = some (.v (.bl (!xs.isEmpty))) := by
  have e : xs.map D.int = (xs.map some).map oD := by rw [List.map_map]; rfl
  have e1 : py st (.lst (xs.map D.int)) = some (.list ((xs.map some).map oP)) := by
    show (pyFs st _ (xs.map D.int)).map PyData.list = _
    rw [e, pyFs_oD]
    rfl
  have e2 : py st (.lst []) = some (.list []) := rfl
  unfold opEqB
  rw [e1, e2]
  simp only [shp_list]
  have e3 : SeqAt.shaped (.list []) = true := rfl
  rw [e3]
  cases xs with
  | nil => rfl
  | cons x r => rfl
theorem itemsL_app {st g : Stt} {d : D} {q : List D × Gs} (h : itemsL st d = some q) : itemsL (st ++ g) d = some q := by
  unfold itemsL at h ⊢
  split at h
  · exact h
  · exact h
  · rename_i n
    split at h
    · rename_i xs hx
      simp only [app_lt st g hx]
      exact h
    · cases h
  · cases h
theorem itemsQ_app {st g : Stt} {d : D} {q : List D × Gs} (h : itemsQ st d = some q) : itemsQ (st ++ g) d = some q := by
  unfold itemsQ at h ⊢
  cases e : asT d with
  | some ds => rw [e] at h; exact h
  | none => rw [e] at h; exact itemsL_app h
theorem chk_app {st g : Stt} : ∀ {gs : Gs}, chk gs st = true → chk gs (st ++ g) = true
  | [], _ => rfl
  | (n, xs) :: r, h => by
    simp only [chk, Bool.and_eq_true] at h ⊢
    refine ⟨?_, chk_app h.2⟩
    have h1 := h.1
    split at h1
    · rename_i ys hy
      rw [app_lt st g hy]
      exact h1
    · cases h1
theorem asL_end (st : Stt) (xs : List D) : asL (st ++ [some (.lst xs)]) (.cel st.length) = some xs := by simp [asL]
def lpB : SS := (cSeq (cSet 4 (cLc false (iR2 (cV 3) (cV 0)) [5] (gN 5) (cTst (cBin false (opIn true) (cV 5) (cV 2))) (cV 5)))
      (cDrop (cMut mAppend (cV 2) (cCons (cIf (cTst (cBin false (opEqB true) (cV 4) (cLst false cNil))) (cBin false opIx (cV 4) (cC (.int 0))) (cC .non)) cNil))))
/-- small places -/
def Sml (p : Int) (ws : List Int) : Prop := 0 ≤ p ∧ p ≤ 100000 ∧ ws.length ≤ 100000 ∧ ∀ w ∈ ws, 0 ≤ w ∧ w ≤ 100000
theorem lpB_ok {st : Stt} {p w : Int} {d : D} {found : List (Option Int)} {s4 s5 : Option D} (hp : 0 ≤ p ∧ p ≤ 100000) (hw : 0 ≤ w ∧ w ≤ 100000) (hf : found.length < 1000000) :
    ∃ s4', lpB [some (.int p), some d, some (.cel st.length), some (.int w), s4, s5] (st ++ [some (.lst (found.map oD))]) = .nx [some (.int p), some d, some (.cel st.length), some (.int w), s4', s5] (st ++ [some (.lst ((found ++ [step p found w]).map oD))]) := by
  obtain ⟨t, ht⟩ : ∃ t : Int → Bool, t = fun x => decide (some x ∈ found) := ⟨_, rfl⟩
  obtain ⟨left, hl⟩ : ∃ l, l = (irange w (p - w).toNat).filter fun x => !t x := ⟨_, rfl⟩
  refine ⟨some (.lst (left.map D.int)), ?_⟩
  have aL := asL_end st (found.map oD)
  have r2 : iR2 (cV 3) (cV 0) [some (.int p), some d, some (.cel st.length), some (.int w), s4, s5] (st ++ [some (.lst (found.map oD))]) = .ok ((irange w (p - w).toNat).map D.int, []) (st ++ [some (.lst (found.map oD))]) := by
    simp only [eR2, eV, R.bind, List.getElem?_cons_zero, List.getElem?_cons_succ]
    rw [if_pos ⟨by omega, by omega, by omega, by omega⟩, rngD_eq]
  have lc : lcGo [] (gN 5) (cTst (cBin false (opIn true) (cV 5) (cV 2))) (cV 5) [some (.int p), some d, some (.cel st.length), some (.int w), s4, none] ((irange w (p - w).toNat).map D.int) (st ++ [some (.lst (found.map oD))]) = some (left.map D.int, st ++ [some (.lst (found.map oD))]) := by
    have key := lc_filter (gs := []) (g := gN 5) (tt := cTst (cBin false (opIn true) (cV 5) (cV 2))) (elt := cV 5) (σ := [some (.int p), some d, some (.cel st.length), some (.int w), s4, none]) (st := st ++ [some (.lst (found.map oD))]) rfl
      (b := fun x => match x with | .int i => !t i | _ => false) (f := fun x => x) (ds := (irange w (p - w).toNat).map D.int) fun x hx => by
        obtain ⟨i, _, rfl⟩ := List.mem_map.mp hx
        have := in_ok (neg := true) (xs := found) (some i) aL
        refine ⟨_, by simp; rfl, ?_, by simp⟩
        simp only [eTst, eBin, eV, R.bind, List.getElem?_cons_zero, List.getElem?_cons_succ]
        have h2 : opIn true (.int i) (.cel st.length) (st ++ [some (.lst (found.map oD))]) = some (.v (.bl (decide (some i ∈ found) != true))) := this
        simp only [h2, fin_v]
        rw [ht, bne_t]
    rw [key, hl, List.map_id', List.filter_map]
    rfl
  have sz : (left.map D.int).length ≤ sizeLine := by
    rw [sizeLine_val, List.length_map, hl]
    refine Nat.le_trans (List.length_filter_le _ _) ?_
    rw [irange_len]
    omega
  have hd : left.head? = nx t (p - w).toNat w := by rw [hl]; exact free_head
  have stp : step p found w = left.head? := by
    rw [hd]
    obtain ⟨q, hq⟩ := nx_found found (Nat.lt_succ_self found.length) w
    rw [step_eq hq]
    obtain ⟨h1, h2, h3, h4⟩ := nx_some hq
    by_cases hlt : q < p
    · rw [if_pos hlt, ht]
      exact (nx_eq h1 (by omega) h3 h4).symm
    · rw [if_neg hlt]
      cases e : nx t (p - w).toNat w with
      | none => rfl
      | some r =>
        obtain ⟨g1, g2, g3, g4⟩ := nx_some e
        have : r < q := by omega
        have h5 := h4 r g1 this
        have g3 : decide (some r ∈ found) = false := by rw [ht] at g3; exact g3
        rw [h5] at g3
        cases g3
  rw [stp]
  have mA : ∀ x : D, mAppend (.cel st.length) [x] (st ++ [some (.lst (found.map oD))]) = some (st.length, .lst (found.map oD ++ [x]), .non) := fun x => by
    simp only [mAppend, app_at0, List.getElem?_cons_zero]
    rw [if_pos (by rw [sizeLine_val, List.length_map]; omega)]
  unfold lpB
  have nn := ne_nil left (st ++ [some (.lst (found.map oD))])
  cases hL : left with
  | nil =>
    rw [hL] at lc nn sz
    simp only [List.map_nil, List.isEmpty_nil] at lc nn
    simp [r2, wipeD, lc, isL, aL, nn, mA, putR, oD, -eR2]
  | cons a r =>
    rw [hL] at lc nn sz
    simp only [List.map_cons] at lc nn sz
    have ix : opIx (.lst (.int a :: r.map D.int)) (.int 0) (st ++ [some (.lst (found.map oD))]) = some (.v (.int a)) := by
      have : atI (D.int a :: r.map D.int) 0 = some (.int a) := atI_nat (j := 0) rfl
      simp [opIx, asQ, asL, this]
    have sz' : (r.map D.int).length + 1 ≤ sizeLine := sz
    rw [List.length_map] at sz'
    simp only [List.isEmpty_cons] at nn
    simp [r2, wipeD, lc, sz', isL, aL, nn, mA, ix, putR, oD, -eR2]
theorem lp_go {st : Stt} {p : Int} {d : D} {gs : Gs} (hp : 0 ≤ p ∧ p ≤ 100000) (hc : chk gs st = true) : ∀ (ws : List Int) (found : List (Option Int)) (s3 s4 s5 : Option D), (∀ w ∈ ws, 0 ≤ w ∧ w ≤ 100000) → found.length + ws.length < 1000000 →
    ∃ s3' s4' s5', forGo gs (gN 3) lpB (ws.map D.int) [some (.int p), some d, some (.cel st.length), s3, s4, s5] (st ++ [some (.lst (found.map oD))]) = .nx [some (.int p), some d, some (.cel st.length), s3', s4', s5'] (st ++ [some (.lst ((parkF p found ws).map oD))])
  | [], found, s3, s4, s5, _, _ => ⟨s3, s4, s5, by simp [forGo, chk_app hc, parkF]⟩
  | w :: ws, found, s3, s4, s5, h, hl => by
    rw [List.length_cons] at hl
    obtain ⟨s4', e⟩ := lpB_ok (st := st) (d := d) (s4 := s4) (s5 := s5) hp (h w List.mem_cons_self) (show found.length < 1000000 by omega)
    obtain ⟨t3, t4, t5, e2⟩ := lp_go (d := d) hp hc ws (found ++ [step p found w]) (some (.int w)) s4' s5 (fun x hx => h x (List.mem_cons_of_mem _ hx)) (by simp; omega)
    refine ⟨t3, t4, t5, ?_⟩
    rw [List.map_cons]
    unfold forGo
    rw [if_pos (chk_app hc)]
    simp only [gN_e, List.set_cons_succ, List.set_cons_zero, e]
    exact e2
theorem old_oD (n0 : Nat) (xs : List (Option Int)) : olds_ n0 (xs.map oD) = true := olds_all fun d hd => by
  obtain ⟨a, _, rfl⟩ := List.mem_map.mp hd
  cases a <;> rfl
theorem lparked_ok (kp : Bool) {st : Stt} {p : Int} {d : D} {ws : List Int} {gs : Gs} (hs : Sml p ws) (hd : itemsQ st d = some (ws.map D.int, gs)) (hc : chk gs st = true) : f__law_parked kp [.int p, d] st = fin kp (some (.l ((parkF p [] ws).map oD))) st := by
  obtain ⟨h1, h2, h3, h4⟩ := hs
  obtain ⟨s3, s4, s5, e⟩ := lp_go (st := st) (d := d) ⟨h1, h2⟩ hc ws [] none none none h4 (by simp; omega)
  have e2 := itemsQ_app (g := [some (.lst [])]) hd
  unfold lpB at e
  simp only [List.map_nil] at e
  have q : f__law_parked kp [.int p, d] st = okO (outD (pkB kp) st (.cel st.length) (st ++ [some (.lst ((parkF p [] ws).map oD))])) := by
    simp [f__law_parked, b__law_parked, fnS, e2, e]
  rw [q]
  exact out_lk0 (old_oD _ _) (Kp.refl st)
end Lw


/-! CmH: drawn wishes. -/
namespace Lw
open PySem MP
open L2 (atI ixN atI_nat)

/-- a comprehension that draws: each part changes the purse alone -/
theorem lc_drawn {g : SGt} {elt : SE} {σ : Ev} {n : Nat} {k : Nat} {P : Int → Prop} (hstep : ∀ (d : D) (st : Stt) (o : O) (N : Nat), st[n]? = some (some o) → Pu N o → N ≤ 1000000 → ∃ (σ' : Ev) (v : Int) (o' : O), g d σ st = some (σ', st) ∧ elt σ' st = .ok (.int v) (st.set n (some o')) ∧ P v ∧ Pu (N + k) o') :
    ∀ (ds : List D) (st : Stt) (o : O) (N : Nat), st[n]? = some (some o) → Pu N o → N + k * ds.length ≤ 1000000 → ∃ (vs : List Int) (o' : O), lcGo [] g cYes elt σ ds st = some (vs.map D.int, st.set n (some o')) ∧ vs.length = ds.length ∧ (∀ v ∈ vs, P v) ∧ Pu (N + k * ds.length) o'
  | [], st, o, N, hn, ho, _ => by
    refine ⟨[], o, ?_, rfl, by simp, ho⟩
    have : st.set n (some o) = st := by
      apply List.ext_getElem?
      intro i
      by_cases e : n = i
      · subst e; rw [List.getElem?_set_self (old_lt hn), hn]
      · rw [List.getElem?_set_ne e]
    rw [this]
    rfl
  | d :: ds, st, o, N, hn, ho, hN => by
    rw [List.length_cons, Nat.mul_succ] at hN
    obtain ⟨σ', v, o1, h1, h2, h3, h4⟩ := hstep d st o N hn ho (by omega)
    obtain ⟨vs, o', e, hl, hP, hu⟩ := lc_drawn hstep ds (st.set n (some o1)) o1 (N + k) (set_at hn) h4 (by omega)
    rw [List.set_set] at e
    refine ⟨v :: vs, o', ?_, by simp [hl], ?_, ?_⟩
    · simp [lcGo, h1, h2, e]
    · intro x hx
      rcases List.mem_cons.mp hx with rfl | hx
      · exact h3
      · exact hP x hx
    · rw [List.length_cons, Nat.mul_succ]
      exact hu.mono (by omega)
theorem ints_len {vs : List Int} (h : vs.length ≤ 1000000) : (vs.map D.int).length ≤ sizeLine := by rw [sizeLine_val, List.length_map]; omega
/-- wishes of so many cars -/
def Ws (p c : Int) (ws : List Int) : Prop := (∀ w ∈ ws, 0 ≤ w ∧ w < p) ∧ (ws.length : Int) ≤ c
theorem rng_ok {a : SE} {σ : Ev} {st : Stt} {c : Int} (h : a σ st = .ok (.int c) st) (h0 : 0 ≤ c) (h1 : c ≤ 1000000) : iR1 a σ st = .ok ((irange 0 c.toNat).map D.int, []) st := by
  simp only [eR1, h, R.bind]
  rw [if_pos ⟨by omega, by omega⟩, rngD_eq]
def wsB : SS := (cSeq (cSet 6 (cLc false (iR1 (cV 1)) [7] (gN 7) (cTst (cBin false (opIn true) (cV 7) (cCallD (f__law_parked false) [] (cCons (cV 1) (cCons (cV 4) cNil))))) (cV 7)))
      (cDrop (cMut mAppend (cV 4) (cCons (cIf (cTst (cBin false (opEqB true) (cV 6) (cLst false cNil))) (cCallD (f__law_draw false) [] (cCons (cV 0) (cCons (cBin false opAdd (cC (.int 1)) (cCallD (f__law_one_of false) [] (cCons (cV 0) (cCons (cV 6) cNil)))) cNil))) (cCallD (f__law_draw false) [] (cCons (cV 0) (cCons (cV 1) cNil)))) cNil))))
theorem wsB_ok {st : Stt} {n N : Nat} {o o0 : O} {p c : Int} {ws : List Int} {s3 s5 s6 s7 : Option D} (h0 : st[n]? = some (some o0)) (ho : Pu N o) (hN : N ≤ 1000000) (hp : 1 ≤ p ∧ p ≤ 1000) (hw : ∀ w ∈ ws, 0 ≤ w ∧ w < p) (hl : ws.length ≤ 1000) :
    ∃ (v : Int) (o' : O) (s6' : Option D), wsB [some (.cel n), some (.int p), some (.int c), s3, some (.cel st.length), s5, s6, s7] (st.set n (some o) ++ [some (.lst (ws.map D.int))]) = .nx [some (.cel n), some (.int p), some (.int c), s3, some (.cel st.length), s5, s6', s7] (st.set n (some o') ++ [some (.lst ((ws ++ [v]).map D.int))]) ∧ 0 ≤ v ∧ v < p ∧ Pu (N + 2) o' := by
  have hn := old_lt h0
  obtain ⟨S, hS⟩ : ∃ S : Option O → Stt, S = fun x => st.set n x ++ [some (.lst (ws.map D.int))] := ⟨_, rfl⟩
  have aL : ∀ x, asL (st.set n x ++ [some (.lst (ws.map D.int))]) (.cel st.length) = some (ws.map D.int) := fun x => by simp only [asL, sa_end]
  have iQ : ∀ x, itemsQ (st.set n x ++ [some (.lst (ws.map D.int))]) (.cel st.length) = some (ws.map D.int, [(st.length, ws.map D.int)]) := fun x => by simp only [itemsQ, asT, itemsL, sa_end]
  have cK : ∀ x, chk [(st.length, ws.map D.int)] (st.set n x ++ [some (.lst (ws.map D.int))]) = true := fun x => by simp only [chk, sa_end, D.beqs_refl, Bool.and_self]
  have pk : f__law_parked false [.int p, .cel st.length] (st.set n (some o) ++ [some (.lst (ws.map D.int))]) = .ok (.lst ((parkF p [] ws).map oD)) (st.set n (some o) ++ [some (.lst (ws.map D.int))]) := by
    rw [lparked_ok false ⟨by omega, by omega, by omega, fun w h => by have := hw w h; omega⟩ (iQ (some o)) (cK (some o))]
    rfl
  obtain ⟨left, hleft⟩ : ∃ l, l = (irange 0 p.toNat).filter fun x => !decide (some x ∈ parkF p [] ws) := ⟨_, rfl⟩
  have r1 : iR1 (cV 1) [some (.cel n), some (.int p), some (.int c), s3, some (.cel st.length), s5, s6, s7] (st.set n (some o) ++ [some (.lst (ws.map D.int))]) = .ok ((irange 0 p.toNat).map D.int, []) (st.set n (some o) ++ [some (.lst (ws.map D.int))]) := rng_ok (by simp) (by omega) (by omega)
  have lc : lcGo [] (gN 7) (cTst (cBin false (opIn true) (cV 7) (cCallD (f__law_parked false) [] (cCons (cV 1) (cCons (cV 4) cNil))))) (cV 7) [some (.cel n), some (.int p), some (.int c), s3, some (.cel st.length), s5, s6, none] ((irange 0 p.toNat).map D.int) (st.set n (some o) ++ [some (.lst (ws.map D.int))]) = some (left.map D.int, st.set n (some o) ++ [some (.lst (ws.map D.int))]) := by
    have key := lc_filter (gs := []) (g := gN 7) (tt := cTst (cBin false (opIn true) (cV 7) (cCallD (f__law_parked false) [] (cCons (cV 1) (cCons (cV 4) cNil))))) (elt := cV 7) (σ := [some (.cel n), some (.int p), some (.int c), s3, some (.cel st.length), s5, s6, none]) (st := st.set n (some o) ++ [some (.lst (ws.map D.int))]) rfl
      (b := fun x => match x with | .int i => !decide (some i ∈ parkF p [] ws) | _ => false) (f := fun x => x) (ds := (irange 0 p.toNat).map D.int) fun x hx => by
        obtain ⟨i, _, rfl⟩ := List.mem_map.mp hx
        have h2 : opIn true (.int i) (.lst ((parkF p [] ws).map oD)) (st.set n (some o) ++ [some (.lst (ws.map D.int))]) = some (.v (.bl (decide (some i ∈ parkF p [] ws) != true))) := in_ok (neg := true) (xs := parkF p [] ws) (some i) rfl
        refine ⟨_, by simp; rfl, ?_, by simp⟩
        simp only [eTst, eBin, eV, eCallD, eCons, eNil, R.bind, List.getElem?_cons_zero, List.getElem?_cons_succ, List.append_nil, pk, h2, fin_v]
        rw [bne_t]
    rw [key, hleft, List.map_id', List.filter_map]
    rfl
  have sz : (left.map D.int).length ≤ sizeLine := ints_len (by
    rw [hleft]
    refine Nat.le_trans (List.length_filter_le _ _) ?_
    rw [irange_len]
    omega)
  have nn := ne_nil left (st.set n (some o) ++ [some (.lst (ws.map D.int))])
  have mA : ∀ (x : D) (y : Option O), mAppend (.cel st.length) [x] (st.set n y ++ [some (.lst (ws.map D.int))]) = some (st.length, .lst (ws.map D.int ++ [x]), .non) := fun x y => by
    simp only [mAppend, sa_end]
    rw [if_pos (by rw [sizeLine_val, List.length_map]; omega)]
  unfold wsB
  by_cases hL : left = []
  · obtain ⟨v, o', v1, v2, e, po⟩ := draw_ok false (sa_n (x := some o) [some (.lst (ws.map D.int))] hn) ho (by omega) (m := p) (by omega) (by omega)
    rw [sa_set _ hn] at e
    refine ⟨v, o', some (.lst []), ?_, v1, v2, po.mono (by omega)⟩
    rw [hL] at lc nn
    simp only [List.map_nil, List.isEmpty_nil] at lc nn
    simp [r1, wipeD, lc, isL, aL, nn, mA, e, putR, sa_setE, -eR1]
  · have hne : left.map D.int ≠ [] := by simpa using hL
    obtain ⟨x, o1, hx, e1, po1⟩ := one_ok false (sa_n (x := some o) [some (.lst (ws.map D.int))] hn) ho (by omega) hne (by rw [sizeLine_val] at sz; omega) (old_ints _ left)
    obtain ⟨i, hi, rfl⟩ := List.mem_map.mp hx
    rw [sa_set _ hn] at e1
    have ib : 0 ≤ i ∧ i < p := by
      rw [hleft] at hi
      have := irange_mem.mp (List.mem_filter.mp hi).1
      omega
    obtain ⟨v, o', v1, v2, e, po⟩ := draw_ok false (sa_n (x := some o1) [some (.lst (ws.map D.int))] hn) po1 (by omega) (m := 1 + i) (by omega) (by omega)
    rw [sa_set _ hn] at e
    refine ⟨v, o', some (.lst (left.map D.int)), ?_, v1, by omega, po.mono (by omega)⟩
    have ie : left.isEmpty = false := by cases left with
      | nil => exact absurd rfl hL
      | cons _ _ => rfl
    rw [ie] at nn
    rw [List.length_map] at sz
    simp [r1, wipeD, lc, sz, isL, aL, nn, mA, e1, e, opAdd, putR, sa_setE, -eR1]
theorem ws_go {st : Stt} {n : Nat} {o0 : O} {p c : Int} {s3 : Option D} (h0 : st[n]? = some (some o0)) (hp : 1 ≤ p ∧ p ≤ 1000) : ∀ (ds : List D) (ws : List Int) (N : Nat) (o : O) (s5 s6 s7 : Option D), Pu N o → N + 2 * ds.length ≤ 1000000 → (∀ w ∈ ws, 0 ≤ w ∧ w < p) → ws.length + ds.length ≤ 1000 →
    ∃ (ws' : List Int) (o' : O) (s5' s6' s7' : Option D), forGo [] (gN 5) wsB ds [some (.cel n), some (.int p), some (.int c), s3, some (.cel st.length), s5, s6, s7] (st.set n (some o) ++ [some (.lst (ws.map D.int))]) = .nx [some (.cel n), some (.int p), some (.int c), s3, some (.cel st.length), s5', s6', s7'] (st.set n (some o') ++ [some (.lst (ws'.map D.int))]) ∧ (∀ w ∈ ws', 0 ≤ w ∧ w < p) ∧ ws'.length = ws.length + ds.length ∧ Pu (N + 2 * ds.length) o'
  | [], ws, N, o, s5, s6, s7, ho, _, hw, _ => ⟨ws, o, s5, s6, s7, by simp [forGo], hw, rfl, ho⟩
  | d :: ds, ws, N, o, s5, s6, s7, ho, hN, hw, hl => by
    rw [List.length_cons] at hN hl
    obtain ⟨v, o1, s6', e, v1, v2, po⟩ := wsB_ok (c := c) (s3 := s3) (s5 := some d) (s6 := s6) (s7 := s7) h0 ho (by omega) hp hw (by omega)
    obtain ⟨ws', o', t5, t6, t7, e2, w2, l2, po2⟩ := ws_go (c := c) (s3 := s3) h0 hp ds (ws ++ [v]) (N + 2) o1 (some d) s6' s7 po (by omega) (fun w h => by
      rcases List.mem_append.mp h with h | h
      · exact hw w h
      · rw [List.mem_singleton.mp h]; exact ⟨v1, v2⟩) (by simp; omega)
    refine ⟨ws', o', t5, t6, t7, ?_, w2, by simp at l2 ⊢; omega, po2.mono (by rw [List.length_cons]; omega)⟩
    simp only [forGo, chk_nil, if_true, gN_e, List.set_cons_succ, List.set_cons_zero, e]
    exact e2
theorem wishes_ok {st : Stt} {n N : Nat} {o : O} {p c : Int} (hn : st[n]? = some (some o)) (ho : Pu N o) (hN : N ≤ 900000) (hp : 0 ≤ p ∧ p ≤ 1000) (hc : 0 ≤ c ∧ c ≤ 1000) :
    ∃ (ws : List Int) (o' : O), f__law_wishes false [.cel n, .int p, .int c] st = .ok (.lst (ws.map D.int)) (st.set n (some o')) ∧ (∀ w ∈ ws, 0 ≤ w ∧ w < p) ∧ ((p = 0 ∧ ws = []) ∨ (p ≠ 0 ∧ (ws.length : Int) = c)) ∧ Pu (N + 4000) o' := by
  obtain ⟨v, o1, v1, v2, e1, po1⟩ := draw_ok false hn ho (by omega) (m := 4) (by decide) (by decide)
  have hn1 := set_at (y := some o1) hn
  have fin : ∀ (ws : List Int) (o' : O), Pu (N + 4000) o' → ∀ r, r = okO (outD (pkB false) st (.lst (ws.map D.int)) (st.set n (some o'))) → r = .ok (.lst (ws.map D.int)) (st.set n (some o')) := fun ws o' po r h => by
    rw [h]
    exact out_vk0 (by simp [old]) (po.kp hn)
  by_cases p0 : p = 0
  · subst p0
    refine ⟨[], o1, ?_, by simp, .inl ⟨rfl, rfl⟩, po1.mono (by omega)⟩
    apply fin [] o1 (po1.mono (by omega))
    simp [f__law_wishes, b__law_wishes, fnS, e1, eqB_int]
  · have hp1 : 1 ≤ p ∧ p ≤ 1000 := by omega
    have pe : (p == 0) = false := by simpa using p0
    have rg : ∀ st s3, iR1 (cV 2) [some (.cel n), some (.int p), some (.int c), s3, none, none, none, none] st = .ok ((irange 0 c.toNat).map D.int, []) st := fun st s3 => rng_ok (by simp) hc.1 (by omega)
    have ln : ((irange 0 c.toNat).map D.int).length = c.toNat := by rw [List.length_map, irange_len]
    by_cases w0 : v = 0
    · subst w0
      obtain ⟨vs, o', e, hl, hP, hu⟩ := lc_drawn (g := gN 5) (elt := cCallD (f__law_draw false) [] (cCons (cV 0) (cCons (cV 1) cNil))) (σ := [some (.cel n), some (.int p), some (.int c), some (.int 0), none, none, none, none]) (n := n) (k := 1) (P := fun v => 0 ≤ v ∧ v < p)
        (fun d st o N h1 h2 h3 => by
          obtain ⟨v, o', v1, v2, e, po⟩ := draw_ok false h1 h2 (by omega) (m := p) hp1.1 (by omega)
          exact ⟨_, v, o', by simp; rfl, by simp [e], ⟨v1, v2⟩, po⟩) ((irange 0 c.toNat).map D.int) (st.set n (some o1)) o1 (N + 1) hn1 po1 (by rw [ln]; omega)
      rw [List.set_set] at e
      rw [ln] at hl hu
      refine ⟨vs, o', ?_, hP, .inr ⟨p0, by omega⟩, hu.mono (by omega)⟩
      apply fin vs o' (hu.mono (by omega))
      have sz := ints_len (vs := vs) (by omega)
      rw [List.length_map] at sz
      simp [f__law_wishes, b__law_wishes, fnS, e1, eqB_int, pe, rg, wipeD, e, sz, -eR1]
    · by_cases w1 : v = 1
      · subst w1
        obtain ⟨vs, o', e, hl, hP, hu⟩ := lc_drawn (g := gN 5) (elt := cB false fMin (cCons (cCallD (f__law_draw false) [] (cCons (cV 0) (cCons (cV 1) cNil))) (cCons (cCallD (f__law_draw false) [] (cCons (cV 0) (cCons (cV 1) cNil))) cNil))) (σ := [some (.cel n), some (.int p), some (.int c), some (.int 1), none, none, none, none]) (n := n) (k := 2) (P := fun v => 0 ≤ v ∧ v < p)
          (fun d st o N h1 h2 h3 => by
            obtain ⟨v, o', v1, v2, e, po⟩ := draw_ok false h1 h2 (by omega) (m := p) hp1.1 (by omega)
            obtain ⟨u, o2, u1, u2, e2, po2⟩ := draw_ok false (set_at (y := some o') h1) po (by omega) (m := p) hp1.1 (by omega)
            rw [List.set_set] at e2
            refine ⟨_, minI v u, o2, by simp; rfl, by simp [e, e2, fMin], ?_, po2⟩
            unfold minI
            split <;> omega) ((irange 0 c.toNat).map D.int) (st.set n (some o1)) o1 (N + 1) hn1 po1 (by rw [ln]; omega)
        rw [List.set_set] at e
        rw [ln] at hl hu
        refine ⟨vs, o', ?_, hP, .inr ⟨p0, by omega⟩, hu.mono (by omega)⟩
        apply fin vs o' (hu.mono (by omega))
        have sz := ints_len (vs := vs) (by omega)
        rw [List.length_map] at sz
        simp [f__law_wishes, b__law_wishes, fnS, e1, eqB_int, pe, rg, wipeD, e, sz, -eR1]
      · obtain ⟨ws, o2, s5, s6, s7, e, hw, hl, po2⟩ := ws_go (c := c) (s3 := some (.int v)) hn hp1 ((irange 0 c.toNat).map D.int) [] (N + 1) o1 none none none po1 (by rw [ln]; omega) (by simp) (by rw [ln]; simp; omega)
        rw [ln] at hl po2
        have hn2 : (st.set n (some o2) ++ [some (O.lst (ws.map D.int))])[n]? = some (some o2) := sa_n _ (old_lt hn)
        have L2 : (st.set n (some o2) ++ [some (O.lst (ws.map D.int))]).length = st.length + 1 := by simp
        obtain ⟨ys, o3, perm, e3, po3⟩ := shuf_ok false (st := st.set n (some o2) ++ [some (O.lst (ws.map D.int))]) (d := .cel st.length) (xs := ws.map D.int) (gs := [(st.length, ws.map D.int)]) hn2 po2 (by rw [List.length_map, hl]; simp; omega) (by rw [List.length_map, hl]; simp; omega) (itemsQ_app (by simp only [itemsQ, asT, itemsL, sa_end])) (fun o fs => by
          rw [sa_set _ (old_lt hn)]
          apply chk_app
          simp only [chk, sa_end, D.beqs_refl, Bool.and_self]) (old_ints _ _)
        rw [sa_set _ (old_lt hn)] at e3
        have yi : ∃ zs : List Int, ys = zs.map D.int ∧ zs.Perm ws := by
          have : ∃ zs : List Int, ys = zs.map D.int := by
            have all : ∀ y ∈ ys, ∃ i, y = D.int i := fun y hy => by
              obtain ⟨i, _, rfl⟩ := List.mem_map.mp (perm.mem_iff.mp hy)
              exact ⟨i, rfl⟩
            clear e3 perm
            induction ys with
            | nil => exact ⟨[], rfl⟩
            | cons y r ih =>
              obtain ⟨i, rfl⟩ := all y List.mem_cons_self
              obtain ⟨zs, rfl⟩ := ih fun x hx => all x (List.mem_cons_of_mem _ hx)
              exact ⟨i :: zs, rfl⟩
          obtain ⟨zs, rfl⟩ := this
          refine ⟨zs, rfl, ?_⟩
          have := perm.map fun d => match d with | .int i => i | _ => 0
          rw [List.map_map, List.map_map] at this
          simpa [Function.comp_def] using this
        obtain ⟨zs, rfl, pz⟩ := yi
        have po3' : Pu (N + 4000) o3 := po3.mono (by rw [List.length_map, hl]; simp; omega)
        refine ⟨zs, o3, ?_, fun w h => hw w (pz.mem_iff.mp h), .inr ⟨p0, by rw [pz.length_eq, hl]; simp; omega⟩, po3'⟩
        have q : f__law_wishes false [.cel n, .int p, .int c] st = okO (outD (pkB false) st (.lst (zs.map D.int)) (st.set n (some o3) ++ [some (O.lst (ws.map D.int))])) := by
          unfold wsB at e
          have rg' : iR1 (cV 2) [some (.cel n), some (.int p), some (.int c), some (.int v), some (.cel (st.set n (some o1)).length), none, none, none] (st.set n (some o1) ++ [some (.lst [])]) = .ok ((irange 0 c.toNat).map D.int, []) (st.set n (some o1) ++ [some (.lst [])]) := rng_ok (by simp) hc.1 (by omega)
          rw [List.length_set] at rg'
          simp only [List.map_nil] at e
          simp [f__law_wishes, b__law_wishes, fnS, e1, eqB_int, pe, w0, w1, rg', e, e3, -eR1]
        rw [q]
        exact out_vk _ (by simp [old]) (po3'.kp hn)
end Lw


/-! M58a: the program's cars: checks, parking, standing. -/
namespace Lw
open PySem MP
open L2 (atI ixN atI_nat Key)

theorem val_fin {kp : Bool} {st : Stt} {d : D} {r : R D} (h : r = okO (outD (pkB kp) st d st)) (o : old st.length d = true) : r = .ok d st := by
  rw [h]
  exact out_vk0 o (Kp.refl st)
theorem whole_ok (kp : Bool) (st : Stt) (i : Int) : f_is_whole kp [.int i] st = .ok (.bl true) st := by
  refine val_fin (kp := kp) ?_ rfl
  simp [f_is_whole, b_is_whole, fnS, fIsi, tyOf, isa]
theorem count_ok (kp : Bool) (st : Stt) {i : Int} (h : 0 ≤ i) : f_is_count kp [.int i, .int 0] st = .ok (.bl true) st := by
  refine val_fin (kp := kp) ?_ rfl
  simp [f_is_count, b_is_count, fnS, whole_ok, fMax, maxI, opGe, opCmpI, h]
theorem places_ok (kp : Bool) (st : Stt) {p : Int} (h : 0 ≤ p) : f_check_places kp [.int p] st = .ok .non st := by
  refine val_fin (kp := kp) ?_ rfl
  simp [f_check_places, b_check_places, fnS, count_ok, h]
/-- wishes in a street -/
def Wsh (p : Int) (ws : List Int) : Prop := 0 ≤ p ∧ p ≤ 1000 ∧ ws.length ≤ 1000 ∧ ∀ w ∈ ws, 0 ≤ w ∧ w < p
theorem Wsh.sml {p : Int} {ws : List Int} (h : Wsh p ws) : Sml p ws := ⟨h.1, by have := h.2.1; omega, by have := h.2.2.1; omega, fun w hw => by have := h.2.2.2 w hw; have := h.2.1; omega⟩
theorem are_ok (kp : Bool) (st : Stt) {p : Int} {ws : List Int} (h : Wsh p ws) : f_are_wishes kp [.int p, .lst (ws.map D.int)] st = .ok (.bl true) st := by
  refine val_fin (kp := kp) ?_ rfl
  have lc : lcGo [] (gN 2) cYes (cAndV (cCallD (f_is_count false) [.int 0] (cCons (cV 2) cNil)) (cBin false opLt (cV 2) (cV 0))) [some (.int p), some (.lst (ws.map D.int)), none] (ws.map D.int) st = some ((ws.map D.int).map fun _ => D.bl true, st) := by
    refine lc_pure rfl fun d hd => ?_
    obtain ⟨w, hw, rfl⟩ := List.mem_map.mp hd
    have := h.2.2.2 w hw
    refine ⟨_, by simp; rfl, rfl, ?_⟩
    simp [count_ok false st this.1, opLt, opCmpI, this.2]
  have sz : ((ws.map D.int).map fun _ => D.bl true).length ≤ sizeLine := by
    rw [sizeLine_val, List.length_map, List.length_map]
    have := h.2.2.1
    omega
  have fa := fAll_true (st := st) (ws.map D.int)
  simp [f_are_wishes, b_are_wishes, fnS, fIsi, tyOf, isa, itemsQ, asT, itemsL, wipeD, lc, -List.map_map, -List.length_map, sz, fa]
theorem check_ok (kp : Bool) (st : Stt) {p : Int} {ws : List Int} (h : Wsh p ws) : f_check_wishes kp [.int p, .lst (ws.map D.int)] st = .ok .non st := by
  refine val_fin (kp := kp) ?_ rfl
  simp [f_check_wishes, b_check_wishes, fnS, places_ok false st h.1, are_ok false st h]

/-! ### parking -/
abbrev kI : Int → Key := Sum.inl
theorem keyIn_iff {k : Key} {ks : List Key} : keyIn k ks = true ↔ k ∈ ks := by
  unfold keyIn
  rw [List.any_eq_true]
  constructor
  · rintro ⟨x, h, e⟩
    rw [← of_decide_eq_true e]
    exact h
  · exact fun h => ⟨k, h, decide_eq_true rfl⟩
/-- two cells at the end -/
theorem e2_0 (st : Stt) (a b : Option O) : (st ++ [a, b])[st.length]? = some a := by rw [app_at0]; rfl
theorem e2_1 (st : Stt) (a b : Option O) : (st ++ [a, b])[st.length + 1]? = some b := by rw [app_at]; rfl
theorem s2_0 (st : Stt) (a b c : Option O) : (st ++ [a, b]).set st.length c = st ++ [c, b] := by rw [app_set0]; rfl
theorem s2_1 (st : Stt) (a b c : Option O) : (st ++ [a, b]).set (st.length + 1) c = st ++ [a, c] := by rw [app_set]; rfl
theorem wh_ok {st : Stt} {p : Int} {x5 : Option D} {d : D} {found ks : List D} : ∀ (n : Nat) (keys : List Key) (q r : Int), nx (fun x => keyIn (kI x) keys) n q = some r →
    ∀ (vs : List D) (s4 : Option D), whGo (cTst (cBin false (opIn false) (cV 5) (cV 3))) (cSet 5 (cBin false opAdd (cV 5) (cC (.int 1)))) n [some (.int p), some d, some (.cel st.length), some (.cel (st.length + 1)), s4, some (.int q)] (st ++ [some (.lst found), some (.dk keys vs)]) = .nx [some (.int p), some d, some (.cel st.length), some (.cel (st.length + 1)), s4, some (.int r)] (st ++ [some (.lst found), some (.dk keys vs)])
  | 0, _, _, _, h => by cases h
  | n + 1, keys, q, r, h => fun vs s4 => by
    have e : opIn false (.int q) (.cel (st.length + 1)) (st ++ [some (.lst found), some (.dk keys vs)]) = some (.v (.bl (keyIn (kI q) keys))) := by
      simp [opIn, asL, asK, e2_1, keyD]
    unfold nx at h
    unfold whGo
    by_cases hk : keyIn (kI q) keys = true
    · rw [if_pos hk] at h
      have := wh_ok (st := st) (p := p) (x5 := x5) (d := d) (found := found) (ks := ks) n keys (q + 1) r h vs s4
      simp [e, hk, opAdd, this]
    · rw [if_neg hk] at h
      cases h
      have hk2 : keyIn (kI q) keys = false := by simpa using hk
      simp [e, hk2]
def pkBd : SS := (cSeq (cSet 5 (cV 4))
      (cSeq (cWh 100 (cTst (cBin false (opIn false) (cV 5) (cV 3)))
      (cSet 5 (cBin false opAdd (cV 5) (cC (.int 1)))))
      (cSeq (cIfS (cTst (cBin false opLt (cV 5) (cV 0)))
      (cAsg (gAt (cV 3) (cV 5)) (cC (.bl true)))
      cEnd)
      (cDrop (cMut mAppend (cV 2) (cCons (cIf (cTst (cBin false opLt (cV 5) (cV 0))) (cV 5) (cC .non)) cNil))))))
/-- the keys are the taken places -/
def Kys (keys : List Key) (vs : List D) (found : List (Option Int)) : Prop := keys.length = vs.length ∧ keys.length ≤ found.length ∧ ∀ x : Int, kI x ∈ keys ↔ some x ∈ found
theorem pkBd_ok {st : Stt} {p w : Int} {d : D} {found : List (Option Int)} {keys : List Key} {vs : List D} {s5 : Option D} (hk : Kys keys vs found) (hf : found.length < 99) :
    ∃ (keys' : List Key) (vs' : List D) (s5' : Option D), pkBd [some (.int p), some d, some (.cel st.length), some (.cel (st.length + 1)), some (.int w), s5] (st ++ [some (.lst (found.map oD)), some (.dk keys vs)]) = .nx [some (.int p), some d, some (.cel st.length), some (.cel (st.length + 1)), some (.int w), s5'] (st ++ [some (.lst ((found ++ [step p found w]).map oD)), some (.dk keys' vs')]) ∧ Kys keys' vs' (found ++ [step p found w]) := by
  obtain ⟨h1, h2, h3⟩ := hk
  have te : (fun x => keyIn (kI x) keys) = fun x => decide (some x ∈ found) := funext fun x => by
    rw [Bool.eq_iff_iff, keyIn_iff, h3, decide_eq_true_eq]
  obtain ⟨q, hq⟩ := nx_found found (n := 100) (by omega) w
  obtain ⟨g1, g2, g3, g4⟩ := nx_some hq
  have e1 := wh_ok (st := st) (p := p) (x5 := none) (d := d) (found := found.map oD) (ks := []) 100 keys w q (by rw [te]; exact hq) vs (some (.int w))
  have stp := step_eq (p := p) hq
  have sz : (found.map oD).length < sizeLine := by rw [sizeLine_val, List.length_map]; omega
  have kn : keyIn (kI q) keys = false := by
    have : decide (some q ∈ found) = false := g3
    rw [← congrFun te q] at this
    exact this
  have kl : keys.length < sizeLine := by rw [sizeLine_val]; omega
  have vl : vs.length < sizeLine := h1 ▸ kl
  rw [List.length_map] at sz
  by_cases hlt : q < p
  · rw [if_pos hlt] at stp
    refine ⟨keys ++ [kI q], vs ++ [.bl true], some (.int q), ?_, by simp [h1], by simp; exact h2, fun x => ?_⟩
    · unfold pkBd
      simp [e1, opLt, opCmpI, hlt, MP.putAt, e2_1, e2_0, keyD, kn, kl, vl, h1, s2_1, s2_0, isL, asL, mAppend, sz, putR, stp, oD]
    · rw [stp, List.mem_append, List.mem_append, h3]
      simp [kI]
  · rw [if_neg hlt] at stp
    refine ⟨keys, vs, some (.int q), ?_, h1, by simp; omega, fun x => ?_⟩
    · unfold pkBd
      simp [e1, opLt, opCmpI, hlt, e2_0, s2_0, isL, asL, mAppend, sz, putR, stp, oD]
    · rw [stp, List.mem_append, h3]
      simp
theorem pk_go {st : Stt} {p : Int} {d : D} : ∀ (ws : List Int) (found : List (Option Int)) (keys : List Key) (vs : List D) (s4 s5 : Option D), Kys keys vs found → found.length + ws.length < 99 →
    ∃ (keys' : List Key) (vs' : List D) (s4' s5' : Option D), forGo [] (gN 4) pkBd (ws.map D.int) [some (.int p), some d, some (.cel st.length), some (.cel (st.length + 1)), s4, s5] (st ++ [some (.lst (found.map oD)), some (.dk keys vs)]) = .nx [some (.int p), some d, some (.cel st.length), some (.cel (st.length + 1)), s4', s5'] (st ++ [some (.lst ((parkF p found ws).map oD)), some (.dk keys' vs')])
  | [], found, keys, vs, s4, s5, hk, _ => ⟨keys, vs, s4, s5, by simp [forGo, parkF]⟩
  | w :: ws, found, keys, vs, s4, s5, hk, hl => by
    rw [List.length_cons] at hl
    obtain ⟨k1, v1, s5', e, hk1⟩ := pkBd_ok (st := st) (p := p) (w := w) (d := d) (s5 := s5) hk (by omega)
    obtain ⟨k2, v2, t4, t5, e2⟩ := pk_go (st := st) (p := p) (d := d) ws (found ++ [step p found w]) k1 v1 (some (.int w)) s5' hk1 (by simp; omega)
    refine ⟨k2, v2, t4, t5, ?_⟩
    rw [List.map_cons]
    simp only [forGo, chk_nil, if_true, gN_e, List.set_cons_succ, List.set_cons_zero, e]
    exact e2
theorem there_ok (kp : Bool) (st : Stt) {p : Int} {ws : List Int} (hl : ws.length < 99) : f_parked_there kp [.int p, .lst (ws.map D.int)] st = fin kp (some (.l ((parkF p [] ws).map oD))) st := by
  obtain ⟨k2, v2, t4, t5, e⟩ := pk_go (st := st) (p := p) (d := .lst (ws.map D.int)) ws [] [] [] none none ⟨rfl, Nat.le_refl _, fun x => by simp⟩ (by simpa using hl)
  unfold pkBd at e
  simp only [List.map_nil] at e
  have q : f_parked_there kp [.int p, .lst (ws.map D.int)] st = okO (outD (pkB kp) st (.cel st.length) (st ++ [some (.lst ((parkF p [] ws).map oD)), some (.dk k2 v2)])) := by
    simp [f_parked_there, b_parked_there, fnS, itemsQ, asT, itemsL, e]
  rw [q]
  exact out_lk _ (old_oD _ _) (Kp.refl st)
theorem parked_ok (kp : Bool) (st : Stt) {p : Int} {ws : List Int} (h : Wsh p ws) (hl : ws.length < 99) : f_parked kp [.int p, .lst (ws.map D.int)] st = fin kp (some (.l ((parkF p [] ws).map oD))) st := by
  have e := there_ok kp st (p := p) hl
  cases kp with
  | false =>
    have q : f_parked false [.int p, .lst (ws.map D.int)] st = okO (outD (pkB false) st (.lst ((parkF p [] ws).map oD)) st) := by
      simp [f_parked, b_parked, fnS, check_ok false st h, e]
    exact val_fin (kp := false) q (old_oD _ _)
  | true =>
    have q : f_parked true [.int p, .lst (ws.map D.int)] st = okO (outD (pkB true) st (.cel st.length) (st ++ [some (.lst ((parkF p [] ws).map oD))])) := by
      simp [f_parked, b_parked, fnS, check_ok false st h, e]
    rw [q]
    exact out_lk0 (old_oD _ _) (Kp.refl st)
end Lw


/-! M58b: the program's cars: who stands where, the first crowded place. -/
namespace Lw
open PySem MP
open L2 (atI ixN atI_nat Key)

theorem ixN_ok {n : Nat} {i : Int} (h0 : 0 ≤ i) (h1 : i < n) : ixN n i = some i.toNat := by
  unfold ixN
  simp only [h0, if_true]
  rw [if_pos (by omega)]
theorem irange_get {lo : Int} : ∀ {n i : Nat}, i < n → (irange lo n)[i]? = some (lo + i)
  | n + 1, 0, _ => by simp [irange]
  | n + 1, i + 1, h => by
    simp only [irange, List.getElem?_cons_succ]
    rw [irange_get (lo := lo + 1) (by omega)]
    congr 1
    push_cast
    omega
theorem set_map {β : Type} {n : Nat} {f : Int → β} {j : Int} {x : β} (h0 : 0 ≤ j) (h1 : j < n) : ((irange 0 n).map f).set j.toNat x = (irange 0 n).map fun q => if q = j then x else f q := by
  apply List.ext_getElem?
  intro i
  by_cases hi : i < n
  · by_cases e : j.toNat = i
    · subst e
      have : (0 : Int) + (j.toNat : Nat) = j := by omega
      rw [List.getElem?_set_self (by simp [irange_len, hi]), List.getElem?_map, irange_get hi, this]
      simp
    · have : ¬ ((0 : Int) + (i : Nat) = j) := by omega
      rw [List.getElem?_set_ne e, List.getElem?_map, List.getElem?_map, irange_get hi, Option.map_some, Option.map_some, if_neg this]
  · rw [List.getElem?_eq_none (by simp [irange_len]; omega), List.getElem?_eq_none (by simp [irange_len]; omega)]
/-- the car that ends at q -/
def idx : List (Option Int) → Int → Int → Option Int
  | [], _, _ => none
  | a :: r, q, k => if a = some q then some k else idx r q (k + 1)
theorem idx_none {q : Int} : ∀ {r : List (Option Int)} {k : Int}, some q ∉ r → idx r q k = none
  | [], _, _ => rfl
  | a :: r, k, h => by
    unfold idx
    rw [if_neg fun e => h (by rw [e]; exact List.mem_cons_self)]
    exact idx_none fun z => h (List.mem_cons_of_mem _ z)
theorem idx_snoc {q : Int} {a : Option Int} : ∀ {r : List (Option Int)} {k : Int}, (a = some q → some q ∉ r) → idx (r ++ [a]) q k = if a = some q then some (k + r.length) else idx r q k
  | [], k, _ => by simp [idx]
  | b :: r, k, h => by
    rw [List.cons_append]
    unfold idx
    by_cases e : b = some q
    · rw [if_pos e, if_pos e]
      by_cases e2 : a = some q
      · exact absurd (by rw [e]; exact List.mem_cons_self) (h e2)
      · rw [if_neg e2]
    · rw [if_neg e, if_neg e, idx_snoc fun z m => h z (List.mem_cons_of_mem _ m)]
      have : (k + 1 + (r.length : Nat) : Int) = k + ((b :: r).length : Nat) := by
        simp only [List.length_cons]
        omega
      rw [this]
/-- ends are places of the street, no two cars at one -/
def Ends (p : Int) (ends : List (Option Int)) : Prop := (∀ q, some q ∈ ends → 0 ≤ q ∧ q < p) ∧ (ends.filterMap id).Nodup
def stand (p : Int) (ends : List (Option Int)) : List (Option Int) := (irange 0 p.toNat).map fun q => idx ends q 0
def stB : SS := (cIfS (cTst (cBin false (opIsN true) (cV 4) (cC .non)))
      (cAsg (gAt (cV 2) (cV 4)) (cV 3))
      cEnd)
theorem st_go {st : Stt} {p : Int} {d : D} (hp : 0 ≤ p) : ∀ (r pre : List (Option Int)) (s3 s4 : Option D), (∀ q, some q ∈ r → 0 ≤ q ∧ q < p) → ((pre ++ r).filterMap id).Nodup →
    ∃ s3' s4' : Option D, forGo [] (gT (gsC (gN 3) (gsC (gN 4) gs0))) stB (((r.map oD).zipIdx pre.length).map fun z => D.tup [.int (z.2 : Nat), z.1]) [some (.int p), some d, some (.cel st.length), s3, s4] (st ++ [some (.lst ((stand p pre).map oD))]) = .nx [some (.int p), some d, some (.cel st.length), s3', s4'] (st ++ [some (.lst ((stand p (pre ++ r)).map oD))])
  | [], pre, s3, s4, _, _ => ⟨s3, s4, by simp [forGo]⟩
  | a :: r, pre, s3, s4, hq, nd => by
    have nd' : ((pre ++ [a] ++ r).filterMap id).Nodup := by rw [List.append_assoc]; exact nd
    obtain ⟨t3, t4, e⟩ := st_go (st := st) (d := d) hp r (pre ++ [a]) (some (.int (pre.length : Nat))) (some (oD a)) (fun q h => hq q (List.mem_cons_of_mem _ h)) nd'
    refine ⟨t3, t4, ?_⟩
    rw [List.append_assoc] at e
    rw [List.length_append] at e
    have e : forGo [] (gT (gsC (gN 3) (gsC (gN 4) gs0))) stB (((r.map oD).zipIdx (pre.length + 1)).map fun z => D.tup [.int (z.2 : Nat), z.1]) [some (.int p), some d, some (.cel st.length), some (.int (pre.length : Nat)), some (oD a)] (st ++ [some (.lst ((stand p (pre ++ [a])).map oD))]) = .nx [some (.int p), some d, some (.cel st.length), t3, t4] (st ++ [some (.lst ((stand p (pre ++ a :: r)).map oD))]) := e
    have b : stB [some (.int p), some d, some (.cel st.length), some (.int (pre.length : Nat)), some (oD a)] (st ++ [some (.lst ((stand p pre).map oD))]) = .nx [some (.int p), some d, some (.cel st.length), some (.int (pre.length : Nat)), some (oD a)] (st ++ [some (.lst ((stand p (pre ++ [a])).map oD))]) := by
      cases a with
      | none =>
        have : stand p (pre ++ [none]) = stand p pre := by
          unfold stand
          apply List.map_congr_left
          intro q _
          rw [idx_snoc fun z => by cases z]
          simp
        rw [this]
        unfold stB
        simp [oD, opIsN, MP.isNon]
      | some q0 =>
        obtain ⟨h0, h1⟩ := hq q0 List.mem_cons_self
        have nin : some q0 ∉ pre := by
          intro hm
          rw [List.filterMap_append, List.nodup_append] at nd
          exact nd.2.2 q0 (List.mem_filterMap.mpr ⟨some q0, hm, rfl⟩) q0 (List.mem_filterMap.mpr ⟨some q0, List.mem_cons_self, rfl⟩) rfl
        have sm : ((stand p pre).map oD).set q0.toNat (.int (pre.length : Nat)) = (stand p (pre ++ [some q0])).map oD := by
          have : (D.int (pre.length : Nat)) = oD (some (pre.length : Nat)) := rfl
          rw [this, ← List.map_set]
          congr 1
          unfold stand
          rw [set_map h0 (by omega)]
          apply List.map_congr_left
          intro q _
          by_cases hqq : q = q0
          · subst hqq
            rw [idx_snoc fun _ => nin]
            simp
          · have : ¬ some q0 = some q := fun z => hqq (Option.some.inj z).symm
            rw [idx_snoc fun z => absurd z this]
            simp [hqq, this]
        have len : ((stand p pre).map oD).length = p.toNat := by simp [stand, irange_len]
        have pa : MP.putAt (.cel st.length) (.int q0) (.int (pre.length : Nat)) (st ++ [some (.lst ((stand p pre).map oD))]) = some (st ++ [some (.lst ((stand p (pre ++ [some q0])).map oD))]) := by
          have c : (st ++ [some (O.lst ((stand p pre).map oD))])[st.length]? = some (some (.lst ((stand p pre).map oD))) := by rw [app_at0]; rfl
          rw [put_cel c, len, ixN_ok h0 (by omega)]
          simp only
          rw [sm, app_set0]
          rfl
        unfold stB
        simp [oD, opIsN, MP.isNon, pa]
    rw [List.map_cons, List.zipIdx_cons, List.map_cons]
    simp only [forGo, chk_nil, if_true, gT_e, gsC_e, gN_e, gs0_e, List.set_cons_succ, List.set_cons_zero, b]
    exact e
theorem rep_flat {α : Type} (x : α) : ∀ n : Nat, (List.replicate n [x]).flatten = List.replicate n x
  | 0 => rfl
  | n + 1 => by simp [List.replicate_succ, rep_flat x n]
theorem stand_nil (p : Int) : (stand p []).map oD = List.replicate p.toNat D.non := by
  unfold stand idx
  rw [List.map_map, List.eq_replicate_iff]
  refine ⟨by simp [irange_len], fun d hd => ?_⟩
  obtain ⟨q, _, rfl⟩ := List.mem_map.mp hd
  rfl
theorem standT_ok (kp : Bool) (st : Stt) {p : Int} {ws : List Int} (h : Wsh p ws) (hl : ws.length < 99) (hE : Ends p (parkF p [] ws)) : f_standing_there kp [.int p, .lst (ws.map D.int)] st = fin kp (some (.l ((stand p (parkF p [] ws)).map oD))) st := by
  obtain ⟨h1, h2, h3, h4⟩ := h
  obtain ⟨s3, s4, e⟩ := st_go (st := st) (d := .lst (ws.map D.int)) h1 (parkF p [] ws) [] none none hE.1 (by simpa using hE.2)
  have e0 := there_ok false (st ++ [some (.lst ((stand p []).map oD))]) (p := p) hl
  rw [fin_lF] at e0
  unfold stB at e
  simp only [List.nil_append, List.length_nil] at e
  have mu : opMul (.lst [.non]) (.int p) st = some (.l ((stand p []).map oD)) := by
    rw [stand_nil]
    simp only [opMul, asL, rep_flat]
    rw [if_pos ⟨by omega, by omega, by rw [sizeLine_val]; simp; omega⟩]
  have q : f_standing_there kp [.int p, .lst (ws.map D.int)] st = okO (outD (pkB kp) st (.cel st.length) (st ++ [some (.lst ((stand p (parkF p [] ws)).map oD))])) := by
    simp [f_standing_there, b_standing_there, fnS, mu, sizeLine_val, e0, itemsL, e]
  rw [q]
  exact out_lk0 (old_oD _ _) (Kp.refl st)
/-- a def that hands on what another def made -/
theorem hand_l {kp : Bool} {st : Stt} {xs : List D} {r : R D} (hx : olds_ st.length xs = true) (h : r = match fin kp (some (.l xs)) st with
    | .ok d st' => okO (outD (pkB kp) st d st')
    | _ => .fail) : r = fin kp (some (.l xs)) st := by
  rw [h]
  cases kp with
  | false => exact out_vk0 (by simpa [old] using hx) (Kp.refl st)
  | true => exact out_lk0 hx (Kp.refl st)
theorem standing_ok (kp : Bool) (st : Stt) {p : Int} {ws : List Int} (h : Wsh p ws) (hl : ws.length < 99) (hE : Ends p (parkF p [] ws)) : f_standing kp [.int p, .lst (ws.map D.int)] st = fin kp (some (.l ((stand p (parkF p [] ws)).map oD))) st := by
  have e := standT_ok kp st h hl hE
  refine hand_l (old_oD _ _) ?_
  cases kp <;> simp [f_standing, b_standing, fnS, check_ok false st h, e]
end Lw


/-! M58c: the program's cars: the first crowded place, lucky cars, how far they drive; the law's bar. -/
namespace Lw
open PySem MP
open L2 (atI ixN atI_nat Key)

/-- how many wish q or one behind -/
def cge (ws : List Int) (q : Int) : Int := ((ws.filter fun w => decide (q ≤ w)).length : Nat)
theorem cge_cons (w : Int) (ws : List Int) (q : Int) : cge (w :: ws) q = (if q ≤ w then 1 else 0) + cge ws q := by
  unfold cge
  by_cases h : q ≤ w
  · simp [List.filter_cons, h]; omega
  · simp [List.filter_cons, h]
theorem cge_succ : ∀ (ws : List Int) (q : Int), cge ws q = (ws.count q : Nat) + cge ws (q + 1)
  | [], q => rfl
  | w :: ws, q => by
    rw [cge_cons, cge_cons, cge_succ ws q, List.count_cons]
    by_cases h : w = q
    · subst h
      have h1 : ¬ (w + 1 ≤ w) := by omega
      simp [h1]
      omega
    · have e : (w == q) = false := by simpa using h
      simp only [e]
      by_cases h2 : q ≤ w
      · have h3 : q + 1 ≤ w := by omega
        simp [h2, h3]
        omega
      · have h3 : ¬ (q + 1 ≤ w) := by omega
        simp [h2, h3]
/-- the first crowded place from q on, n places being left -/
def crowdF (p : Int) (ws : List Int) (l : List Int) : Option Int := l.find? fun q => decide (p - q < cge ws q)
def crowd (p : Int) (ws : List Int) : Option Int := crowdF p ws (irange 0 p.toNat)
def cntB : SS := cAsg (gAt (cV 3) (cV 4)) (cBin false opAdd (cBin false opIx (cV 3) (cV 4)) (cC (.int 1)))
def cnts (p : Int) (ws : List Int) : List Int := (irange 0 p.toNat).map fun q => ((ws.count q : Nat) : Int)
theorem cnts_get {p q : Int} {ws : List Int} (h0 : 0 ≤ q) (h1 : q < p) : atI ((cnts p ws).map D.int) q = some (.int (ws.count q : Nat)) := by
  have h : ((cnts p ws).map D.int)[q.toNat]? = some (.int (ws.count q : Nat)) := by
    unfold cnts
    rw [List.getElem?_map, List.getElem?_map, irange_get (by omega)]
    have : (0 : Int) + (q.toNat : Nat) = q := by omega
    rw [this]
    rfl
  have := atI_nat h
  rwa [Int.toNat_of_nonneg h0] at this
theorem asQ_end (st : Stt) (xs : List D) : asQ (st ++ [some (.lst xs)]) (.cel st.length) = some xs := by simp [asQ, asL]
theorem cnt_go {st : Stt} {p : Int} {d s2 : D} {s5 : Option D} (hp : 0 ≤ p) : ∀ (r pre : List Int) (s4 : Option D), (∀ w ∈ r, 0 ≤ w ∧ w < p) →
    ∃ s4' : Option D, forGo [] (gN 4) cntB (r.map D.int) [some (.int p), some d, some s2, some (.cel st.length), s4, s5] (st ++ [some (.lst ((cnts p pre).map D.int))]) = .nx [some (.int p), some d, some s2, some (.cel st.length), s4', s5] (st ++ [some (.lst ((cnts p (pre ++ r)).map D.int))])
  | [], pre, s4, _ => ⟨s4, by simp [forGo]⟩
  | w :: r, pre, s4, h => by
    obtain ⟨t4, e⟩ := cnt_go (st := st) (d := d) (s2 := s2) (s5 := s5) hp r (pre ++ [w]) (some (.int w)) fun x hx => h x (List.mem_cons_of_mem _ hx)
    refine ⟨t4, ?_⟩
    rw [List.append_assoc] at e
    obtain ⟨h0, h1⟩ := h w List.mem_cons_self
    have c : (st ++ [some (O.lst ((cnts p pre).map D.int))])[st.length]? = some (some (.lst ((cnts p pre).map D.int))) := by rw [app_at0]; rfl
    have sm : ((cnts p pre).map D.int).set w.toNat (.int ((pre.count w : Nat) + 1)) = (cnts p (pre ++ [w])).map D.int := by
      unfold cnts
      rw [← List.map_set, set_map h0 (by omega)]
      congr 1
      apply List.map_congr_left
      intro q _
      rw [List.count_append]
      by_cases e : q = w
      · subst e
        simp
      · have : (w == q) = false := by simpa using fun z => e z.symm
        simp [e, List.count_cons, this]
    have pa : MP.putAt (.cel st.length) (.int w) (.int ((pre.count w : Nat) + 1)) (st ++ [some (.lst ((cnts p pre).map D.int))]) = some (st ++ [some (.lst ((cnts p (pre ++ [w])).map D.int))]) := by
      have len : ((cnts p pre).map D.int).length = p.toNat := by simp [cnts, irange_len]
      rw [put_cel c, len, ixN_ok h0 (by omega)]
      simp only
      rw [sm, app_set0]
      rfl
    have ix : opIx (.cel st.length) (.int w) (st ++ [some (.lst ((cnts p pre).map D.int))]) = some (.v (.int (pre.count w : Nat))) := by
      rw [ixq (asQ_end st _), cnts_get h0 h1]
      rfl
    have b : cntB [some (.int p), some d, some s2, some (.cel st.length), some (.int w), s5] (st ++ [some (.lst ((cnts p pre).map D.int))]) = .nx [some (.int p), some d, some s2, some (.cel st.length), some (.int w), s5] (st ++ [some (.lst ((cnts p (pre ++ [w])).map D.int))]) := by
      unfold cntB
      simp [ix, opAdd, pa]
    rw [List.map_cons]
    simp only [forGo, chk_nil, if_true, gN_e, List.set_cons_succ, List.set_cons_zero, b]
    exact e
def crB : SS := (cSeq (cIfS (cTst (cBin false opGt (cV 2) (cBin false opSub (cV 0) (cV 5))))
      (cRet (cV 5))
      cEnd)
      (cSet 2 (cBin false opSub (cV 2) (cBin false opIx (cV 3) (cV 5)))))
theorem cr_go {st : Stt} {p : Int} {d : D} {ws : List Int} {s4 : Option D} : ∀ (n : Nat) (q : Int) (s5 : Option D), 0 ≤ q → q + n = p →
    (match crowdF p ws (irange q n) with
      | some r => forGo [] (gN 5) crB ((irange q n).map D.int) [some (.int p), some d, some (.int (cge ws q)), some (.cel st.length), s4, s5] (st ++ [some (.lst ((cnts p ws).map D.int))]) = .rt (.int r) (st ++ [some (.lst ((cnts p ws).map D.int))])
      | none => ∃ s2' s5' : Option D, forGo [] (gN 5) crB ((irange q n).map D.int) [some (.int p), some d, some (.int (cge ws q)), some (.cel st.length), s4, s5] (st ++ [some (.lst ((cnts p ws).map D.int))]) = .nx [some (.int p), some d, s2', some (.cel st.length), s4, s5'] (st ++ [some (.lst ((cnts p ws).map D.int))]))
  | 0, q, s5, _, _ => ⟨_, _, by simp [irange, forGo]; exact ⟨rfl, rfl⟩⟩
  | n + 1, q, s5, h0, hn => by
    have ih := cr_go (st := st) (p := p) (d := d) (ws := ws) (s4 := s4) n (q + 1) (some (.int q)) (by omega) (by push_cast at hn; omega)
    have ix : opIx (.cel st.length) (.int q) (st ++ [some (.lst ((cnts p ws).map D.int))]) = some (.v (.int (ws.count q : Nat))) := by
      rw [ixq (asQ_end st _), cnts_get h0 (by push_cast at hn; omega)]
      rfl
    unfold crowdF at ih ⊢
    by_cases h : p - q < cge ws q
    · have f : (irange q (n + 1)).find? (fun q => decide (p - q < cge ws q)) = some q := by
        simp only [irange, List.find?_cons]
        rw [decide_eq_true h]
      rw [f]
      simp only [irange, List.map_cons, forGo, chk_nil, if_true, gN_e, List.set_cons_succ, List.set_cons_zero]
      unfold crB
      simp [opSub, opGt, opCmpI, h]
    · have f : (irange q (n + 1)).find? (fun q => decide (p - q < cge ws q)) = (irange (q + 1) n).find? (fun q => decide (p - q < cge ws q)) := by
        simp only [irange, List.find?_cons]
        rw [decide_eq_false h]
      rw [f]
      have b : crB [some (.int p), some d, some (.int (cge ws q)), some (.cel st.length), s4, some (.int q)] (st ++ [some (.lst ((cnts p ws).map D.int))]) = .nx [some (.int p), some d, some (.int (cge ws (q + 1))), some (.cel st.length), s4, some (.int q)] (st ++ [some (.lst ((cnts p ws).map D.int))]) := by
        have : cge ws q - (ws.count q : Nat) = cge ws (q + 1) := by rw [cge_succ]; omega
        unfold crB
        simp [opSub, opGt, opCmpI, h, ix, this]
      have g : ∀ R, forGo [] (gN 5) crB ((irange (q + 1) n).map D.int) [some (.int p), some d, some (.int (cge ws (q + 1))), some (.cel st.length), s4, some (.int q)] (st ++ [some (.lst ((cnts p ws).map D.int))]) = R → forGo [] (gN 5) crB ((irange q (n + 1)).map D.int) [some (.int p), some d, some (.int (cge ws q)), some (.cel st.length), s4, s5] (st ++ [some (.lst ((cnts p ws).map D.int))]) = R := fun R hR => by
        simp only [irange, List.map_cons, forGo, chk_nil, if_true, gN_e, List.set_cons_succ, List.set_cons_zero, b]
        exact hR
      cases hf : (irange (q + 1) n).find? (fun q => decide (p - q < cge ws q)) with
      | some r => rw [hf] at ih; exact g _ ih
      | none =>
        rw [hf] at ih
        obtain ⟨a, b', e⟩ := ih
        exact ⟨a, b', g _ e⟩
theorem cge_zero {ws : List Int} (h : ∀ w ∈ ws, 0 ≤ w) : cge ws 0 = (ws.length : Nat) := by
  unfold cge
  rw [List.filter_eq_self.mpr fun w hw => decide_eq_true (h w hw)]
theorem rep_ints (n : Nat) (i : Int) : List.replicate n (D.int i) = (List.replicate n i).map D.int := by rw [List.map_replicate]
theorem crowded_ok (kp : Bool) (st : Stt) {p : Int} {ws : List Int} (h : Wsh p ws) : f_first_crowded kp [.int p, .lst (ws.map D.int)] st = .ok (oD (crowd p ws)) st := by
  obtain ⟨h1, h2, h3, h4⟩ := h
  obtain ⟨s4, e1⟩ := cnt_go (st := st) (d := .lst (ws.map D.int)) (s2 := .int (ws.length : Nat)) (s5 := none) h1 ws [] none h4
  have e2 := cr_go (st := st) (p := p) (d := .lst (ws.map D.int)) (ws := ws) (s4 := s4) p.toNat 0 none (by decide) (by omega)
  rw [cge_zero fun w hw => (h4 w hw).1] at e2
  rw [List.nil_append] at e1
  unfold cntB at e1
  unfold crB at e2
  have mu : opMul (.lst [.int 0]) (.int p) st = some (.l ((cnts p []).map D.int)) := by
    have : (cnts p []).map D.int = List.replicate p.toNat (D.int 0) := by
      unfold cnts
      rw [List.map_map, List.eq_replicate_iff]
      refine ⟨by simp [irange_len], fun d hd => ?_⟩
      obtain ⟨q, _, rfl⟩ := List.mem_map.mp hd
      rfl
    rw [this]
    simp only [opMul, asL, rep_flat]
    rw [if_pos ⟨by omega, by omega, by rw [sizeLine_val]; simp; omega⟩]
  have rg : ∀ st s4, iR1 (cV 0) [some (.int p), some (.lst (ws.map D.int)), some (.int (ws.length : Nat)), some (.cel (st : Nat)), s4, none] = fun st => .ok ((irange 0 p.toNat).map D.int, []) st := fun _ _ => funext fun st => rng_ok (by simp) h1 (by omega)
  have ol : old st.length (oD (crowd p ws)) = true := by cases crowd p ws <;> rfl
  have q : f_first_crowded kp [.int p, .lst (ws.map D.int)] st = okO (outD (pkB kp) st (oD (crowd p ws)) (st ++ [some (.lst ((cnts p ws).map D.int))])) := by
    unfold crowd at *
    cases hc : crowdF p ws (irange 0 p.toNat) with
    | some r =>
      rw [hc] at e2
      simp only at e2
      simp [f_first_crowded, b_first_crowded, fnS, fLen, asQ, asL, mu, sizeLine_val, itemsQ, asT, itemsL, e1, rg, e2, oD, -eR1]
    | none =>
      rw [hc] at e2
      obtain ⟨a, b, e2⟩ := e2
      simp [f_first_crowded, b_first_crowded, fnS, fLen, asQ, asL, mu, sizeLine_val, itemsQ, asT, itemsL, e1, rg, e2, oD, -eR1]
  rw [q]
  exact out_vk _ ol (Kp.refl st)
theorem none_leaves_ok (kp : Bool) (st : Stt) {p : Int} {ws : List Int} (h : Wsh p ws) : f_does_none_leave kp [.int p, .lst (ws.map D.int)] st = .ok (.bl (crowd p ws).isNone) st := by
  refine val_fin (kp := kp) ?_ rfl
  have e := crowded_ok kp st h
  cases hc : crowd p ws <;> simp [f_does_none_leave, b_does_none_leave, fnS, check_ok false st h, e, hc, oD, opIsN, MP.isNon]
end Lw


/-! M58d: bars, lucky cars, how far. -/
namespace Lw
open PySem MP
open L2 (atI ixN atI_nat Key)

/-- the items of enumerate -/
abbrev enD (xs : List D) : List D := xs.zipIdx.map fun z => D.tup [.int (z.2 : Nat), z.1]
/-- the cars that wish q or one behind -/
def cars (ws : List Int) (q : Int) : List Int := (ws.zipIdx.filter fun z => decide (q ≤ z.1)).map fun z => ((z.2 : Nat) : Int)
def fst2 : D → D
  | .tup [a, _] => a
  | _ => .non
theorem zip_mapI (ws : List Int) (k : Nat) : (ws.map D.int).zipIdx k = (ws.zipIdx k).map fun z => (D.int z.1, z.2) := by
  rw [List.zipIdx_map]
  rfl
theorem cars_len (ws : List Int) (q : Int) : ((cars ws q).length : Nat) = cge ws q := by
  unfold cars cge
  rw [List.length_map]
  congr 1
  have : ∀ k, ((ws.zipIdx k).filter fun z => decide (q ≤ z.1)).length = (ws.filter fun w => decide (q ≤ w)).length := by
    intro k
    induction ws generalizing k with
    | nil => rfl
    | cons w r ih =>
      rw [List.zipIdx_cons, List.filter_cons, List.filter_cons]
      by_cases h : q ≤ w <;> simp [h, ih]
  exact this 0
/-- the comprehension [car for car, wish in enumerate(wishes) if wish >= q], in any slots -/
theorem cars_lc {i j iq : Nat} {σ : Ev} {st : Stt} {ws : List Int} {q : Int} (hi : i < σ.length) (hj : j < σ.length) (hij : i ≠ j) (hqi : iq ≠ i) (hqj : iq ≠ j) (hq : σ[iq]? = some (some (.int q))) :
    lcGo [] (gT (gsC (gN i) (gsC (gN j) gs0))) (cTst (cBin false opGe (cV j) (cV iq))) (cV i) σ (enD (ws.map D.int)) st = some ((cars ws q).map D.int, st) := by
  have key := lc_filter (gs := []) (g := gT (gsC (gN i) (gsC (gN j) gs0))) (tt := cTst (cBin false opGe (cV j) (cV iq))) (elt := cV i) (σ := σ) (st := st) rfl
    (b := fun x => match x with | .tup [_, .int w] => decide (q ≤ w) | _ => false) (f := fst2) (ds := enD (ws.map D.int)) fun x hx => by
      unfold enD at hx
      rw [zip_mapI, List.map_map] at hx
      obtain ⟨z, _, rfl⟩ := List.mem_map.mp hx
      refine ⟨(σ.set i (some (.int (z.2 : Nat)))).set j (some (.int z.1)), by simp, ?_, ?_⟩
      · have e1 : ((σ.set i (some (.int (z.2 : Nat)))).set j (some (.int z.1)))[j]? = some (some (.int z.1)) := List.getElem?_set_self (by simpa using hj)
        have e2 : ((σ.set i (some (.int (z.2 : Nat)))).set j (some (.int z.1)))[iq]? = some (some (.int q)) := by
          rw [List.getElem?_set_ne (fun e => hqj e.symm), List.getElem?_set_ne (fun e => hqi e.symm)]
          exact hq
        simp only [eTst, eBin, eV, e1, e2, R.bind, opGe, opCmpI, fin_v]
        rfl
      · have e1 : ((σ.set i (some (.int (z.2 : Nat)))).set j (some (.int z.1)))[i]? = some (some (.int (z.2 : Nat))) := by
          rw [List.getElem?_set_ne (fun e => hij e.symm)]
          exact List.getElem?_set_self hi
        simp only [eV, e1]
        rfl
  rw [key]
  unfold enD cars
  rw [zip_mapI, List.map_map, List.filter_map, List.map_map, List.map_map]
  rfl
theorem cars_size (ws : List Int) (q : Int) (h : ws.length ≤ 1000) : (cars ws q).length ≤ 16777216 := by
  unfold cars
  rw [List.length_map]
  refine Nat.le_trans (List.length_filter_le _ _) ?_
  rw [List.length_zipIdx]
  omega
theorem fLenI (xs : List Int) (st : Stt) : fLen [.lst (xs.map D.int)] st = some (.v (.int (xs.length : Nat))) := by simp [fLen, asQ, asL]
/-- a bar: the place and its cars -/
def barD (ws : List Int) : Option Int → D
  | some q => .tup [.int q, .lst ((cars ws q).map D.int)]
  | none => .non
def lbB : SS := (cSeq (cSet 3 (cLc false (iEn (cV 1)) [4, 5] (gT (gsC (gN 4) (gsC (gN 5) gs0))) (cTst (cBin false opGe (cV 5) (cV 2))) (cV 4)))
      (cIfS (cTst (cBin false opGt (cB false fLen (cCons (cV 3) cNil)) (cBin false opSub (cV 0) (cV 2))))
      (cRet (cTup (cCons (cV 2) (cCons (cV 3) cNil))))
      cEnd))
theorem lb_go {st : Stt} {p : Int} {ws : List Int} (hw : ws.length ≤ 1000) : ∀ (l : List Int) (s2 s3 s4 s5 : Option D),
    (match crowdF p ws l with
      | some r => forGo [] (gN 2) lbB (l.map D.int) [some (.int p), some (.lst (ws.map D.int)), s2, s3, s4, s5] st = .rt (barD ws (some r)) st
      | none => ∃ σ', forGo [] (gN 2) lbB (l.map D.int) [some (.int p), some (.lst (ws.map D.int)), s2, s3, s4, s5] st = .nx σ' st)
  | [], s2, s3, s4, s5 => ⟨_, by simp [forGo]; rfl⟩
  | q :: l, s2, s3, s4, s5 => by
    have ih := lb_go (st := st) (p := p) hw l (some (.int q)) (some (.lst ((cars ws q).map D.int))) s4 s5
    have lc := cars_lc (i := 4) (j := 5) (iq := 2) (σ := [some (.int p), some (.lst (ws.map D.int)), some (.int q), s3, none, none]) (st := st) (ws := ws) (q := q) (by simp) (by simp) (by decide) (by decide) (by decide) rfl
    unfold enD at lc
    have sz := cars_size ws q hw
    have cl := cars_len ws q
    unfold crowdF at ih ⊢
    by_cases h : p - q < cge ws q
    · rw [List.find?_cons, decide_eq_true h]
      simp only [List.map_cons, forGo, chk_nil, if_true, gN_e, List.set_cons_succ, List.set_cons_zero]
      unfold lbB
      simp [itemsL, wipeD, lc, sz, fLenI, cl, opSub, opGt, opCmpI, h, sizeLine_val, barD]
    · rw [List.find?_cons, decide_eq_false h]
      have b : lbB [some (.int p), some (.lst (ws.map D.int)), some (.int q), s3, s4, s5] st = .nx [some (.int p), some (.lst (ws.map D.int)), some (.int q), some (.lst ((cars ws q).map D.int)), s4, s5] st := by
        unfold lbB
        simp [itemsL, wipeD, lc, sz, fLenI, cl, opSub, opGt, opCmpI, h, sizeLine_val]
      have g : ∀ R, forGo [] (gN 2) lbB (l.map D.int) [some (.int p), some (.lst (ws.map D.int)), some (.int q), some (.lst ((cars ws q).map D.int)), s4, s5] st = R → forGo [] (gN 2) lbB ((q :: l).map D.int) [some (.int p), some (.lst (ws.map D.int)), s2, s3, s4, s5] st = R := fun R hR => by
        simp only [List.map_cons, forGo, chk_nil, if_true, gN_e, List.set_cons_succ, List.set_cons_zero, b]
        exact hR
      cases hf : l.find? (fun q => decide (p - q < cge ws q)) with
      | some r => rw [hf] at ih; exact g _ ih
      | none =>
        rw [hf] at ih
        obtain ⟨a, e⟩ := ih
        exact ⟨a, g _ e⟩
theorem lbar_ok (kp : Bool) (st : Stt) {p : Int} {ws : List Int} (h : Wsh p ws) : f__law_bar kp [.int p, .lst (ws.map D.int)] st = .ok (barD ws (crowd p ws)) st := by
  obtain ⟨h1, h2, h3, h4⟩ := h
  have e := lb_go (st := st) (p := p) h3 (irange 0 p.toNat) none none none none
  have rg : iR1 (cV 0) [some (.int p), some (.lst (ws.map D.int)), none, none, none, none] st = .ok ((irange 0 p.toNat).map D.int, []) st := rng_ok (by simp) h1 (by omega)
  unfold lbB at e
  refine val_fin (kp := kp) ?_ ?_
  · unfold crowd
    cases hc : crowdF p ws (irange 0 p.toNat) with
    | some r =>
      rw [hc] at e
      simp only at e
      simp [f__law_bar, b__law_bar, fnS, rg, e, -eR1]
    | none =>
      rw [hc] at e
      obtain ⟨a, e⟩ := e
      simp [f__law_bar, b__law_bar, fnS, rg, e, barD, -eR1]
  · cases crowd p ws <;> simp [barD, old, olds_]
theorem pbarF_ok (st : Stt) {p : Int} {ws : List Int} (h : Wsh p ws) : f_park_bar false [.int p, .lst (ws.map D.int)] st = .ok (barD ws (crowd p ws)) st := by
  have e := crowded_ok false st h
  refine val_fin (kp := false) ?_ ?_
  · cases hc : crowd p ws with
    | none => simp [f_park_bar, b_park_bar, fnS, check_ok false st h, e, hc, oD, opIsN, MP.isNon, barD]
    | some q =>
      have lc := cars_lc (i := 3) (j := 4) (iq := 2) (σ := [some (.int p), some (.lst (ws.map D.int)), some (.int q), none, none]) (st := st) (ws := ws) (q := q) (by simp) (by simp) (by decide) (by decide) (by decide) rfl
      unfold enD at lc
      simp [f_park_bar, b_park_bar, fnS, check_ok false st h, e, hc, oD, opIsN, MP.isNon, barD, itemsL, wipeD, lc, cars_size ws q h.2.2.1, sizeLine_val]
  · cases crowd p ws <;> simp [barD, old, olds_]
/-- a tuple with a new list, handed out -/
theorem out_tl {st : Stt} {xs : List D} (i : Int) (hx : olds_ st.length xs = true) : okO (outD (pkB true) st (.tup [.int i, .cel st.length]) (st ++ [some (.lst xs)])) = .ok (.tup [.int i, .cel st.length]) (st ++ [some (.lst xs)]) := by
  have k := Kp.refl (n0 := st.length) st
  unfold outD
  have at1 : (st ++ [some (O.lst xs)])[st.length]? = some (some (.lst xs)) := by rw [app_at0]; rfl
  have pk : pkB true st.length (.tup [.int i, .cel st.length]) (st ++ [some (.lst xs)]) = [st.length] := by
    show ddN (cellsN _ _ 3 _) = _
    have : cellsN st.length (st ++ [some (.lst xs)]) 3 (.tup [.int i, .cel st.length]) = [st.length] := by
      show cellsF _ _ _ = _
      simp only [cellsF, cellsFs, Nat.lt_irrefl, if_false, at1]
      have : (xs.map (cellsN st.length (st ++ [some (.lst xs)]) 2)).flatten = [] := by
        rw [List.flatten_eq_nil_iff]
        intro l hl
        obtain ⟨d, hd, rfl⟩ := List.mem_map.mp hl
        exact cellsN_old (olds_mem hx d hd)
      rw [this]
      rfl
    rw [this]
    rfl
  rw [pk, olds_kp k]
  have : rs st.length [st.length] (st ++ [some (.lst xs)]) (.tup [.int i, .cel st.length]) = some (.tup [.int i, .cel st.length]) := by
    show rsF _ _ _ _ _ = _
    simp [rsF, rsFs, idxN]
  rw [this]
  have e8 : mapO (rs st.length [st.length] (st ++ [some (.lst xs)])) xs = some xs := mapO_old (k := 7) hx
  simp [goodK, news, okO, rsO, e8, at1]
/-- park_bar, its cars in a cell -/
def barR (ws : List Int) (st : Stt) : Option Int → R D
  | some q => .ok (.tup [.int q, .cel st.length]) (st ++ [some (.lst ((cars ws q).map D.int))])
  | none => .ok .non st
theorem pbarT_ok (st : Stt) {p : Int} {ws : List Int} (h : Wsh p ws) : f_park_bar true [.int p, .lst (ws.map D.int)] st = barR ws st (crowd p ws) := by
  have e := crowded_ok false st h
  cases hc : crowd p ws with
  | none =>
    refine val_fin (kp := true) ?_ rfl
    simp [f_park_bar, b_park_bar, fnS, check_ok false st h, e, hc, oD, opIsN, MP.isNon]
  | some q =>
    have lc := cars_lc (i := 3) (j := 4) (iq := 2) (σ := [some (.int p), some (.lst (ws.map D.int)), some (.int q), none, none]) (st := st) (ws := ws) (q := q) (by simp) (by simp) (by decide) (by decide) (by decide) rfl
    unfold enD at lc
    have z : f_park_bar true [.int p, .lst (ws.map D.int)] st = okO (outD (pkB true) st (.tup [.int q, .cel st.length]) (st ++ [some (.lst ((cars ws q).map D.int))])) := by
      simp [f_park_bar, b_park_bar, fnS, check_ok false st h, e, hc, oD, opIsN, MP.isNon, itemsL, wipeD, lc, cars_size ws q h.2.2.1, sizeLine_val]
    rw [z, out_tl q (old_ints _ _)]
    rfl

/-! ### lucky cars -/
def lucky (ws : List Int) (ends : List (Option Int)) : List Int := (ws.zipIdx.filter fun z => decide (ends[z.2]? = some (some z.1))).map fun z => ((z.2 : Nat) : Int)
theorem eqB_oD (a b : Option Int) (st : Stt) : opEqB false (oD a) (oD b) st = some (.v (.bl (decide (a = b)))) := by
  have e1 : py st (oD a) = some (oP a) := py_oD st _ a
  have e2 : py st (oD b) = some (oP b) := py_oD st _ b
  unfold opEqB
  rw [e1, e2]
  simp only [shp_oP, Bool.and_self, if_true, eqv_oP, bne_f]
theorem lucky_lc {i j ie : Nat} {σ : Ev} {st : Stt} {ws : List Int} {ends : List (Option Int)} (hi : i < σ.length) (hj : j < σ.length) (hij : i ≠ j) (hqi : ie ≠ i) (hqj : ie ≠ j) (hq : σ[ie]? = some (some (.lst (ends.map oD)))) (hl : ends.length = ws.length) :
    lcGo [] (gT (gsC (gN i) (gsC (gN j) gs0))) (cTst (cBin false (opEqB false) (cBin false opIx (cV ie) (cV i)) (cV j))) (cV i) σ (enD (ws.map D.int)) st = some ((lucky ws ends).map D.int, st) := by
  have key := lc_filter (gs := []) (g := gT (gsC (gN i) (gsC (gN j) gs0))) (tt := cTst (cBin false (opEqB false) (cBin false opIx (cV ie) (cV i)) (cV j))) (elt := cV i) (σ := σ) (st := st) rfl
    (b := fun x => match x with | .tup [.int k, .int w] => decide (ends[k.toNat]? = some (some w)) | _ => false) (f := fst2) (ds := enD (ws.map D.int)) fun x hx => by
      unfold enD at hx
      rw [zip_mapI, List.map_map] at hx
      obtain ⟨z, hz, rfl⟩ := List.mem_map.mp hx
      have zlt : z.2 < ends.length := by
        rw [hl]
        have := List.mem_zipIdx hz
        omega
      refine ⟨(σ.set i (some (.int (z.2 : Nat)))).set j (some (.int z.1)), by simp, ?_, ?_⟩
      · have e1 : ((σ.set i (some (.int (z.2 : Nat)))).set j (some (.int z.1)))[j]? = some (some (.int z.1)) := List.getElem?_set_self (by simpa using hj)
        have e3 : ((σ.set i (some (.int (z.2 : Nat)))).set j (some (.int z.1)))[i]? = some (some (.int (z.2 : Nat))) := by
          rw [List.getElem?_set_ne (fun e => hij e.symm)]
          exact List.getElem?_set_self hi
        have e2 : ((σ.set i (some (.int (z.2 : Nat)))).set j (some (.int z.1)))[ie]? = some (some (.lst (ends.map oD))) := by
          rw [List.getElem?_set_ne (fun e => hqj e.symm), List.getElem?_set_ne (fun e => hqi e.symm)]
          exact hq
        have ix : opIx (.lst (ends.map oD)) (.int (z.2 : Nat)) st = some (.v (oD ends[z.2])) := by
          have h : (ends.map oD)[z.2]? = some (oD ends[z.2]) := by rw [List.getElem?_map, List.getElem?_eq_getElem zlt]; rfl
          simp only [opIx, asQ, asL, atI_nat h]
          rfl
        have eq := eqB_oD ends[z.2] (some z.1) st
        have eq : opEqB false (oD ends[z.2]) (.int z.1) st = some (.v (.bl (decide (ends[z.2] = some z.1)))) := eq
        simp only [eTst, eBin, eV, e1, e2, e3, R.bind, ix, fin_v, eq]
        simp [List.getElem?_eq_getElem zlt]
      · have e1 : ((σ.set i (some (.int (z.2 : Nat)))).set j (some (.int z.1)))[i]? = some (some (.int (z.2 : Nat))) := by
          rw [List.getElem?_set_ne (fun e => hij e.symm)]
          exact List.getElem?_set_self hi
        simp only [eV, e1]
        rfl
  rw [key]
  unfold enD lucky
  rw [zip_mapI, List.map_map, List.filter_map, List.map_map, List.map_map]
  rfl
theorem lucky_size (ws : List Int) (ends : List (Option Int)) (h : ws.length ≤ 1000) : (lucky ws ends).length ≤ 16777216 := by
  unfold lucky
  rw [List.length_map]
  refine Nat.le_trans (List.length_filter_le _ _) ?_
  rw [List.length_zipIdx]
  omega
theorem luckyc_ok (kp : Bool) (st : Stt) {p : Int} {ws : List Int} (h : Wsh p ws) (hl : ws.length < 99) : f_lucky_cars kp [.int p, .lst (ws.map D.int)] st = fin kp (some (.l ((lucky ws (parkF p [] ws)).map D.int))) st := by
  have e := there_ok false st (p := p) hl
  have lc := lucky_lc (i := 3) (j := 4) (ie := 2) (σ := [some (.int p), some (.lst (ws.map D.int)), some (.lst ((parkF p [] ws).map oD)), none, none]) (st := st) (ws := ws) (ends := parkF p [] ws) (by simp) (by simp) (by decide) (by decide) (by decide) rfl (by rw [parkF_len]; simp)
  unfold enD at lc
  refine hand_l (old_ints _ _) ?_
  cases kp <;> simp [f_lucky_cars, b_lucky_cars, fnS, check_ok false st h, e, itemsL, wipeD, lc, lucky_size ws _ h.2.2.1, sizeLine_val]

/-! ### how far -/
def drv (ends : List (Option Int)) (ws : List Int) : List Int := (ends.zip ws).filterMap fun z => z.1.map fun e => e - z.2
theorem drv_lc {i j : Nat} {σ : Ev} {st : Stt} (hi : i < σ.length) (hj : j < σ.length) (hij : i ≠ j) : ∀ (ends : List (Option Int)) (ws : List Int),
    lcGo [] (gT (gsC (gN i) (gsC (gN j) gs0))) (cTst (cBin false (opIsN true) (cV i) (cC .non))) (cBin false opSub (cV i) (cV j)) σ (((ends.map oD).zip (ws.map D.int)).map fun z => D.tup [z.1, z.2]) st = some ((drv ends ws).map D.int, st)
  | [], ws => by simp [lcGo, drv]
  | a :: ends, [] => by simp [lcGo, drv]
  | a :: ends, w :: ws => by
    have ih := drv_lc (st := st) hi hj hij ends ws
    have e1 : ∀ x y : D, ((σ.set i (some x)).set j (some y))[j]? = some (some y) := fun x y => List.getElem?_set_self (by simpa using hj)
    have e3 : ∀ x y : D, ((σ.set i (some x)).set j (some y))[i]? = some (some x) := fun x y => by
      rw [List.getElem?_set_ne (fun e => hij e.symm)]
      exact List.getElem?_set_self hi
    rw [List.map_cons, List.map_cons, List.zip_cons_cons, List.map_cons]
    have d1 : drv (a :: ends) (w :: ws) = (match a with | some e => [e - w] | none => []) ++ drv ends ws := by
      cases a <;> rfl
    rw [d1]
    cases a with
    | none => simp [lcGo, e1, e3, oD, opIsN, MP.isNon, ih]
    | some q => simp [lcGo, e1, e3, oD, opIsN, MP.isNon, opSub, ih]
theorem drv_size (ends : List (Option Int)) (ws : List Int) (h : ws.length ≤ 1000) : (drv ends ws).length ≤ 16777216 := by
  unfold drv
  refine Nat.le_trans (List.length_filterMap_le _ _) ?_
  rw [List.length_zip]
  omega
theorem sumI (xs : List Int) (st : Stt) : fSum [.lst (xs.map D.int)] st = some (.v (.int xs.sum)) := by simp [fSum, asL]
theorem driven_ok (kp : Bool) (st : Stt) {p : Int} {ws : List Int} (h : Wsh p ws) (hl : ws.length < 99) : f_driven kp [.int p, .lst (ws.map D.int)] st = .ok (.int (drv (parkF p [] ws) ws).sum) st := by
  have e := there_ok false st (p := p) hl
  have lc := drv_lc (i := 3) (j := 4) (σ := [some (.int p), some (.lst (ws.map D.int)), some (.lst ((parkF p [] ws).map oD)), none, none]) (st := st) (by simp) (by simp) (by decide) (parkF p [] ws) ws
  have t : f_driven_there kp [.int p, .lst (ws.map D.int)] st = .ok (.int (drv (parkF p [] ws) ws).sum) st := by
    refine val_fin (kp := kp) ?_ rfl
    simp [f_driven_there, b_driven_there, fnS, e, itemsL, wipeD, lc, drv_size _ ws h.2.2.1, sumI, sizeLine_val]
  refine val_fin (kp := kp) ?_ rfl
  simp [f_driven, b_driven, fnS, check_ok false st h, t]
end Lw


/-! M58e: the mathematics of parking: who leaves, which places are taken. -/
namespace Lw
open PySem MP

/-- cars that park: each at a place from its wish on, all between being taken; none parks where all are taken -/
structure Pk (p : Int) (ws : List Int) (ends : List (Option Int)) : Prop where
  len : ends.length = ws.length
  nd : (ends.filterMap id).Nodup
  at_ : ∀ z ∈ ws.zip ends, (∀ e, z.2 = some e → z.1 ≤ e ∧ e < p ∧ ∀ x, z.1 ≤ x → x < e → some x ∈ ends) ∧ (z.2 = none → ∀ x, z.1 ≤ x → x < p → some x ∈ ends)
theorem Pk.nil (p : Int) : Pk p [] [] := ⟨rfl, .nil, fun z h => by cases h⟩
theorem Pk.snoc {p w : Int} {ws : List Int} {found : List (Option Int)} (k : Pk p ws found) : Pk p (ws ++ [w]) (found ++ [step p found w]) := by
  obtain ⟨q, hq⟩ := nx_found found (Nat.lt_succ_self found.length) w
  obtain ⟨g1, g2, g3, g4⟩ := nx_some hq
  have g3 : ¬ some q ∈ found := of_decide_eq_false g3
  have g4 : ∀ x, w ≤ x → x < q → some x ∈ found := fun x h1 h2 => of_decide_eq_true (g4 x h1 h2)
  have st := step_eq (p := p) hq
  refine ⟨by simp [k.len], ?_, fun z hz => ?_⟩
  · rw [List.filterMap_append, List.nodup_append]
    refine ⟨k.nd, ?_, fun a ha b hb => ?_⟩
    · rw [st]
      by_cases h : q < p <;> simp [h]
    · rw [st] at hb
      by_cases h : q < p
      · simp [h] at hb
        subst hb
        intro e
        subst e
        obtain ⟨y, hy, e⟩ := List.mem_filterMap.mp ha
        have : y = some a := e
        subst this
        exact g3 hy
      · simp [h] at hb
  · rw [List.zip_append k.len.symm] at hz
    rcases List.mem_append.mp hz with hz | hz
    · obtain ⟨h1, h2⟩ := k.at_ z hz
      refine ⟨fun e he => ?_, fun hn x a b => List.mem_append_left _ (h2 hn x a b)⟩
      obtain ⟨a, b, c⟩ := h1 e he
      exact ⟨a, b, fun x h3 h4 => List.mem_append_left _ (c x h3 h4)⟩
    · simp only [List.zip_cons_cons, List.zip_nil_right, List.mem_singleton] at hz
      subst hz
      refine ⟨fun e he => ?_, fun hn x a b => ?_⟩
      · have he : step p found w = some e := he
        rw [st] at he
        by_cases h : q < p
        · rw [if_pos h] at he
          cases he
          exact ⟨g1, h, fun x h3 h4 => List.mem_append_left _ (g4 x h3 h4)⟩
        · rw [if_neg h] at he; cases he
      · have hn : step p found w = none := hn
        rw [st] at hn
        by_cases h : q < p
        · rw [if_pos h] at hn; cases hn
        · exact List.mem_append_left _ (g4 x a (by have b : x < p := b; omega))
theorem parkF_pk {p : Int} : ∀ (ws pre : List Int) (found : List (Option Int)), Pk p pre found → Pk p (pre ++ ws) (parkF p found ws)
  | [], pre, found, k => by rw [List.append_nil]; exact k
  | w :: ws, pre, found, k => by
    have := parkF_pk ws (pre ++ [w]) (found ++ [step p found w]) k.snoc
    rw [List.append_assoc] at this
    exact this
theorem park_pk (p : Int) (ws : List Int) : Pk p ws (parkF p [] ws) := parkF_pk ws [] [] (Pk.nil p)
section
variable {p : Int} {ws : List Int} {ends : List (Option Int)}
theorem Pk.pair (k : Pk p ws ends) {e : Int} (h : some e ∈ ends) : ∃ w, (w, some e) ∈ ws.zip ends := by
  obtain ⟨i, hi, e1⟩ := List.mem_iff_getElem.mp h
  have hw : i < ws.length := by rw [← k.len]; exact hi
  refine ⟨ws[i], ?_⟩
  have hz : i < (ws.zip ends).length := by rw [List.length_zip]; omega
  have : (ws.zip ends)[i] = (ws[i], ends[i]) := List.getElem_zip
  rw [← e1, ← this]
  exact List.getElem_mem hz
theorem pair_mem {z : Int × Option Int} (h : z ∈ ws.zip ends) : z.1 ∈ ws ∧ z.2 ∈ ends := ⟨(List.of_mem_zip h).1, (List.of_mem_zip h).2⟩
theorem Pk.isEnds (k : Pk p ws ends) (h0 : ∀ w ∈ ws, 0 ≤ w) : Ends p ends := by
  refine ⟨fun q hq => ?_, k.nd⟩
  obtain ⟨w, hw⟩ := k.pair hq
  obtain ⟨h1, h2, _⟩ := (k.at_ _ hw).1 q rfl
  have := h0 w (pair_mem hw).1
  have h1 : w ≤ q := h1
  exact ⟨by omega, h2⟩
/-- the cars whose wish is as P says: those that park, those that leave -/
theorem split_len (P : Int → Bool) : ∀ {ws : List Int} {ends : List (Option Int)}, ends.length = ws.length →
    (ws.filter P).length = (((ws.zip ends).filter fun z => P z.1).filterMap (·.2)).length + ((ws.zip ends).filter fun z => P z.1 && z.2.isNone).length
  | [], [], _ => rfl
  | [], _ :: _, h => by cases h
  | _ :: _, [], h => by cases h
  | w :: ws, a :: ends, h => by
    have ih := split_len P (ws := ws) (ends := ends) (by simpa using h)
    rw [List.zip_cons_cons, List.filter_cons, List.filter_cons, List.filter_cons]
    by_cases hp : P w = true
    · cases a with
      | none => simp [hp, ih]; omega
      | some e => simp [hp, ih]; omega
    · simp [hp, ih]
theorem sub_nodup (P : Int → Bool) : ∀ {ws : List Int} {ends : List (Option Int)}, (ends.filterMap id).Nodup → (((ws.zip ends).filter fun z => P z.1).filterMap (·.2)).Nodup
  | [], ends, _ => by simp
  | _ :: _, [], _ => by simp
  | w :: ws, a :: ends, h => by
    have h2 : (ends.filterMap id).Nodup := by
      cases a with
      | none => exact h
      | some e =>
        have h : (e :: ends.filterMap id).Nodup := h
        exact (List.nodup_cons.mp h).2
    have ih := sub_nodup P (ws := ws) h2
    rw [List.zip_cons_cons, List.filter_cons]
    by_cases hp : P w = true
    · rw [if_pos (by simpa using hp)]
      cases a with
      | none => exact ih
      | some e =>
        have h : (e :: ends.filterMap id).Nodup := h
        show (e :: _).Nodup
        refine List.nodup_cons.mpr ⟨fun hm => (List.nodup_cons.mp h).1 ?_, ih⟩
        obtain ⟨z, hz, e1⟩ := List.mem_filterMap.mp hm
        have := (pair_mem (List.mem_filter.mp hz).1).2
        exact List.mem_filterMap.mpr ⟨z.2, this, e1⟩
    · rw [if_neg (by simpa using hp)]
      exact ih
/-- no more park in a range than there are places -/
theorem Pk.atmost (k : Pk p ws ends) (P : Int → Bool) {a : Int} {n : Nat} (h : ∀ z ∈ ws.zip ends, P z.1 = true → ∀ e, z.2 = some e → a ≤ e ∧ e < a + n) : (((ws.zip ends).filter fun z => P z.1).filterMap (·.2)).length ≤ n := by
  have := pigeon (sub_nodup P (ws := ws) k.nd) (m := irange a n) fun x hx => by
    obtain ⟨z, hz, e1⟩ := List.mem_filterMap.mp hx
    obtain ⟨m1, m2⟩ := List.mem_filter.mp hz
    exact irange_mem.mpr (h z m1 (by simpa using m2) x e1)
  rwa [irange_len] at this
/-- as many park as places of a range are taken by such cars -/
theorem Pk.atleast (k : Pk p ws ends) (P : Int → Bool) {a : Int} {n : Nat} (h : ∀ x, a ≤ x → x < a + n → ∃ w, (w, some x) ∈ ws.zip ends ∧ P w = true) : n ≤ (((ws.zip ends).filter fun z => P z.1).filterMap (·.2)).length := by
  have := pigeon (irange_nodup (lo := a) (n := n)) (m := ((ws.zip ends).filter fun z => P z.1).filterMap (·.2)) fun x hx => by
    obtain ⟨h1, h2⟩ := irange_mem.mp hx
    obtain ⟨w, hw, pw⟩ := h x h1 h2
    exact List.mem_filterMap.mpr ⟨(w, some x), List.mem_filter.mpr ⟨hw, by simpa using pw⟩, rfl⟩
  rwa [irange_len] at this
/-- the run of taken places that ends ahead of b -/
theorem run_ex (T : Int → Prop) (b : Int) : ∀ n : Nat, b - n ≥ 0 → (b - n = 0) → ∃ r, 0 ≤ r ∧ r ≤ b ∧ (∀ x, r ≤ x → x < b → T x) ∧ (r = 0 ∨ ¬ T (r - 1)) := by
  suffices H : ∀ (n : Nat) (c : Int), c = n → c ≤ b → (∀ x, c ≤ x → x < b → T x) → ∃ r, 0 ≤ r ∧ r ≤ b ∧ (∀ x, r ≤ x → x < b → T x) ∧ (r = 0 ∨ ¬ T (r - 1)) by
    intro n _ h
    exact H n b (by omega) (Int.le_refl _) fun x h1 h2 => by omega
  intro n
  induction n with
  | zero => intro c hc hb h; exact ⟨c, by omega, hb, h, .inl (by omega)⟩
  | succ n ih =>
    intro c hc hb h
    by_cases t : T (c - 1)
    · refine ih (c - 1) (by omega) (by omega) fun x h1 h2 => ?_
      by_cases e : x = c - 1
      · rw [e]; exact t
      · exact h x (by omega) h2
    · exact ⟨c, by omega, hb, h, .inr t⟩
theorem run_of (T : Int → Prop) {b : Int} (hb : 0 ≤ b) : ∃ r, 0 ≤ r ∧ r ≤ b ∧ (∀ x, r ≤ x → x < b → T x) ∧ (r = 0 ∨ ¬ T (r - 1)) := run_ex T b b.toNat (by omega) (by omega)
theorem none_len : ∀ {ws : List Int} {ends : List (Option Int)}, ends.length = ws.length → ((ws.zip ends).filter fun z => z.2.isNone).length = ends.count none
  | [], [], _ => rfl
  | [], _ :: _, h => by cases h
  | _ :: _, [], h => by cases h
  | w :: ws, a :: ends, h => by
    have ih := none_len (ws := ws) (ends := ends) (by simpa using h)
    cases a <;> simp [List.zip_cons_cons, ih, List.count_cons]
/-- no more leave than cars are too many at a place -/
theorem Pk.leave_le (k : Pk p ws ends) {q : Int} (hq : q ≤ p) : cge ws q ≤ (p - q) + (ends.count none : Nat) := by
  have h1 := split_len (fun w => decide (q ≤ w)) k.len
  have h2 := k.atmost (fun w => decide (q ≤ w)) (a := q) (n := (p - q).toNat) fun z hz hp e he => by
    obtain ⟨a, b, _⟩ := (k.at_ z hz).1 e he
    have := of_decide_eq_true hp
    omega
  have h3 : ((ws.zip ends).filter fun z => decide (q ≤ z.1) && z.2.isNone).length ≤ ends.count none := by
    rw [← none_len k.len]
    have : ((ws.zip ends).filter fun z => decide (q ≤ z.1) && z.2.isNone) = ((ws.zip ends).filter fun z => z.2.isNone).filter fun z => decide (q ≤ z.1) := by
      rw [List.filter_filter]
    rw [this]
    exact List.length_filter_le _ _
  unfold cge
  omega
/-- if some leave, they are just too many at a place -/
theorem Pk.leave_eq (k : Pk p ws ends) (hp : 0 ≤ p) (hw : ∀ w ∈ ws, 0 ≤ w ∧ w < p) (hl : none ∈ ends) : ∃ q, 0 ≤ q ∧ q < p ∧ cge ws q = (p - q) + (ends.count none : Nat) := by
  obtain ⟨q, q0, q1, q2, q3⟩ := run_of (fun x => some x ∈ ends) hp
  have nn : ∀ z ∈ ws.zip ends, z.2 = none → q ≤ z.1 := fun z hz hn => by
    have := (k.at_ z hz).2 hn
    have h0 := hw z.1 (pair_mem hz).1
    rcases q3 with q3 | q3
    · omega
    · by_cases h : q ≤ z.1
      · exact h
      · exact absurd (this (q - 1) (by omega) (by omega)) q3
  have ex : ∃ z ∈ ws.zip ends, z.2 = none := by
    obtain ⟨i, hi, e1⟩ := List.mem_iff_getElem.mp hl
    have hw : i < ws.length := by rw [← k.len]; exact hi
    have hz : i < (ws.zip ends).length := by rw [List.length_zip]; omega
    have : (ws.zip ends)[i] = (ws[i], ends[i]) := List.getElem_zip
    exact ⟨(ws.zip ends)[i], List.getElem_mem hz, by rw [this]; exact e1⟩
  obtain ⟨z, hz, zn⟩ := ex
  have qp : q < p := by
    have := nn z hz zn
    have := (hw z.1 (pair_mem hz).1).2
    omega
  refine ⟨q, q0, qp, ?_⟩
  have h1 := split_len (fun w => decide (q ≤ w)) k.len
  have h2 := k.atleast (fun w => decide (q ≤ w)) (a := q) (n := (p - q).toNat) fun x hx1 hx2 => by
    have hm := q2 x hx1 (by omega)
    obtain ⟨w, hwz⟩ := k.pair hm
    refine ⟨w, hwz, decide_eq_true ?_⟩
    obtain ⟨a, b, c⟩ := (k.at_ _ hwz).1 x rfl
    have h0 := hw w (pair_mem hwz).1
    rcases q3 with q3 | q3
    · omega
    · by_cases h : q ≤ w
      · exact h
      · exact absurd (c (q - 1) (by show w ≤ q - 1; omega) (by omega)) q3
  have h3 : ((ws.zip ends).filter fun z => decide (q ≤ z.1) && z.2.isNone).length = ends.count none := by
    rw [← none_len k.len]
    congr 1
    apply List.filter_congr
    intro z hz
    cases hn : z.2 with
    | some e => simp
    | none => simp [nn z hz hn]
  have h4 := k.leave_le (q := q) (by omega)
  unfold cge at h4 ⊢
  omega
/-- none leaves exactly if no place is crowded -/
theorem Pk.noCrowd (k : Pk p ws ends) (hp : 0 ≤ p) (hw : ∀ w ∈ ws, 0 ≤ w ∧ w < p) : (crowd p ws).isNone = decide (none ∉ ends) := by
  rw [Bool.eq_iff_iff, decide_eq_true_eq, Option.isNone_iff_eq_none]
  unfold Lw.crowd crowdF
  rw [List.find?_eq_none]
  constructor
  · intro h hn
    obtain ⟨q, q0, q1, e⟩ := k.leave_eq hp hw hn
    have := h q (irange_mem.mpr ⟨q0, by omega⟩)
    have hc : 0 < ends.count none := List.count_pos_iff.mpr hn
    simp only [decide_eq_true_eq] at this
    omega
  · intro h q hq
    have := k.leave_le (q := q) (by have := irange_mem.mp hq; omega)
    have hc : ends.count none = 0 := List.count_eq_zero.mpr h
    simp only [decide_eq_true_eq]
    omega
/-- which places are taken is told by the wishes, in any order -/
theorem Pk.taken (k : Pk p ws ends) (hw : ∀ w ∈ ws, 0 ≤ w ∧ w < p) {q : Int} (hq : 0 ≤ q ∧ q < p) : some q ∈ ends ↔ ∃ r, 0 ≤ r ∧ r ≤ q ∧ q - r < ((ws.filter fun w => decide (r ≤ w) && decide (w ≤ q)).length : Nat) := by
  constructor
  · intro h
    obtain ⟨r, r0, r1, r2, r3⟩ := run_of (fun x => some x ∈ ends) hq.1
    refine ⟨r, r0, r1, ?_⟩
    have h1 := split_len (fun w => decide (r ≤ w) && decide (w ≤ q)) k.len
    have h2 := k.atleast (fun w => decide (r ≤ w) && decide (w ≤ q)) (a := r) (n := (q - r + 1).toNat) fun x hx1 hx2 => by
      have hm : some x ∈ ends := by
        by_cases e : x = q
        · rw [e]; exact h
        · exact r2 x hx1 (by omega)
      obtain ⟨w, hwz⟩ := k.pair hm
      obtain ⟨a, b, c⟩ := (k.at_ _ hwz).1 x rfl
      have a : w ≤ x := a
      have h0 := hw w (pair_mem hwz).1
      refine ⟨w, hwz, ?_⟩
      rw [Bool.and_eq_true]
      refine ⟨decide_eq_true ?_, decide_eq_true (by omega)⟩
      rcases r3 with r3 | r3
      · omega
      · by_cases h : r ≤ w
        · exact h
        · exact absurd (c (r - 1) (by show w ≤ r - 1; omega) (by omega)) r3
    omega
  · rintro ⟨r, r0, r1, h⟩
    by_cases hm : some q ∈ ends
    · exact hm
    · exfalso
      have h1 := split_len (fun w => decide (r ≤ w) && decide (w ≤ q)) k.len
      have h2 := k.atmost (fun w => decide (r ≤ w) && decide (w ≤ q)) (a := r) (n := (q - r).toNat) fun z hz hp e he => by
        rw [Bool.and_eq_true] at hp
        have p1 := of_decide_eq_true hp.1
        have p2 := of_decide_eq_true hp.2
        obtain ⟨a, b, c⟩ := (k.at_ z hz).1 e he
        have ne : e ≠ q := fun z' => hm (by rw [← z', ← he]; exact (pair_mem hz).2)
        have : e < q := by
          by_cases hlt : e < q
          · exact hlt
          · exact absurd (c q (by omega) (by omega)) hm
        omega
      have h3 : ((ws.zip ends).filter fun z => (decide (r ≤ z.1) && decide (z.1 ≤ q)) && z.2.isNone).length = 0 := by
        rw [List.length_eq_zero_iff, List.filter_eq_nil_iff]
        intro z hz
        rw [Bool.and_eq_true, Bool.and_eq_true]
        rintro ⟨⟨_, p2⟩, p3⟩
        have := (k.at_ z hz).2 (Option.isNone_iff_eq_none.mp p3) q (of_decide_eq_true p2) hq.2
        exact hm this
      omega
end
theorem taken_perm {p : Int} {ws ws' : List Int} {ends ends' : List (Option Int)} (k : Pk p ws ends) (k' : Pk p ws' ends') (hw : ∀ w ∈ ws, 0 ≤ w ∧ w < p) (h : ws'.Perm ws) {q : Int} (hq : 0 ≤ q ∧ q < p) : some q ∈ ends' ↔ some q ∈ ends := by
  rw [k.taken hw hq, k'.taken (fun w m => hw w (h.mem_iff.mp m)) hq]
  have e : ∀ r, (ws'.filter fun w => decide (r ≤ w) && decide (w ≤ q)).length = (ws.filter fun w => decide (r ≤ w) && decide (w ≤ q)).length := fun r => (h.filter _).length_eq
  simp only [e]
theorem idx_some {q : Int} : ∀ {r : List (Option Int)} {k : Int}, (idx r q k).isSome = decide (some q ∈ r)
  | [], _ => rfl
  | a :: r, k => by
    unfold idx
    by_cases h : a = some q
    · simp [h]
    · rw [if_neg h, idx_some]
      have : ¬ some q = a := fun z => h z.symm
      simp [this]
/-- as many leave as at most they are too many -/
theorem leave_max {p : Int} {ws : List Int} {ends : List (Option Int)} (k : Pk p ws ends) (hp : 0 ≤ p) (hw : ∀ w ∈ ws, 0 ≤ w ∧ w < p) :
    (∀ q ∈ irange 0 p.toNat, cge ws q - p + q ≤ (ends.count none : Nat)) ∧ ((ends.count none : Nat) = (0 : Int) ∨ ∃ q ∈ irange 0 p.toNat, cge ws q - p + q = (ends.count none : Nat)) := by
  refine ⟨fun q hq => ?_, ?_⟩
  · have := k.leave_le (q := q) (by have := irange_mem.mp hq; omega)
    omega
  · by_cases hn : none ∈ ends
    · obtain ⟨q, q0, q1, e⟩ := k.leave_eq hp hw hn
      exact .inr ⟨q, irange_mem.mpr ⟨q0, by omega⟩, by omega⟩
    · have hc : ends.count none = 0 := List.count_eq_zero.mpr hn
      exact .inl (by omega)
end Lw


/-! CmR: repr of lists of whole numbers. -/
namespace Lw
open PySem MP

theorem strOk_app {a b : Str} (ha : PyData.strOk a = true) (hb : PyData.strOk b = true) : PyData.strOk (a ++ b) = true := by
  unfold PyData.strOk at *
  show ((a.append b).cps.all _) = true
  unfold Str.append
  rw [Array.all_append, ha, hb]
  rfl
theorem strOk_of (s : String) : PyData.strOk (Str.ofString s) = true := by
  unfold PyData.strOk
  rw [Str.ofString_eq_toList]
  show (((s.toList.map Char.toNat).toArray).all _) = true
  rw [List.all_toArray, List.all_eq_true]
  intro x hx
  obtain ⟨c, _, rfl⟩ := List.mem_map.mp hx
  have h := c.valid
  unfold UInt32.isValidChar Nat.isValidChar at h
  have e : c.toNat = c.val.toNat := rfl
  rw [e]
  exact decide_eq_true (by omega)
theorem strOk_text : ∀ (ts : List Str) (k : Nat) (acc : Str), PyData.strOk acc = true → (∀ t ∈ ts, PyData.strOk t = true) → PyData.strOk (textFrom k acc ts) = true
  | [], _, _, h, _ => h
  | t :: ts, k, acc, h, ht => by
    unfold textFrom
    exact strOk_text ts (k + 1) _ (strOk_app (strOk_app h (strOk_of _)) (ht t List.mem_cons_self)) fun x hx => ht x (List.mem_cons_of_mem _ hx)
theorem shownI : ∀ (xs : List Int), ∀ t ∈ PyData.shownAll (xs.map PyData.int), PyData.strOk t = true
  | [], t, h => by simp [PyData.shownAll] at h
  | x :: xs, t, h => by
    simp only [List.map_cons, PyData.shownAll, List.mem_cons] at h
    rcases h with rfl | h
    · exact strOk_of _
    · exact shownI xs t h
theorem strOk_list (xs : List Int) : PyData.strOk (PyData.shown (.list (xs.map PyData.int))) = true := by
  unfold PyData.shown listText
  exact strOk_app (strOk_text _ 0 _ (strOk_of _) (shownI xs)) (strOk_of _)
theorem pyFs_int (st : Stt) (below : D → Option PyData) : ∀ xs : List Int, pyFs st below (xs.map D.int) = some (xs.map PyData.int)
  | [] => rfl
  | x :: xs => by simp [pyFs, pyF, pyFs_int st below xs]
theorem shws_int : ∀ xs : List Int, (∀ x ∈ xs, x.natAbs < 2 ^ 64) → shws (xs.map PyData.int) = true ∧ PyData.bulkAll (xs.map PyData.int) = xs.length ∧ PyData.depthAll (xs.map PyData.int) = 0
  | [], _ => ⟨rfl, rfl, rfl⟩
  | x :: xs, h => by
    obtain ⟨h1, h2, h3⟩ := shws_int xs fun y hy => h y (List.mem_cons_of_mem _ hy)
    have hx := h x List.mem_cons_self
    have lg : x.natAbs.log2 < 1900 := by
      by_cases h0 : x.natAbs = 0
      · rw [h0]; decide
      · have := (Nat.log2_lt h0).mpr hx
        omega
    refine ⟨?_, ?_, ?_⟩
    · simp [shws, shw, lg, h1]
    · simp only [List.map_cons, PyData.bulkAll, PyData.bulk, h2, List.length_cons]; omega
    · simp [PyData.depthAll, PyData.depth, h3]
/-- repr of a list of small whole numbers, where it stands -/
theorem repr_ok {st : Stt} {d : D} {xs : List Int} (hd : py st d = some (.list (xs.map PyData.int))) (hl : xs.length ≤ 8000) (hx : ∀ x ∈ xs, x.natAbs < 2 ^ 64) : fRepr [d] st = some (.v (.str (PyData.shown (.list (xs.map PyData.int))))) := by
  obtain ⟨h1, h2, h3⟩ := shws_int xs hx
  simp only [fRepr, hd]
  rw [if_pos]
  refine ⟨by simpa only [shw] using h1, ?_, ?_⟩
  · simp only [PyData.bulk, h2]; exact hl
  · simp only [PyData.depth, h3]; decide
theorem py_ints (st : Stt) (xs : List Int) : py st (.lst (xs.map D.int)) = some (.list (xs.map PyData.int)) := by
  show (pyFs st _ (xs.map D.int)).map PyData.list = _
  rw [pyFs_int]
  rfl
end Lw


/-! M58f: one case of the law, piece by piece. -/
namespace Lw
open PySem MP
open L2 (atI ixN atI_nat Key)

/-! ### the law's own street: [([car for car, end in enumerate(ends) if end == place] + [None])[0] for place in range(places)] -/
def atPl (ends : List (Option Int)) (q : Int) (k : Nat) : List Int := ((ends.zipIdx k).filter fun z => decide (z.1 = some q)).map fun z => ((z.2 : Nat) : Int)
theorem atPl_head : ∀ (ends : List (Option Int)) (q : Int) (k : Nat), (atPl ends q k).head? = idx ends q k
  | [], _, _ => rfl
  | a :: r, q, k => by
    unfold atPl idx
    rw [List.zipIdx_cons, List.filter_cons]
    by_cases h : a = some q
    · simp [h]
    · have e : (decide (a = some q)) = false := decide_eq_false h
      simp only [e, if_neg h]
      have := atPl_head r q (k + 1)
      unfold atPl at this
      simpa using this
theorem zip_mapO (xs : List (Option Int)) (k : Nat) : (xs.map oD).zipIdx k = (xs.zipIdx k).map fun z => (oD z.1, z.2) := by
  rw [List.zipIdx_map]
  rfl
theorem atPl_lc {σ : Ev} {st : Stt} {ends : List (Option Int)} {q : Int} (h16 : 16 < σ.length) (h18 : 18 < σ.length) (h15 : σ[15]? = some (some (.int q))) :
    lcGo [] (gT (gsC (gN 16) (gsC (gN 18) gs0))) (cTst (cBin false (opEqB false) (cV 18) (cV 15))) (cV 16) σ (enD (ends.map oD)) st = some ((atPl ends q 0).map D.int, st) := by
  have key := lc_filter (gs := []) (g := gT (gsC (gN 16) (gsC (gN 18) gs0))) (tt := cTst (cBin false (opEqB false) (cV 18) (cV 15))) (elt := cV 16) (σ := σ) (st := st) rfl
    (b := fun x => match x with | .tup [_, .int w] => decide (w = q) | _ => false) (f := fst2) (ds := enD (ends.map oD)) fun x hx => by
      unfold enD at hx
      rw [zip_mapO, List.map_map] at hx
      obtain ⟨z, _, rfl⟩ := List.mem_map.mp hx
      refine ⟨(σ.set 16 (some (.int (z.2 : Nat)))).set 18 (some (oD z.1)), by simp, ?_, ?_⟩
      · have e1 : ((σ.set 16 (some (.int (z.2 : Nat)))).set 18 (some (oD z.1)))[18]? = some (some (oD z.1)) := List.getElem?_set_self (by simpa using h18)
        have e2 : ((σ.set 16 (some (.int (z.2 : Nat)))).set 18 (some (oD z.1)))[15]? = some (some (.int q)) := by
          rw [List.getElem?_set_ne (by decide), List.getElem?_set_ne (by decide)]
          exact h15
        have eq : opEqB false (oD z.1) (.int q) st = some (.v (.bl (decide (z.1 = some q)))) := eqB_oD z.1 (some q) st
        simp only [eTst, eBin, eV, e1, e2, R.bind, eq, fin_v]
        cases hz : z.1 with
        | none => simp [oD, hz]
        | some w => simp [oD, hz]
      · have e1 : ((σ.set 16 (some (.int (z.2 : Nat)))).set 18 (some (oD z.1)))[16]? = some (some (.int (z.2 : Nat))) := by
          rw [List.getElem?_set_ne (by decide)]
          exact List.getElem?_set_self h16
        simp only [eV, e1]
        rfl
  rw [key]
  unfold enD atPl
  rw [zip_mapO, List.map_map, List.filter_map, List.map_map, List.map_map]
  congr 2
  have : ((fun x => match x with | D.tup [_, .int w] => decide (w = q) | _ => false) ∘ (fun z : D × Nat => D.tup [D.int (z.2 : Nat), z.1]) ∘ fun z : Option Int × Nat => (oD z.1, z.2)) = fun z => decide (z.1 = some q) := by
    funext z
    cases hz : z.1 with
    | none => simp [oD, hz, Function.comp]
    | some w => simp [oD, hz, Function.comp]
  rw [this]
  rfl
theorem atPl_len (ends : List (Option Int)) (q : Int) : (atPl ends q 0).length ≤ ends.length := by
  unfold atPl
  rw [List.length_map]
  refine Nat.le_trans (List.length_filter_le _ _) ?_
  rw [List.length_zipIdx]
  exact Nat.le_refl _
theorem head_ix (xs : List Int) (st : Stt) : opIx (.lst (xs.map D.int ++ [.non])) (.int 0) st = some (.v (oD xs.head?)) := by
  have h : atI (xs.map D.int ++ [D.non]) 0 = some (oD xs.head?) := by
    refine atI_nat (j := 0) ?_
    cases xs <;> rfl
  simp [opIx, asQ, asL, h]
theorem lstand_lc {s0 s2 s3 s5 s6 s7 s8 s9 s10 s11 s12 s13 s14 s16 s17 s18 : Option D} {st : Stt} {p : Int} {ends : List (Option Int)} (hl : ends.length ≤ 1000) :
    lcGo [] (gN 15) cYes (cBin false opIx (cBin false opAdd (cLc false (iEn (cV 4)) [16, 18] (gT (gsC (gN 16) (gsC (gN 18) gs0))) (cTst (cBin false (opEqB false) (cV 18) (cV 15))) (cV 16)) (cLst false (cCons (cC .non) cNil))) (cC (.int 0))) [s0, some (.int p), s2, s3, some (.lst (ends.map oD)), s5, s6, s7, s8, s9, s10, s11, s12, s13, s14, none, s16, s17, s18] ((irange 0 p.toNat).map D.int) st = some ((stand p ends).map oD, st) := by
  have key := lc_pure (gs := []) (g := gN 15) (tt := cYes) (elt := cBin false opIx (cBin false opAdd (cLc false (iEn (cV 4)) [16, 18] (gT (gsC (gN 16) (gsC (gN 18) gs0))) (cTst (cBin false (opEqB false) (cV 18) (cV 15))) (cV 16)) (cLst false (cCons (cC .non) cNil))) (cC (.int 0))) (σ := [s0, some (.int p), s2, s3, some (.lst (ends.map oD)), s5, s6, s7, s8, s9, s10, s11, s12, s13, s14, none, s16, s17, s18]) (st := st) rfl
    (f := fun x => match x with | .int q => oD (idx ends q 0) | _ => .non) (ds := (irange 0 p.toNat).map D.int) fun x hx => by
      obtain ⟨q, _, rfl⟩ := List.mem_map.mp hx
      refine ⟨_, by simp; rfl, rfl, ?_⟩
      have lc := atPl_lc (σ := [s0, some (.int p), s2, s3, some (.lst (ends.map oD)), s5, s6, s7, s8, s9, s10, s11, s12, s13, s14, some (.int q), none, s17, none]) (st := st) (ends := ends) (q := q) (by simp) (by simp) rfl
      unfold enD at lc
      have sz := atPl_len ends q
      have s1 : (atPl ends q 0).length ≤ 16777216 := by omega
      have s2 : (atPl ends q 0).length + 1 ≤ 16777216 := by omega
      have hx := head_ix (atPl ends q 0) st
      rw [atPl_head] at hx
      have add : opAdd (.lst ((atPl ends q 0).map D.int)) (.lst [.non]) st = some (.l ((atPl ends q 0).map D.int ++ [.non])) := by
        simp only [opAdd, asL]
        rw [if_pos (by rw [sizeLine_val]; simpa using s2)]
      simp [itemsL, wipeD, lc, s1, sizeLine_val, add, hx]
  rw [key, List.map_map]
  unfold stand
  rw [List.map_map]
  rfl
/-! ### what the case finds -/
/-- slots of a case -/
abbrev Sl (a0 a1 a2 a3 a4 a5 a6 a7 a8 a9 a10 a11 a12 a13 a14 : Option D) : Ev := [a0, a1, a2, a3, a4, a5, a6, a7, a8, a9, a10, a11, a12, a13, a14, none, none, none, none]
section
variable {S : Stt} {p : Int} {ws : List Int} {a0 a3 a5 a6 a7 a8 a9 a10 a11 a12 a13 a14 : Option D}
abbrev En (p : Int) (ws : List Int) : List (Option Int) := parkF p [] ws
abbrev far (p : Int) (ws : List Int) : Int := (drv (En p ws) ws).sum
theorem q3_ok (h : Wsh p ws) : q__law_case_right_3 false (Sl a0 (some (.int p)) (some (.lst (ws.map D.int))) a3 (some (.lst ((En p ws).map oD))) a5 a6 a7 a8 a9 a10 a11 a12 a13 a14) S = .nx (Sl a0 (some (.int p)) (some (.lst (ws.map D.int))) a3 (some (.lst ((En p ws).map oD))) (some (.lst ((stand p (En p ws)).map oD))) a6 a7 a8 a9 a10 a11 a12 a13 a14) S := by
  have rg : iR1 (cV 1) (Sl a0 (some (.int p)) (some (.lst (ws.map D.int))) a3 (some (.lst ((En p ws).map oD))) a5 a6 a7 a8 a9 a10 a11 a12 a13 a14) S = .ok ((irange 0 p.toNat).map D.int, []) S := rng_ok (by simp) h.1 (by have := h.2.1; omega)
  have lc := lstand_lc (s0 := a0) (s2 := some (.lst (ws.map D.int))) (s3 := a3) (s5 := a5) (s6 := a6) (s7 := a7) (s8 := a8) (s9 := a9) (s10 := a10) (s11 := a11) (s12 := a12) (s13 := a13) (s14 := a14) (s16 := none) (s17 := none) (s18 := none) (st := S) (p := p) (ends := En p ws) (by rw [parkF_len]; have := h.2.2.1; simp; omega)
  have sz : (stand p (En p ws)).length ≤ 16777216 := by simp [stand, irange_len]; have := h.2.1; omega
  unfold Sl at rg ⊢
  unfold q__law_case_right_3
  simp [rg, wipeD, lc, sz, sizeLine_val, -eR1]
theorem q4_ok (h : Wsh p ws) : q__law_case_right_4 false (Sl a0 (some (.int p)) (some (.lst (ws.map D.int))) a3 (some (.lst ((En p ws).map oD))) a5 a6 a7 a8 a9 a10 a11 a12 a13 a14) S = .nx (Sl a0 (some (.int p)) (some (.lst (ws.map D.int))) a3 (some (.lst ((En p ws).map oD))) a5 (some (.lst ((lucky ws (En p ws)).map D.int))) a7 a8 a9 a10 a11 a12 a13 a14) S := by
  have lc := lucky_lc (i := 16) (j := 17) (ie := 4) (σ := Sl a0 (some (.int p)) (some (.lst (ws.map D.int))) a3 (some (.lst ((En p ws).map oD))) a5 a6 a7 a8 a9 a10 a11 a12 a13 a14) (st := S) (ws := ws) (ends := En p ws) (by simp) (by simp) (by decide) (by decide) (by decide) rfl (by rw [parkF_len]; simp)
  unfold enD at lc
  unfold Sl at lc ⊢
  unfold q__law_case_right_4
  simp [itemsL, wipeD, lc, lucky_size ws _ h.2.2.1, sizeLine_val]
theorem q5_ok (h : Wsh p ws) : q__law_case_right_5 false (Sl a0 (some (.int p)) (some (.lst (ws.map D.int))) a3 (some (.lst ((En p ws).map oD))) a5 a6 a7 a8 a9 a10 a11 a12 a13 a14) S = .nx (Sl a0 (some (.int p)) (some (.lst (ws.map D.int))) a3 (some (.lst ((En p ws).map oD))) a5 a6 (some (.int (far p ws))) a8 a9 a10 a11 a12 a13 a14) S := by
  have lc := drv_lc (i := 18) (j := 17) (σ := Sl a0 (some (.int p)) (some (.lst (ws.map D.int))) a3 (some (.lst ((En p ws).map oD))) a5 a6 a7 a8 a9 a10 a11 a12 a13 a14) (st := S) (by simp) (by simp) (by decide) (En p ws) ws
  unfold Sl at lc ⊢
  unfold q__law_case_right_5
  simp [itemsL, wipeD, lc, drv_size _ ws h.2.2.1, sizeLine_val, sumI]
/-- what is due -/
abbrev Due (p : Int) (ws : List Int) : List D := [.lst ((En p ws).map oD), .lst ((stand p (En p ws)).map oD), .bl (decide (none ∉ En p ws)), barD ws (crowd p ws), .lst ((lucky ws (En p ws)).map D.int), .int (far p ws)]
theorem q6_ok (h : Wsh p ws) : q__law_case_right_6 false (Sl a0 (some (.int p)) (some (.lst (ws.map D.int))) a3 (some (.lst ((En p ws).map oD))) (some (.lst ((stand p (En p ws)).map oD))) (some (.lst ((lucky ws (En p ws)).map D.int))) (some (.int (far p ws))) a8 a9 a10 a11 a12 a13 a14) S =
    .nx (Sl a0 (some (.int p)) (some (.lst (ws.map D.int))) a3 (some (.lst ((En p ws).map oD))) (some (.lst ((stand p (En p ws)).map oD))) (some (.lst ((lucky ws (En p ws)).map D.int))) (some (.int (far p ws))) (some (.lst (Due p ws))) a9 a10 a11 a12 a13 a14) S := by
  have e := lbar_ok false S h
  have i1 : opIn true .non (.lst ((En p ws).map oD)) S = some (.v (.bl (decide (none ∈ En p ws) != true))) := in_ok (neg := true) none rfl
  unfold Sl Due
  unfold q__law_case_right_6
  simp [e, i1, sizeLine_val, bne_t]
end
end Lw


/-! M58g: what the program tells, in cells. -/
namespace Lw
open PySem MP
open L2 (atI ixN atI_nat Key)

theorem mapM_oD {st : Stt} (k : Nat) : ∀ (xs : List (Option Int)), ∀ (_ : Unit), (xs.map oD).mapM (pyN st k) = some (xs.map oP)
  | [], _ => rfl
  | a :: r, _ => by
    have e : pyN st k (oD a) = some (oP a) := by cases k <;> exact py_oD st _ a
    rw [List.map_cons, List.mapM_cons, e, mapM_oD k r ()]
    rfl
theorem mapM_int {st : Stt} (k : Nat) : ∀ (xs : List Int), ∀ (_ : Unit), (xs.map D.int).mapM (pyN st k) = some (xs.map PyData.int)
  | [], _ => rfl
  | a :: r, _ => by
    have e : pyN st k (.int a) = some (.int a) := by cases k <;> rfl
    rw [List.map_cons, List.mapM_cons, e, mapM_int k r ()]
    rfl
/-- the bar as plain data -/
def barP (ws : List Int) : Option Int → PyData
  | some q => .tuple [.int q, .list ((cars ws q).map PyData.int)]
  | none => .none
abbrev PD (p : Int) (ws : List Int) : List PyData := [.list ((En p ws).map oP), .list ((stand p (En p ws)).map oP), .bool (decide (none ∉ En p ws)), barP ws (crowd p ws), .list ((lucky ws (En p ws)).map PyData.int), .int (far p ws)]
theorem barD_py (ws : List Int) (st : Stt) (below : D → Option PyData) (c : Option Int) : pyF st below (barD ws c) = some (barP ws c) := by
  cases c with
  | none => rfl
  | some q => simp [barD, barP, pyF, pyFs, pyFs_int]
theorem due_py (p : Int) (ws : List Int) (st : Stt) (below : D → Option PyData) : pyFs st below (Due p ws) = some (PD p ws) := by
  simp [Due, PD, pyFs, pyF, pyFs_oD, pyFs_int, barD_py]
/-- what is told: T, in the cells G -/
structure Told (p : Int) (ws : List Int) (S : Stt) (T : List D) (G : Stt) : Prop where
  py_ : ∀ k, pyFs (S ++ G) (pyN (S ++ G) k) T = some (PD p ws)
  more : ∃ G1 G2 G3 G4 : Stt, ∀ (σ : Ev), σ[9]? = some (some (.lst T)) → q__law_case_right_16 false σ (S ++ G) = .nx σ (S ++ G1) ∧ q__law_case_right_17 false σ (S ++ G1) = .nx σ (S ++ G2) ∧ q__law_case_right_18 false σ (S ++ G2) = .nx σ (S ++ G3) ∧ q__law_case_right_19 false σ (S ++ G3) = .nx σ (S ++ G4)
section
variable {α : Type} (st : List α) (a b c d x : α)
theorem g3_0 : (st ++ [a, b, c])[st.length]? = some a := by rw [app_at0]; rfl
theorem g3_1 : (st ++ [a, b, c])[st.length + 1]? = some b := by rw [app_at]; rfl
theorem g3_2 : (st ++ [a, b, c])[st.length + 2]? = some c := by rw [app_at]; rfl
theorem g4_0 : (st ++ [a, b, c, d])[st.length]? = some a := by rw [app_at0]; rfl
theorem g4_1 : (st ++ [a, b, c, d])[st.length + 1]? = some b := by rw [app_at]; rfl
theorem g4_2 : (st ++ [a, b, c, d])[st.length + 2]? = some c := by rw [app_at]; rfl
theorem g4_3 : (st ++ [a, b, c, d])[st.length + 3]? = some d := by rw [app_at]; rfl
theorem w3_0 : (st ++ [a, b, c]).set st.length x = st ++ [x, b, c] := by rw [app_set0]; rfl
theorem w3_1 : (st ++ [a, b, c]).set (st.length + 1) x = st ++ [a, x, c] := by rw [app_set]; rfl
theorem w3_2 : (st ++ [a, b, c]).set (st.length + 2) x = st ++ [a, b, x] := by rw [app_set]; rfl
theorem w4_0 : (st ++ [a, b, c, d]).set st.length x = st ++ [x, b, c, d] := by rw [app_set0]; rfl
theorem w4_1 : (st ++ [a, b, c, d]).set (st.length + 1) x = st ++ [a, x, c, d] := by rw [app_set]; rfl
theorem w4_2 : (st ++ [a, b, c, d]).set (st.length + 2) x = st ++ [a, b, x, d] := by rw [app_set]; rfl
theorem w4_3 : (st ++ [a, b, c, d]).set (st.length + 3) x = st ++ [a, b, c, x] := by rw [app_set]; rfl
end
theorem ix_lit (xs : List D) (i : Nat) {d : D} (h : xs[i]? = some d) (st : Stt) : opIx (.lst xs) (.int (i : Nat)) st = some (.v d) := by
  simp [opIx, asQ, asL, atI_nat h]
theorem sz_of {α : Type} {xs : List α} (h : xs.length ≤ 100000) : (xs.length < sizeLine) = True := by rw [sizeLine_val]; exact eq_true (by omega)
section
variable {S : Stt} {p : Int} {ws : List Int} {a0 a3 a4 a5 a6 a7 a8 a9 a10 a11 a12 a13 a14 : Option D}
theorem told_ok (h : Wsh p ws) (hl : ws.length < 99) (hE : Ends p (En p ws)) (hc : (crowd p ws).isNone = decide (none ∉ En p ws)) :
    ∃ (T T1 T2 : List D) (G G1 G2 : Stt), (∀ a9, q__law_case_right_7 false (Sl a0 (some (.int p)) (some (.lst (ws.map D.int))) a3 a4 a5 a6 a7 a8 a9 a10 a11 a12 a13 a14) S = .nx (Sl a0 (some (.int p)) (some (.lst (ws.map D.int))) a3 a4 a5 a6 a7 a8 (some (.lst T1)) a10 a11 a12 a13 a14) (S ++ G1)) ∧
      q__law_case_right_8 false (Sl a0 (some (.int p)) (some (.lst (ws.map D.int))) a3 a4 a5 a6 a7 a8 (some (.lst T1)) a10 a11 a12 a13 a14) (S ++ G1) = .nx (Sl a0 (some (.int p)) (some (.lst (ws.map D.int))) a3 a4 a5 a6 a7 a8 (some (.lst T2)) a10 a11 a12 a13 a14) (S ++ G2) ∧
      q__law_case_right_9 false (Sl a0 (some (.int p)) (some (.lst (ws.map D.int))) a3 a4 a5 a6 a7 a8 (some (.lst T2)) a10 a11 a12 a13 a14) (S ++ G2) = .nx (Sl a0 (some (.int p)) (some (.lst (ws.map D.int))) a3 a4 a5 a6 a7 a8 (some (.lst T)) a10 a11 a12 a13 a14) (S ++ G) ∧ Told p ws S T G := by
  have e1 := fun st => parked_ok true st h hl
  have e2 := fun st => standing_ok true st h hl hE
  have e3 := fun st => none_leaves_ok true st h
  have e4 := fun st => pbarT_ok st h
  have e5 := fun st => luckyc_ok true st h hl
  have e6 := fun st => driven_ok true st h hl
  have lE : (En p ws).length ≤ 100000 := by rw [parkF_len]; simp; omega
  have lS : (stand p (En p ws)).length ≤ 100000 := by simp [stand, irange_len]; have := h.2.1; omega
  have lL : (lucky ws (En p ws)).length ≤ 100000 := by
    unfold lucky
    rw [List.length_map]
    refine Nat.le_trans (List.length_filter_le _ _) ?_
    rw [List.length_zipIdx]
    omega
  cases hcr : crowd p ws with
  | none =>
    rw [hcr] at hc
    refine ⟨[.cel S.length, .cel (S.length + 1), .bl true, .non, .cel (S.length + 2), .int (far p ws)], [.cel S.length, .cel (S.length + 1)], [.cel S.length, .cel (S.length + 1), .bl true, .non],
      [some (.lst ((En p ws).map oD)), some (.lst ((stand p (En p ws)).map oD)), some (.lst ((lucky ws (En p ws)).map D.int))], [some (.lst ((En p ws).map oD)), some (.lst ((stand p (En p ws)).map oD))], [some (.lst ((En p ws).map oD)), some (.lst ((stand p (En p ws)).map oD))], fun a9 => ?_, ?_, ?_, ?_, ?_⟩
    · unfold q__law_case_right_7
      simp [e1, e2, sizeLine_val]
    · unfold q__law_case_right_8
      simp [e3, e4, hcr, barR, opAdd, asL, sizeLine_val]
    · unfold q__law_case_right_9
      simp [e5, e6, opAdd, asL, sizeLine_val]
    · intro k
      have hc : decide (none ∉ En p ws) = true := hc.symm
      have m1 : ((En p ws).map oD).mapM (pyN (S ++ [some (.lst ((En p ws).map oD)), some (.lst ((stand p (En p ws)).map oD)), some (.lst ((lucky ws (En p ws)).map D.int))]) k) = some ((En p ws).map oP) := mapM_oD k _ ()
      have m2 : ((stand p (En p ws)).map oD).mapM (pyN (S ++ [some (.lst ((En p ws).map oD)), some (.lst ((stand p (En p ws)).map oD)), some (.lst ((lucky ws (En p ws)).map D.int))]) k) = some ((stand p (En p ws)).map oP) := mapM_oD k _ ()
      have m3 : ((lucky ws (En p ws)).map D.int).mapM (pyN (S ++ [some (.lst ((En p ws).map oD)), some (.lst ((stand p (En p ws)).map oD)), some (.lst ((lucky ws (En p ws)).map D.int))]) k) = some ((lucky ws (En p ws)).map PyData.int) := mapM_int k _ ()
      simp only [pyFs, pyF, g3_0, g3_1, g3_2, m1, m2, m3, Option.map_some, PD, hcr, barP, hc]
    · refine ⟨[some (.lst ((En p ws).map oD ++ [.str "more"])), some (.lst ((stand p (En p ws)).map oD)), some (.lst ((lucky ws (En p ws)).map D.int))], [some (.lst ((En p ws).map oD ++ [.str "more"])), some (.lst ((stand p (En p ws)).map oD ++ [.str "more"])), some (.lst ((lucky ws (En p ws)).map D.int))],
        [some (.lst ((En p ws).map oD ++ [.str "more"])), some (.lst ((stand p (En p ws)).map oD ++ [.str "more"])), some (.lst ((lucky ws (En p ws)).map D.int ++ [.str "more"]))], [some (.lst ((En p ws).map oD ++ [.str "more"])), some (.lst ((stand p (En p ws)).map oD ++ [.str "more"])), some (.lst ((lucky ws (En p ws)).map D.int ++ [.str "more"]))], fun σ h9 => ⟨?_, ?_, ?_, ?_⟩⟩
      · have i : ∀ st, opIx (.lst [.cel S.length, .cel (S.length + 1), .bl true, .non, .cel (S.length + 2), .int (far p ws)]) (.int 0) st = some (.v (.cel S.length)) := ix_lit _ 0 rfl
        unfold q__law_case_right_16
        simp [h9, i, isL, asL, mAppend, g3_0, w3_0, sz_of lE, putR]
      · have i : ∀ st, opIx (.lst [.cel S.length, .cel (S.length + 1), .bl true, .non, .cel (S.length + 2), .int (far p ws)]) (.int 1) st = some (.v (.cel (S.length + 1))) := ix_lit _ 1 rfl
        unfold q__law_case_right_17
        simp [h9, i, isL, asL, mAppend, g3_1, w3_1, sz_of lS, putR]
      · have i : ∀ st, opIx (.lst [.cel S.length, .cel (S.length + 1), .bl true, .non, .cel (S.length + 2), .int (far p ws)]) (.int 4) st = some (.v (.cel (S.length + 2))) := ix_lit _ 4 rfl
        unfold q__law_case_right_18
        simp [h9, i, isL, asL, mAppend, g3_2, w3_2, sz_of lL, putR]
      · have i : ∀ st, opIx (.lst [.cel S.length, .cel (S.length + 1), .bl true, .non, .cel (S.length + 2), .int (far p ws)]) (.int 3) st = some (.v .non) := ix_lit _ 3 rfl
        unfold q__law_case_right_19
        simp [h9, i, opIsN, MP.isNon]
  | some q =>
    rw [hcr] at hc
    have lC : (cars ws q).length ≤ 100000 := by
      unfold cars
      rw [List.length_map]
      refine Nat.le_trans (List.length_filter_le _ _) ?_
      rw [List.length_zipIdx]
      omega
    refine ⟨[.cel S.length, .cel (S.length + 1), .bl false, .tup [.int q, .cel (S.length + 2)], .cel (S.length + 3), .int (far p ws)], [.cel S.length, .cel (S.length + 1)], [.cel S.length, .cel (S.length + 1), .bl false, .tup [.int q, .cel (S.length + 2)]],
      [some (.lst ((En p ws).map oD)), some (.lst ((stand p (En p ws)).map oD)), some (.lst ((cars ws q).map D.int)), some (.lst ((lucky ws (En p ws)).map D.int))], [some (.lst ((En p ws).map oD)), some (.lst ((stand p (En p ws)).map oD))], [some (.lst ((En p ws).map oD)), some (.lst ((stand p (En p ws)).map oD)), some (.lst ((cars ws q).map D.int))], fun a9 => ?_, ?_, ?_, ?_, ?_⟩
    · unfold q__law_case_right_7
      simp [e1, e2, sizeLine_val]
    · unfold q__law_case_right_8
      simp [e3, e4, hcr, barR, opAdd, asL, sizeLine_val]
    · unfold q__law_case_right_9
      simp [e5, e6, opAdd, asL, sizeLine_val]
    · intro k
      have hc : decide (none ∉ En p ws) = false := hc.symm
      obtain ⟨G, hG⟩ : ∃ G : Stt, G = S ++ [some (.lst ((En p ws).map oD)), some (.lst ((stand p (En p ws)).map oD)), some (.lst ((cars ws q).map D.int)), some (.lst ((lucky ws (En p ws)).map D.int))] := ⟨_, rfl⟩
      have m1 : ((En p ws).map oD).mapM (pyN G k) = some ((En p ws).map oP) := mapM_oD k _ ()
      have m2 : ((stand p (En p ws)).map oD).mapM (pyN G k) = some ((stand p (En p ws)).map oP) := mapM_oD k _ ()
      have m3 : ((lucky ws (En p ws)).map D.int).mapM (pyN G k) = some ((lucky ws (En p ws)).map PyData.int) := mapM_int k _ ()
      have m4 : ((cars ws q).map D.int).mapM (pyN G k) = some ((cars ws q).map PyData.int) := mapM_int k _ ()
      rw [← hG]
      have c0 : G[S.length]? = some (some (.lst ((En p ws).map oD))) := by rw [hG]; exact g4_0 ..
      have c1 : G[S.length + 1]? = some (some (.lst ((stand p (En p ws)).map oD))) := by rw [hG]; exact g4_1 ..
      have c2 : G[S.length + 2]? = some (some (.lst ((cars ws q).map D.int))) := by rw [hG]; exact g4_2 ..
      have c3 : G[S.length + 3]? = some (some (.lst ((lucky ws (En p ws)).map D.int))) := by rw [hG]; exact g4_3 ..
      simp only [pyFs, pyF, c0, c1, c2, c3, m1, m2, m3, m4, Option.map_some, PD, hcr, barP, hc]
    · refine ⟨[some (.lst ((En p ws).map oD ++ [.str "more"])), some (.lst ((stand p (En p ws)).map oD)), some (.lst ((cars ws q).map D.int)), some (.lst ((lucky ws (En p ws)).map D.int))], [some (.lst ((En p ws).map oD ++ [.str "more"])), some (.lst ((stand p (En p ws)).map oD ++ [.str "more"])), some (.lst ((cars ws q).map D.int)), some (.lst ((lucky ws (En p ws)).map D.int))],
        [some (.lst ((En p ws).map oD ++ [.str "more"])), some (.lst ((stand p (En p ws)).map oD ++ [.str "more"])), some (.lst ((cars ws q).map D.int)), some (.lst ((lucky ws (En p ws)).map D.int ++ [.str "more"]))], [some (.lst ((En p ws).map oD ++ [.str "more"])), some (.lst ((stand p (En p ws)).map oD ++ [.str "more"])), some (.lst ((cars ws q).map D.int ++ [.str "more"])), some (.lst ((lucky ws (En p ws)).map D.int ++ [.str "more"]))], fun σ h9 => ⟨?_, ?_, ?_, ?_⟩⟩
      · have i : ∀ st, opIx (.lst [.cel S.length, .cel (S.length + 1), .bl false, .tup [.int q, .cel (S.length + 2)], .cel (S.length + 3), .int (far p ws)]) (.int 0) st = some (.v (.cel S.length)) := ix_lit _ 0 rfl
        unfold q__law_case_right_16
        simp [h9, i, isL, asL, mAppend, g4_0, w4_0, sz_of lE, putR]
      · have i : ∀ st, opIx (.lst [.cel S.length, .cel (S.length + 1), .bl false, .tup [.int q, .cel (S.length + 2)], .cel (S.length + 3), .int (far p ws)]) (.int 1) st = some (.v (.cel (S.length + 1))) := ix_lit _ 1 rfl
        unfold q__law_case_right_17
        simp [h9, i, isL, asL, mAppend, g4_1, w4_1, sz_of lS, putR]
      · have i : ∀ st, opIx (.lst [.cel S.length, .cel (S.length + 1), .bl false, .tup [.int q, .cel (S.length + 2)], .cel (S.length + 3), .int (far p ws)]) (.int 4) st = some (.v (.cel (S.length + 3))) := ix_lit _ 4 rfl
        unfold q__law_case_right_18
        simp [h9, i, isL, asL, mAppend, g4_3, w4_3, sz_of lL, putR]
      · have i : ∀ st, opIx (.lst [.cel S.length, .cel (S.length + 1), .bl false, .tup [.int q, .cel (S.length + 2)], .cel (S.length + 3), .int (far p ws)]) (.int 3) st = some (.v (.tup [.int q, .cel (S.length + 2)])) := ix_lit _ 3 rfl
        have j : ∀ st, opIx (.tup [.int q, .cel (S.length + 2)]) (.int 1) st = some (.v (.cel (S.length + 2))) := fun st => by
          have : atI [D.int q, .cel (S.length + 2)] 1 = some (.cel (S.length + 2)) := rfl
          simp [opIx, asQ, this]
        unfold q__law_case_right_19
        simp [h9, i, j, opIsN, MP.isNon, isL, asL, mAppend, g4_2, w4_2, sz_of lC, putR]
end
end Lw


/-! M58h: the other pieces of a case. -/
namespace Lw
open PySem MP
open L2 (atI ixN atI_nat Key)

theorem flats_oP (n : Nat) : ∀ xs : List (Option Int), flats n (xs.map oP) = true
  | [] => rfl
  | a :: r => by
    have : flat n (oP a) = true := by cases a <;> cases n <;> rfl
    simp [flats, this, flats_oP n r]
theorem flats_int (n : Nat) : ∀ xs : List Int, flats n (xs.map PyData.int) = true
  | [] => rfl
  | a :: r => by
    have : flat n (.int a) = true := by cases n <;> rfl
    simp [flats, this, flats_int n r]
theorem eqBne_bl (a b : Bool) (st : Stt) : opEqB true (.bl a) (.bl b) st = some (.v (.bl (a != b))) := by cases a <;> cases b <;> rfl
theorem eqBne_int (a b : Int) (st : Stt) : opEqB true (.int a) (.int b) st = some (.v (.bl (!(a == b)))) := by
  simp [opEqB, py, pyN, pyF, PyData.eqv, SeqAt.shaped, PyData.canLay0, PyData.depth]
theorem isNon_bar (ws : List Int) (c : Option Int) : MP.isNon (barD ws c) = c.isNone := by cases c <;> rfl
theorem fMaxI {xs : List Int} {m : Int} (h : m ∈ xs) (hm : ∀ y ∈ xs, y ≤ m) (st : Stt) : fMax [.lst (xs.map D.int)] st = some (.v (.int m)) := by
  cases xs with
  | nil => cases h
  | cons n ns =>
    have e : fMax [.lst ((n :: ns).map D.int)] st = some (.v (.int (ns.foldl maxI n))) := by
      have : intsOf ((n :: ns).map D.int) = some (n :: ns) := intsOf_map _
      simp only [fMax, asL, this]
    rw [e, foldl_max n ns m ((List.mem_cons.mp h).imp Eq.symm _root_.id) (hm n List.mem_cons_self) fun y hy => hm y (List.mem_cons_of_mem _ hy)]
theorem plain_oP : ∀ xs : List (Option Int), PyData.plainAll (xs.map oP) = true
  | [] => rfl
  | a :: r => by cases a <;> simp [oP, PyData.plainAll, PyData.plain, plain_oP r]
theorem countNone (xs : List (Option Int)) (st : Stt) : fCount (.lst (xs.map oD)) [.non] st = some (.v (.int (xs.count none : Nat))) := by
  have e2 : py st .non = some .none := rfl
  simp only [fCount, asL, pyFs_oD, e2]
  have pl : (PyData.plainAll (xs.map oP) && PyData.plain .none && SeqAt.shaped .none) = true := by rw [plain_oP]; rfl
  rw [if_pos pl]
  congr 4
  rw [List.countP_map]
  unfold List.count
  apply List.countP_congr
  intro a _
  have := eqv_oP a none
  simp only [Function.comp]
  rw [show PyData.none = oP none from rfl, this]
  cases a <;> simp
theorem ints_of_perm {ys : List D} {ws : List Int} (h : ys.Perm (ws.map D.int)) : ∃ zs : List Int, ys = zs.map D.int ∧ zs.Perm ws := by
  have : ∃ zs : List Int, ys = zs.map D.int := by
    have all : ∀ y ∈ ys, ∃ i, y = D.int i := fun y hy => by
      obtain ⟨i, _, rfl⟩ := List.mem_map.mp (h.mem_iff.mp hy)
      exact ⟨i, rfl⟩
    clear h
    induction ys with
    | nil => exact ⟨[], rfl⟩
    | cons y r ih =>
      obtain ⟨i, rfl⟩ := all y List.mem_cons_self
      obtain ⟨zs, rfl⟩ := ih fun x hx => all x (List.mem_cons_of_mem _ hx)
      exact ⟨i :: zs, rfl⟩
  obtain ⟨zs, rfl⟩ := this
  refine ⟨zs, rfl, ?_⟩
  have := h.map fun d => match d with | .int i => i | _ => 0
  rw [List.map_map, List.map_map] at this
  simpa [Function.comp_def] using this
section
variable {S : Stt} {p : Int} {ws : List Int} {a0 a3 a4 a5 a6 a7 a8 a9 a10 a11 a12 a13 a14 : Option D}
theorem named_ok (h : Wsh p ws) (hl : ws.length < 99) (hE : Ends p (En p ws)) (hc : (crowd p ws).isNone = decide (none ∉ En p ws)) : ∃ N1 N2 : List D,
    (∀ a10, q__law_case_right_10 false (Sl a0 (some (.int p)) (some (.lst (ws.map D.int))) a3 a4 a5 a6 a7 a8 a9 a10 a11 a12 a13 a14) S = .nx (Sl a0 (some (.int p)) (some (.lst (ws.map D.int))) a3 a4 a5 a6 a7 a8 a9 (some (.lst N1)) a11 a12 a13 a14) S) ∧
    q__law_case_right_11 false (Sl a0 (some (.int p)) (some (.lst (ws.map D.int))) a3 a4 a5 a6 a7 a8 a9 (some (.lst N1)) a11 a12 a13 a14) S = .nx (Sl a0 (some (.int p)) (some (.lst (ws.map D.int))) a3 a4 a5 a6 a7 a8 a9 (some (.lst N2)) a11 a12 a13 a14) S ∧
    q__law_case_right_12 false (Sl a0 (some (.int p)) (some (.lst (ws.map D.int))) a3 a4 a5 a6 a7 a8 a9 (some (.lst N2)) a11 a12 a13 a14) S = .nx (Sl a0 (some (.int p)) (some (.lst (ws.map D.int))) a3 a4 a5 a6 a7 a8 a9 (some (.lst (Due p ws))) a11 a12 a13 a14) S := by
  have e1 := fun st => parked_ok false st h hl
  have e2 := fun st => standing_ok false st h hl hE
  have e3 := fun st => none_leaves_ok false st h
  have e4 := fun st => pbarF_ok st h
  have e5 := fun st => luckyc_ok false st h hl
  have e6 := fun st => driven_ok false st h hl
  rw [hc] at e3
  have pm : ∀ x y : D, permD [1, 0] [x, y] = [y, x] := fun _ _ => rfl
  refine ⟨[.lst ((En p ws).map oD), .lst ((stand p (En p ws)).map oD)], [.lst ((En p ws).map oD), .lst ((stand p (En p ws)).map oD), .bl (decide (none ∉ En p ws)), barD ws (crowd p ws)], fun a10 => ?_, ?_, ?_⟩
  · unfold q__law_case_right_10
    simp [pm, e1, e2, sizeLine_val]
  · unfold q__law_case_right_11
    simp [pm, e3, e4, opAdd, asL, sizeLine_val]
  · unfold q__law_case_right_12
    simp [pm, e5, e6, opAdd, asL, sizeLine_val]
theorem lens (h : Wsh p ws) : (En p ws).length ≤ 100000 ∧ (stand p (En p ws)).length ≤ 100000 ∧ (lucky ws (En p ws)).length ≤ 100000 ∧ ∀ q, (cars ws q).length ≤ 100000 := by
  have := h.2.2.1
  have := h.2.1
  refine ⟨by rw [parkF_len]; simp; omega, by simp [stand, irange_len]; omega, ?_, fun q => ?_⟩
  · unfold lucky
    rw [List.length_map]
    refine Nat.le_trans (List.length_filter_le _ _) ?_
    rw [List.length_zipIdx]
    omega
  · unfold cars
    rw [List.length_map]
    refine Nat.le_trans (List.length_filter_le _ _) ?_
    rw [List.length_zipIdx]
    omega
theorem flat_bar (h : Wsh p ws) (n : Nat) (c : Option Int) : flat (n + 2) (barP ws c) = true := by
  cases c with
  | none => rfl
  | some q => simp [barP, flat, flats, flats_int, (lens h).2.2.2 q]
theorem q13_ok (h : Wsh p ws) (hc : (crowd p ws).isNone = decide (none ∉ En p ws)) {T : List D} (hT : ∀ k, pyFs S (pyN S k) T = some (PD p ws)) (σ : Ev) (h8 : σ[8]? = some (some (.lst (Due p ws)))) (h9 : σ[9]? = some (some (.lst T))) (h10 : σ[10]? = some (some (.lst (Due p ws)))) : q__law_case_right_13 false σ S = .nx σ S := by
  obtain ⟨l1, l2, l3, l4⟩ := lens h
  have fl : flat 11 (.list [.list (PD p ws), .list (PD p ws)]) = true := by
    simp [flat, flats, PD, flats_oP, flats_int, l1, l2, l3, flat_bar h]
  have y1 : pyN S 6 (.lst [.lst (Due p ws), .lst (Due p ws)]) = some (.list [.list (PD p ws), .list (PD p ws)]) := by
    show pyF S (pyN S 5) _ = _
    simp only [pyF, pyFs, pyFs_oD, pyFs_int, barD_py, Option.map_some]
  have y2 : pyN S 6 (.lst [.lst T, .lst (Due p ws)]) = some (.list [.list (PD p ws), .list (PD p ws)]) := by
    show pyF S (pyN S 5) _ = _
    simp only [pyF, pyFs, pyFs_oD, pyFs_int, barD_py, hT 5, Option.map_some]
  have ex := exact_ok 11 false y1 y2 fl
  have i3 : opIx (.lst (Due p ws)) (.int 3) S = some (.v (barD ws (crowd p ws))) := ix_lit _ 3 rfl S
  have i2 : opIx (.lst (Due p ws)) (.int 2) S = some (.v (.bl (decide (none ∉ En p ws)))) := ix_lit _ 2 rfl S
  unfold q__law_case_right_13
  simp only [eIfS, eOrT, eNotT, eTst, eCallD, eCons, eLst, eNil, eV, h8, h9, h10, eBin, eC, R.bind, R.st, List.length_cons, List.length_nil, sizeLine_val]
  simp [ex, i3, i2, opIsN, isNon_bar, hc, eqBne_bl]
theorem more_lc {σ : Ev} (h : Wsh p ws) : lcGo [] (gN 15) cYes (cBin false opAdd (cBin false opSub (cB false fLen (cCons (cLc false (iValL (cV 2)) [17] (gN 17) (cTst (cBin false opGe (cV 17) (cV 15))) (cV 17)) cNil)) (cV 1)) (cV 15)) [a0, some (.int p), some (.lst (ws.map D.int)), a3, a4, a5, a6, a7, a8, a9, a10, a11, a12, a13, a14, none, none, none, none] ((irange 0 p.toNat).map D.int) S = some (((irange 0 p.toNat).map fun q => cge ws q - p + q).map D.int, S) := by
  have key := lc_pure (gs := []) (g := gN 15) (tt := cYes) (elt := cBin false opAdd (cBin false opSub (cB false fLen (cCons (cLc false (iValL (cV 2)) [17] (gN 17) (cTst (cBin false opGe (cV 17) (cV 15))) (cV 17)) cNil)) (cV 1)) (cV 15)) (σ := [a0, some (.int p), some (.lst (ws.map D.int)), a3, a4, a5, a6, a7, a8, a9, a10, a11, a12, a13, a14, none, none, none, none]) (st := S) rfl
    (f := fun x => match x with | .int q => .int (cge ws q - p + q) | _ => .non) (ds := (irange 0 p.toNat).map D.int) fun x hx => by
      obtain ⟨q, _, rfl⟩ := List.mem_map.mp hx
      refine ⟨_, by simp; rfl, rfl, ?_⟩
      have lc := lc_filter (gs := []) (g := gN 17) (tt := cTst (cBin false opGe (cV 17) (cV 15))) (elt := cV 17) (σ := [a0, some (.int p), some (.lst (ws.map D.int)), a3, a4, a5, a6, a7, a8, a9, a10, a11, a12, a13, a14, some (.int q), none, none, none]) (st := S) rfl
        (b := fun x => match x with | .int w => decide (q ≤ w) | _ => false) (f := fun x => x) (ds := ws.map D.int) fun x hx => by
          obtain ⟨w, _, rfl⟩ := List.mem_map.mp hx
          exact ⟨_, by simp; rfl, by simp [opGe, opCmpI], by simp⟩
      rw [List.map_id', List.filter_map] at lc
      have e : ((fun x => match x with | D.int w => decide (q ≤ w) | _ => false) ∘ D.int) = fun w => decide (q ≤ w) := rfl
      rw [e] at lc
      have sz : (ws.filter fun w => decide (q ≤ w)).length ≤ 16777216 := Nat.le_trans (List.length_filter_le _ _) (by have := h.2.2.1; omega)
      have fl := fLenI (ws.filter fun w => decide (q ≤ w)) S
      simp [itemsQ, asT, itemsL, wipeD, lc, sz, sizeLine_val, fl, opSub, opAdd, cge]
  rw [key, List.map_map, List.map_map]
  rfl
theorem q14_ok (h : Wsh p ws) : q__law_case_right_14 false (Sl a0 (some (.int p)) (some (.lst (ws.map D.int))) a3 a4 a5 a6 a7 a8 a9 a10 a11 a12 a13 a14) S = .nx (Sl a0 (some (.int p)) (some (.lst (ws.map D.int))) a3 a4 a5 a6 a7 a8 a9 a10 (some (.lst (((irange 0 p.toNat).map fun q => cge ws q - p + q).map D.int))) a12 a13 a14) S := by
  have rg : iR1 (cV 1) (Sl a0 (some (.int p)) (some (.lst (ws.map D.int))) a3 a4 a5 a6 a7 a8 a9 a10 a11 a12 a13 a14) S = .ok ((irange 0 p.toNat).map D.int, []) S := rng_ok (by simp) h.1 (by have := h.2.1; omega)
  have lc := more_lc (σ := []) (S := S) (a0 := a0) (a3 := a3) (a4 := a4) (a5 := a5) (a6 := a6) (a7 := a7) (a8 := a8) (a9 := a9) (a10 := a10) (a11 := a11) (a12 := a12) (a13 := a13) (a14 := a14) h
  have sz : (irange 0 p.toNat).length ≤ 16777216 := by rw [irange_len]; have := h.2.1; omega
  unfold Sl at rg ⊢
  unfold q__law_case_right_14
  simp only [eSet, eLc, rg, R.bind, wipeD, List.set_cons_succ, List.set_cons_zero, lc]
  rw [if_pos (by rw [sizeLine_val]; simpa using sz)]
  simp
theorem q15_ok (h : Wsh p ws) (k : Pk p ws (En p ws)) (σ : Ev) (h4 : σ[4]? = some (some (.lst ((En p ws).map oD)))) (h11 : σ[11]? = some (some (.lst (((irange 0 p.toNat).map fun q => cge ws q - p + q).map D.int)))) : q__law_case_right_15 false σ S = .nx σ S := by
  obtain ⟨m1, m2⟩ := leave_max k h.1 h.2.2.2
  have mx := fMaxI (xs := ((irange 0 p.toNat).map fun q => cge ws q - p + q) ++ [0]) (m := ((En p ws).count none : Nat)) (by
    rcases m2 with m2 | ⟨q, hq, e⟩
    · rw [m2]; simp
    · exact List.mem_append_left _ (List.mem_map.mpr ⟨q, hq, e⟩)) (fun y hy => by
    rcases List.mem_append.mp hy with hy | hy
    · obtain ⟨q, hq, rfl⟩ := List.mem_map.mp hy
      exact m1 q hq
    · rw [List.mem_singleton.mp hy]; omega) S
  have add : opAdd (.lst (((irange 0 p.toNat).map fun q => cge ws q - p + q).map D.int)) (.lst [.int 0]) S = some (.l ((((irange 0 p.toNat).map fun q => cge ws q - p + q) ++ [0]).map D.int)) := by
    simp only [opAdd, asL]
    rw [if_pos (by rw [sizeLine_val]; simp [irange_len]; have := h.2.1; omega), List.map_append]
    rfl
  have cn := countNone (En p ws) S
  unfold q__law_case_right_15
  simp only [eIfS, eTst, eBin, eMeth, eV, h4, h11, eB, eCons, eNil, eLst, eC, R.bind, R.st, isL, asL, Option.isSome_some, if_true, cn, fin_v, List.length_cons, List.length_nil]
  rw [if_pos (by rw [sizeLine_val]; decide)]
  simp only [fin_lF, R.bind, add, mx, fin_v, eqBne_int]
  simp
theorem somes_lc {i : Nat} {σ : Ev} (hi : i < σ.length) (xs : List (Option Int)) : lcGo [] (gN i) cYes (cBin false (opIsN true) (cV i) (cC .non)) σ (xs.map oD) S = some (xs.map fun a => D.bl a.isSome, S) := by
  have key := lc_pure (gs := []) (g := gN i) (tt := cYes) (elt := cBin false (opIsN true) (cV i) (cC .non)) (σ := σ) (st := S) rfl
    (f := fun x => .bl (!MP.isNon x)) (ds := xs.map oD) fun x _ => by
      have e : (σ.set i (some x))[i]? = some (some x) := List.getElem?_set_self hi
      exact ⟨_, gN_e _ _ _ _, rfl, by simp [e, opIsN, bne_t]⟩
  rw [key, List.map_map]
  congr 2
  apply List.map_congr_left
  intro a _
  cases a <;> rfl
end
end Lw


/-! M58i: a case comes out; the law. -/
namespace Lw
open PySem MP
open L2 (atI ixN atI_nat Key)

section
variable {S : Stt} {p : Int} {ws zs : List Int} {a0 a3 a4 a5 a6 a7 a8 a9 a10 a11 a12 a13 a14 : Option D}
theorem q21_ok (h : Wsh p ws) : q__law_case_right_21 false (Sl a0 (some (.int p)) (some (.lst (ws.map D.int))) a3 a4 (some (.lst ((stand p (En p ws)).map oD))) a6 a7 a8 a9 a10 a11 a12 a13 a14) S = .nx (Sl a0 (some (.int p)) (some (.lst (ws.map D.int))) a3 a4 (some (.lst ((stand p (En p ws)).map oD))) a6 a7 a8 a9 a10 a11 a12 (some (.lst ((stand p (En p ws)).map fun a => D.bl a.isSome))) a14) S := by
  have lc := somes_lc (S := S) (i := 18) (σ := Sl a0 (some (.int p)) (some (.lst (ws.map D.int))) a3 a4 (some (.lst ((stand p (En p ws)).map oD))) a6 a7 a8 a9 a10 a11 a12 a13 a14) (by simp) (stand p (En p ws))
  have sz := (lens h).2.1
  have s1 : (stand p (En p ws)).length ≤ 16777216 := by omega
  unfold Sl at lc ⊢
  unfold q__law_case_right_21
  simp [itemsQ, asT, itemsL, wipeD, lc, s1, sizeLine_val]
theorem q22_ok (h : Wsh p zs) (hl : zs.length < 99) (hE : Ends p (En p zs)) : q__law_case_right_22 false (Sl a0 (some (.int p)) (some (.lst (ws.map D.int))) a3 a4 a5 a6 a7 a8 a9 a10 a11 (some (.lst (zs.map D.int))) a13 a14) S = .nx (Sl a0 (some (.int p)) (some (.lst (ws.map D.int))) a3 a4 a5 a6 a7 a8 a9 a10 a11 (some (.lst (zs.map D.int))) a13 (some (.lst ((stand p (En p zs)).map fun a => D.bl a.isSome)))) S := by
  have lc := somes_lc (S := S) (i := 16) (σ := Sl a0 (some (.int p)) (some (.lst (ws.map D.int))) a3 a4 a5 a6 a7 a8 a9 a10 a11 (some (.lst (zs.map D.int))) a13 a14) (by simp) (stand p (En p zs))
  have e2 := standing_ok false S h hl hE
  have sz := (lens h).2.1
  have s1 : (stand p (En p zs)).length ≤ 16777216 := by omega
  unfold Sl at lc ⊢
  unfold q__law_case_right_22
  simp [e2, itemsQ, asT, itemsL, wipeD, lc, s1, sizeLine_val]
theorem taken_same (h : Wsh p ws) (hz : zs.Perm ws) : (stand p (En p zs)).map (fun a => D.bl a.isSome) = (stand p (En p ws)).map fun a => D.bl a.isSome := by
  unfold stand
  rw [List.map_map, List.map_map]
  apply List.map_congr_left
  intro q hq
  have hq := irange_mem.mp hq
  have := taken_perm (park_pk p ws) (park_pk p zs) h.2.2.2 hz (q := q) ⟨hq.1, by have := h.1; omega⟩
  simp only [Function.comp, idx_some, this]
theorem bls_py (st : Stt) (below : D → Option PyData) : ∀ xs : List (Option Int), pyFs st below (xs.map fun a => D.bl a.isSome) = some (xs.map fun a => PyData.bool a.isSome)
  | [] => rfl
  | a :: r => by simp [pyFs, pyF, bls_py st below r]
theorem flats_bool (n : Nat) : ∀ xs : List (Option Int), flats n (xs.map fun a => PyData.bool a.isSome) = true
  | [] => rfl
  | a :: r => by
    have : flat n (.bool a.isSome) = true := by cases n <;> rfl
    simp [flats, this, flats_bool n r]
abbrev PD4 (p : Int) (ws : List Int) : List PyData := [.list ((En p ws).map oP), .list ((stand p (En p ws)).map oP), barP ws (crowd p ws), .list ((lucky ws (En p ws)).map PyData.int)]
theorem told2_ok (h : Wsh p ws) (hl : ws.length < 99) (hE : Ends p (En p ws)) : ∃ (T G : _), (∀ a9, q__law_case_right_23 false (Sl a0 (some (.int p)) (some (.lst (ws.map D.int))) a3 a4 a5 a6 a7 a8 a9 a10 a11 a12 a13 a14) S = .nx (Sl a0 (some (.int p)) (some (.lst (ws.map D.int))) a3 a4 a5 a6 a7 a8 (some (.lst T)) a10 a11 a12 a13 a14) (S ++ G)) ∧ ∀ k, pyFs (S ++ G) (pyN (S ++ G) k) T = some (PD4 p ws) := by
  have e1 := fun st => parked_ok true st h hl
  have e2 := fun st => standing_ok true st h hl hE
  have e4 := fun st => pbarT_ok st h
  have e5 := fun st => luckyc_ok true st h hl
  cases hcr : crowd p ws with
  | none =>
    refine ⟨[.cel S.length, .cel (S.length + 1), .non, .cel (S.length + 2)], [some (.lst ((En p ws).map oD)), some (.lst ((stand p (En p ws)).map oD)), some (.lst ((lucky ws (En p ws)).map D.int))], fun a9 => ?_, fun k => ?_⟩
    · unfold q__law_case_right_23
      simp [e1, e2, e4, e5, hcr, barR, sizeLine_val]
    · obtain ⟨G, hG⟩ : ∃ G : Stt, G = S ++ [some (.lst ((En p ws).map oD)), some (.lst ((stand p (En p ws)).map oD)), some (.lst ((lucky ws (En p ws)).map D.int))] := ⟨_, rfl⟩
      have m1 : ((En p ws).map oD).mapM (pyN G k) = some ((En p ws).map oP) := mapM_oD k _ ()
      have m2 : ((stand p (En p ws)).map oD).mapM (pyN G k) = some ((stand p (En p ws)).map oP) := mapM_oD k _ ()
      have m3 : ((lucky ws (En p ws)).map D.int).mapM (pyN G k) = some ((lucky ws (En p ws)).map PyData.int) := mapM_int k _ ()
      rw [← hG]
      have c0 : G[S.length]? = some (some (.lst ((En p ws).map oD))) := by rw [hG]; exact g3_0 ..
      have c1 : G[S.length + 1]? = some (some (.lst ((stand p (En p ws)).map oD))) := by rw [hG]; exact g3_1 ..
      have c2 : G[S.length + 2]? = some (some (.lst ((lucky ws (En p ws)).map D.int))) := by rw [hG]; exact g3_2 ..
      simp only [pyFs, pyF, c0, c1, c2, m1, m2, m3, Option.map_some, PD4, hcr, barP]
  | some q =>
    refine ⟨[.cel S.length, .cel (S.length + 1), .tup [.int q, .cel (S.length + 2)], .cel (S.length + 3)], [some (.lst ((En p ws).map oD)), some (.lst ((stand p (En p ws)).map oD)), some (.lst ((cars ws q).map D.int)), some (.lst ((lucky ws (En p ws)).map D.int))], fun a9 => ?_, fun k => ?_⟩
    · unfold q__law_case_right_23
      simp [e1, e2, e4, e5, hcr, barR, sizeLine_val]
    · obtain ⟨G, hG⟩ : ∃ G : Stt, G = S ++ [some (.lst ((En p ws).map oD)), some (.lst ((stand p (En p ws)).map oD)), some (.lst ((cars ws q).map D.int)), some (.lst ((lucky ws (En p ws)).map D.int))] := ⟨_, rfl⟩
      have m1 : ((En p ws).map oD).mapM (pyN G k) = some ((En p ws).map oP) := mapM_oD k _ ()
      have m2 : ((stand p (En p ws)).map oD).mapM (pyN G k) = some ((stand p (En p ws)).map oP) := mapM_oD k _ ()
      have m3 : ((lucky ws (En p ws)).map D.int).mapM (pyN G k) = some ((lucky ws (En p ws)).map PyData.int) := mapM_int k _ ()
      have m4 : ((cars ws q).map D.int).mapM (pyN G k) = some ((cars ws q).map PyData.int) := mapM_int k _ ()
      rw [← hG]
      have c0 : G[S.length]? = some (some (.lst ((En p ws).map oD))) := by rw [hG]; exact g4_0 ..
      have c1 : G[S.length + 1]? = some (some (.lst ((stand p (En p ws)).map oD))) := by rw [hG]; exact g4_1 ..
      have c2 : G[S.length + 2]? = some (some (.lst ((cars ws q).map D.int))) := by rw [hG]; exact g4_2 ..
      have c3 : G[S.length + 3]? = some (some (.lst ((lucky ws (En p ws)).map D.int))) := by rw [hG]; exact g4_3 ..
      simp only [pyFs, pyF, c0, c1, c2, c3, m1, m2, m3, m4, Option.map_some, PD4, hcr, barP]
theorem q24_ok (h : Wsh p ws) {T : List D} (hT : ∀ k, pyFs S (pyN S k) T = some (PD4 p ws)) (σ : Ev) (h2 : σ[2]? = some (some (.lst (ws.map D.int)))) (h3 : σ[3]? = some (some (.str (PyData.shown (.list (ws.map PyData.int)))))) (h8 : σ[8]? = some (some (.lst (Due p ws)))) (h9 : σ[9]? = some (some (.lst T)))
    (h13 : σ[13]? = some (some (.lst ((stand p (En p ws)).map fun a => D.bl a.isSome)))) (h14 : σ[14]? = some (some (.lst ((stand p (En p ws)).map fun a => D.bl a.isSome)))) : q__law_case_right_24 false σ S = .rt (.bl true) S := by
  obtain ⟨l1, l2, l3, l4⟩ := lens h
  have fl : flat 11 (.list [.list ((stand p (En p ws)).map fun a => PyData.bool a.isSome), .list (PD4 p ws)]) = true := by
    simp [flat, flats, PD4, flats_oP, flats_int, flats_bool, l1, l2, l3, flat_bar h]
  have y1 : pyN S 6 (.lst [.lst ((stand p (En p ws)).map fun a => D.bl a.isSome), .lst [.lst ((En p ws).map oD), .lst ((stand p (En p ws)).map oD), barD ws (crowd p ws), .lst ((lucky ws (En p ws)).map D.int)]]) = some (.list [.list ((stand p (En p ws)).map fun a => PyData.bool a.isSome), .list (PD4 p ws)]) := by
    show pyF S (pyN S 5) _ = _
    simp only [pyF, pyFs, pyFs_oD, pyFs_int, barD_py, bls_py, Option.map_some]
  have y2 : pyN S 6 (.lst [.lst ((stand p (En p ws)).map fun a => D.bl a.isSome), .lst T]) = some (.list [.list ((stand p (En p ws)).map fun a => PyData.bool a.isSome), .list (PD4 p ws)]) := by
    show pyF S (pyN S 5) _ = _
    simp only [pyF, pyFs, bls_py, hT 5, Option.map_some]
  have ex := exact_ok 11 false y1 y2 fl
  have sl1 : opSl (.lst (Due p ws)) none (some 2) S = some (.l [.lst ((En p ws).map oD), .lst ((stand p (En p ws)).map oD)]) := rfl
  have sl2 : opSl (.lst (Due p ws)) (some 3) (some 5) S = some (.l [barD ws (crowd p ws), .lst ((lucky ws (En p ws)).map D.int)]) := rfl
  have add : opAdd (.lst [.lst ((En p ws).map oD), .lst ((stand p (En p ws)).map oD)]) (.lst [barD ws (crowd p ws), .lst ((lucky ws (En p ws)).map D.int)]) S = some (.l [.lst ((En p ws).map oD), .lst ((stand p (En p ws)).map oD), barD ws (crowd p ws), .lst ((lucky ws (En p ws)).map D.int)]) := by
    simp only [opAdd, asL]
    rw [if_pos (by rw [sizeLine_val]; simp)]
    rfl
  have rp := repr_ok (st := S) (py_ints S ws) (by have := h.2.2.1; omega) fun x hx => by
    have := h.2.2.2 x hx
    have := h.2.1
    omega
  have eq := eqB_str (strOk_list ws) S
  unfold q__law_case_right_24
  simp [h2, h3, h8, h9, h13, h14, sl1, sl2, add, ex, rp, eq, sizeLine_val]
end
theorem case_ok : CaseOk (f__law_case_right false) 20000 := by
  intro st n o N hn ho hN
  obtain ⟨p, o1, p1, p2, e0, u1⟩ := draw_ok false hn ho (by omega) (m := 13) (by decide) (by decide)
  obtain ⟨c, o2, c1, c2, e1, u2⟩ := draw_ok false (set_at (y := some o1) hn) u1 (by omega) (m := p + 4) (by omega) (by omega)
  rw [List.set_set] at e1
  obtain ⟨ws, o3, e2, hw, hlen, u3⟩ := wishes_ok (set_at (y := some o2) hn) u2 (by omega) (p := p) (c := c) ⟨p1, by omega⟩ ⟨c1, by omega⟩
  rw [List.set_set] at e2
  have hl : ws.length < 99 := by
    rcases hlen with ⟨_, rfl⟩ | ⟨_, h⟩
    · decide
    · omega
  have h : Wsh p ws := ⟨p1, by omega, by omega, hw⟩
  have k := park_pk p ws
  have hE : Ends p (En p ws) := k.isEnds fun w hm => (hw w hm).1
  have hc := k.noCrowd p1 hw
  obtain ⟨S, hS⟩ : ∃ S, S = st.set n (some o3) := ⟨_, rfl⟩
  have hnS : S[n]? = some (some o3) := by rw [hS]; exact set_at hn
  -- the first statements
  have s0 : q__law_case_right_0 false [some (.cel n), none, none, none, none, none, none, none, none, none, none, none, none, none, none, none, none, none, none] st = .nx (Sl (some (.cel n)) (some (.int p)) none none none none none none none none none none none none none) (st.set n (some o1)) := by
    unfold q__law_case_right_0
    simp [e0]
  have s1 : q__law_case_right_1 false (Sl (some (.cel n)) (some (.int p)) none none none none none none none none none none none none none) (st.set n (some o1)) = .nx (Sl (some (.cel n)) (some (.int p)) (some (.lst (ws.map D.int))) none none none none none none none none none none none none) S := by
    unfold q__law_case_right_1
    simp [opAdd, e1, e2, hS]
  have rp := repr_ok (st := S) (py_ints S ws) (by omega) fun x hx => by
    have := hw x hx
    omega
  have lp : f__law_parked false [.int p, .lst (ws.map D.int)] S = .ok (.lst ((En p ws).map oD)) S := by
    rw [lparked_ok false h.sml (show itemsQ S (.lst (ws.map D.int)) = some (ws.map D.int, []) from rfl) rfl]
    rfl
  have s2 : q__law_case_right_2 false (Sl (some (.cel n)) (some (.int p)) (some (.lst (ws.map D.int))) none none none none none none none none none none none none) S = .nx (Sl (some (.cel n)) (some (.int p)) (some (.lst (ws.map D.int))) (some (.str (PyData.shown (.list (ws.map PyData.int))))) (some (.lst ((En p ws).map oD))) none none none none none none none none none none) S := by
    unfold q__law_case_right_2
    simp [rp, lp, sizeLine_val]
  have s3 := q3_ok (S := S) (a0 := some (.cel n)) (a3 := some (.str (PyData.shown (.list (ws.map PyData.int))))) (a5 := none) (a6 := none) (a7 := none) (a8 := none) (a9 := none) (a10 := none) (a11 := none) (a12 := none) (a13 := none) (a14 := none) h
  have s4 := q4_ok (S := S) (a0 := some (.cel n)) (a3 := some (.str (PyData.shown (.list (ws.map PyData.int))))) (a5 := some (.lst ((stand p (En p ws)).map oD))) (a6 := none) (a7 := none) (a8 := none) (a9 := none) (a10 := none) (a11 := none) (a12 := none) (a13 := none) (a14 := none) h
  have s5 := q5_ok (S := S) (a0 := some (.cel n)) (a3 := some (.str (PyData.shown (.list (ws.map PyData.int))))) (a5 := some (.lst ((stand p (En p ws)).map oD))) (a6 := some (.lst ((lucky ws (En p ws)).map D.int))) (a7 := none) (a8 := none) (a9 := none) (a10 := none) (a11 := none) (a12 := none) (a13 := none) (a14 := none) h
  have s6 := q6_ok (S := S) (a0 := some (.cel n)) (a3 := some (.str (PyData.shown (.list (ws.map PyData.int))))) (a8 := none) (a9 := none) (a10 := none) (a11 := none) (a12 := none) (a13 := none) (a14 := none) h
  obtain ⟨T, T1, T2, G, G1, G2, s7, s8, s9, told⟩ := told_ok (S := S) (a0 := some (.cel n)) (a3 := some (.str (PyData.shown (.list (ws.map PyData.int))))) (a4 := some (.lst ((En p ws).map oD))) (a5 := some (.lst ((stand p (En p ws)).map oD))) (a6 := some (.lst ((lucky ws (En p ws)).map D.int))) (a7 := some (.int (far p ws))) (a8 := some (.lst (Due p ws))) (a10 := none) (a11 := none) (a12 := none) (a13 := none) (a14 := none) h hl hE hc
  have s7 := s7 none
  obtain ⟨N1, N2, s10, s11, s12⟩ := named_ok (S := S ++ G) (a0 := some (.cel n)) (a3 := some (.str (PyData.shown (.list (ws.map PyData.int))))) (a4 := some (.lst ((En p ws).map oD))) (a5 := some (.lst ((stand p (En p ws)).map oD))) (a6 := some (.lst ((lucky ws (En p ws)).map D.int))) (a7 := some (.int (far p ws))) (a8 := some (.lst (Due p ws))) (a9 := some (.lst T)) (a11 := none) (a12 := none) (a13 := none) (a14 := none) h hl hE hc
  have s10 := s10 none
  obtain ⟨SL, hSL⟩ : ∃ SL : Option D → Option D → Option D → Option D → Option D → Ev, SL = fun t m l x y => Sl (some (.cel n)) (some (.int p)) (some (.lst (ws.map D.int))) (some (.str (PyData.shown (.list (ws.map PyData.int))))) (some (.lst ((En p ws).map oD))) (some (.lst ((stand p (En p ws)).map oD))) (some (.lst ((lucky ws (En p ws)).map D.int))) (some (.int (far p ws))) (some (.lst (Due p ws))) t (some (.lst (Due p ws))) m l x y := ⟨_, rfl⟩
  have s13 := q13_ok (S := S ++ G) h hc told.py_ (Sl (some (.cel n)) (some (.int p)) (some (.lst (ws.map D.int))) (some (.str (PyData.shown (.list (ws.map PyData.int))))) (some (.lst ((En p ws).map oD))) (some (.lst ((stand p (En p ws)).map oD))) (some (.lst ((lucky ws (En p ws)).map D.int))) (some (.int (far p ws))) (some (.lst (Due p ws))) (some (.lst T)) (some (.lst (Due p ws))) none none none none) rfl rfl rfl
  have s14 := q14_ok (S := S ++ G) (a0 := some (.cel n)) (a3 := some (.str (PyData.shown (.list (ws.map PyData.int))))) (a4 := some (.lst ((En p ws).map oD))) (a5 := some (.lst ((stand p (En p ws)).map oD))) (a6 := some (.lst ((lucky ws (En p ws)).map D.int))) (a7 := some (.int (far p ws))) (a8 := some (.lst (Due p ws))) (a9 := some (.lst T)) (a10 := some (.lst (Due p ws))) (a11 := none) (a12 := none) (a13 := none) (a14 := none) h
  obtain ⟨M, hM⟩ : ∃ M, M = some (D.lst (((irange 0 p.toNat).map fun q => cge ws q - p + q).map D.int)) := ⟨_, rfl⟩
  have s15 := q15_ok (S := S ++ G) h k (Sl (some (.cel n)) (some (.int p)) (some (.lst (ws.map D.int))) (some (.str (PyData.shown (.list (ws.map PyData.int))))) (some (.lst ((En p ws).map oD))) (some (.lst ((stand p (En p ws)).map oD))) (some (.lst ((lucky ws (En p ws)).map D.int))) (some (.int (far p ws))) (some (.lst (Due p ws))) (some (.lst T)) (some (.lst (Due p ws))) (some (.lst (((irange 0 p.toNat).map fun q => cge ws q - p + q).map D.int))) none none none) rfl rfl
  rw [← hM] at s14 s15
  obtain ⟨H1, H2, H3, H4, mo⟩ := told.more
  obtain ⟨s16, s17, s18, s19⟩ := mo (Sl (some (.cel n)) (some (.int p)) (some (.lst (ws.map D.int))) (some (.str (PyData.shown (.list (ws.map PyData.int))))) (some (.lst ((En p ws).map oD))) (some (.lst ((stand p (En p ws)).map oD))) (some (.lst ((lucky ws (En p ws)).map D.int))) (some (.int (far p ws))) (some (.lst (Due p ws))) (some (.lst T)) (some (.lst (Due p ws))) M none none none) rfl
  have nS := old_lt hnS
  have hn4 : (S ++ H4)[n]? = some (some o3) := app_lt S H4 hnS
  obtain ⟨ys, o4, perm, e20, u4⟩ := shuf_ok false (st := S ++ H4) (d := .lst (ws.map D.int)) (xs := ws.map D.int) (gs := []) hn4 u3 (by rw [List.length_map]; omega) (by rw [List.length_map]; omega) rfl (fun _ _ => rfl) (old_ints _ _)
  obtain ⟨zs, rfl, pz⟩ := ints_of_perm perm
  rw [app_set_lt S H4 hnS] at e20
  have hz : Wsh p zs := ⟨p1, by omega, by rw [pz.length_eq]; omega, fun w hm => hw w (pz.mem_iff.mp hm)⟩
  have hlz : zs.length < 99 := by rw [pz.length_eq]; exact hl
  have hEz : Ends p (En p zs) := (park_pk p zs).isEnds fun w hm => (hz.2.2.2 w hm).1
  obtain ⟨S', hS'⟩ : ∃ S', S' = S.set n (some o4) ++ H4 := ⟨_, rfl⟩
  have s20 : q__law_case_right_20 false (Sl (some (.cel n)) (some (.int p)) (some (.lst (ws.map D.int))) (some (.str (PyData.shown (.list (ws.map PyData.int))))) (some (.lst ((En p ws).map oD))) (some (.lst ((stand p (En p ws)).map oD))) (some (.lst ((lucky ws (En p ws)).map D.int))) (some (.int (far p ws))) (some (.lst (Due p ws))) (some (.lst T)) (some (.lst (Due p ws))) M none none none) (S ++ H4) = .nx (Sl (some (.cel n)) (some (.int p)) (some (.lst (ws.map D.int))) (some (.str (PyData.shown (.list (ws.map PyData.int))))) (some (.lst ((En p ws).map oD))) (some (.lst ((stand p (En p ws)).map oD))) (some (.lst ((lucky ws (En p ws)).map D.int))) (some (.int (far p ws))) (some (.lst (Due p ws))) (some (.lst T)) (some (.lst (Due p ws))) M (some (.lst (zs.map D.int))) none none) S' := by
    unfold q__law_case_right_20
    simp [e20, hS']
  have s21 := q21_ok (S := S') (a0 := some (.cel n)) (a3 := some (.str (PyData.shown (.list (ws.map PyData.int))))) (a4 := some (.lst ((En p ws).map oD))) (a6 := some (.lst ((lucky ws (En p ws)).map D.int))) (a7 := some (.int (far p ws))) (a8 := some (.lst (Due p ws))) (a9 := some (.lst T)) (a10 := some (.lst (Due p ws))) (a11 := M) (a12 := some (.lst (zs.map D.int))) (a13 := none) (a14 := none) h
  have s22 := q22_ok (S := S') (ws := ws) (a0 := some (.cel n)) (a3 := some (.str (PyData.shown (.list (ws.map PyData.int))))) (a4 := some (.lst ((En p ws).map oD))) (a5 := some (.lst ((stand p (En p ws)).map oD))) (a6 := some (.lst ((lucky ws (En p ws)).map D.int))) (a7 := some (.int (far p ws))) (a8 := some (.lst (Due p ws))) (a9 := some (.lst T)) (a10 := some (.lst (Due p ws))) (a11 := M) (a13 := some (.lst ((stand p (En p ws)).map fun a => D.bl a.isSome))) (a14 := none) hz hlz hEz
  rw [taken_same h pz] at s22
  obtain ⟨U, K, s23, hU⟩ := told2_ok (S := S') (a0 := some (.cel n)) (a3 := some (.str (PyData.shown (.list (ws.map PyData.int))))) (a4 := some (.lst ((En p ws).map oD))) (a5 := some (.lst ((stand p (En p ws)).map oD))) (a6 := some (.lst ((lucky ws (En p ws)).map D.int))) (a7 := some (.int (far p ws))) (a8 := some (.lst (Due p ws))) (a10 := some (.lst (Due p ws))) (a11 := M) (a12 := some (.lst (zs.map D.int))) (a13 := some (.lst ((stand p (En p ws)).map fun a => D.bl a.isSome))) (a14 := some (.lst ((stand p (En p ws)).map fun a => D.bl a.isSome))) h hl hE
  have s23 := s23 (some (.lst T))
  have s24 := q24_ok (S := S' ++ K) h hU (Sl (some (.cel n)) (some (.int p)) (some (.lst (ws.map D.int))) (some (.str (PyData.shown (.list (ws.map PyData.int))))) (some (.lst ((En p ws).map oD))) (some (.lst ((stand p (En p ws)).map oD))) (some (.lst ((lucky ws (En p ws)).map D.int))) (some (.int (far p ws))) (some (.lst (Due p ws))) (some (.lst U)) (some (.lst (Due p ws))) M (some (.lst (zs.map D.int))) (some (.lst ((stand p (En p ws)).map fun a => D.bl a.isSome))) (some (.lst ((stand p (En p ws)).map fun a => D.bl a.isSome)))) rfl rfl rfl rfl rfl rfl
  refine ⟨o4, ?_, u4.mono (by rw [List.length_map]; omega)⟩
  have q : f__law_case_right false [.cel n] st = okO (outD (pkB false) st (.bl true) (S' ++ K)) := by
    have start : ([D.cel n].map some ++ List.replicate (19 - 1) none : Ev) = [some (.cel n), none, none, none, none, none, none, none, none, none, none, none, none, none, none, none, none, none, none] := rfl
    simp only [f__law_case_right, fnS, start]
    rw [if_pos (show [D.cel n].length = 1 from rfl)]
    unfold b__law_case_right
    simp only [eSeq, s0, s1, s2, s3, s4, s5, s6, s7, s8, s9, s10, s11, s12, s13, s14, ← hM, s15, s16, s17, s18, s19, s20, s21, s22, s23, s24]
  rw [q, hS', hS, List.set_set, List.append_assoc]
  exact out_vk _ rfl (u4.kp hn)
theorem law_true (ns : List Int) (_ : ns.length ≤ 63) (_ : ∀ z ∈ ns, Builtin.Int.intBits z ≤ 1048576) : ∃ st, f_law false [.scr ns] [] = .ok (.bl true) st := by
  obtain ⟨os, p1, p2, e0⟩ := loop_ok (rest := [none, none, none, none]) (p1 := none) (p2 := none) (ns := ns) (few := 3) case_ok (by omega) (by omega) (by omega) rfl
  obtain ⟨S, hS⟩ : ∃ S, S = pursesAt os := ⟨_, rfl⟩
  rw [← hS] at e0
  have w1 : Wsh 5 [2, 0, 2, 0, 3] := ⟨by decide, by decide, by decide, by decide⟩
  have w2 : Wsh 4 [3, 1, 3, 1] := ⟨by decide, by decide, by decide, by decide⟩
  have w3 : Wsh 2 [] := ⟨by decide, by decide, by decide, by decide⟩
  have w4 : Wsh 0 [] := ⟨by decide, by decide, by decide, by decide⟩
  have en : ∀ {p ws}, Wsh p ws → Ends p (En p ws) := fun {p ws} h => (park_pk p ws).isEnds fun w hm => (h.2.2.2 w hm).1
  have P1 : parkF 5 [] [2, 0, 2, 0, 3] = [some 2, some 0, some 3, some 1, some 4] := by decide +kernel
  have P2 : parkF 4 [] [3, 1, 3, 1] = [some 3, some 1, none, some 2] := by decide +kernel
  have P3 : parkF 2 [] [] = [] := rfl
  have P4 : parkF 0 [] [] = [] := rfl
  have S1 : stand 5 [some 2, some 0, some 3, some 1, some 4] = [some 1, some 3, some 0, some 2, some 4] := by decide +kernel
  have S3 : stand 2 [] = [none, none] := by decide +kernel
  have C2 : crowd 4 [3, 1, 3, 1] = some 1 := by decide +kernel
  have C4 : crowd 0 [] = none := by decide +kernel
  have B2 : cars [3, 1, 3, 1] 1 = [0, 1, 2, 3] := by decide +kernel
  have a1 := parked_ok false S w1 (by decide)
  have a2 := standing_ok false S w1 (by decide) (en w1)
  have a3 := parked_ok false S w2 (by decide)
  have a4 := pbarF_ok S w2
  have a5 := standing_ok false S w3 (by decide) (en w3)
  have a6 := parked_ok false S w4 (by decide)
  have a7 := none_leaves_ok false S w4
  have a8 := pbarF_ok S w4
  rw [P1] at a1 a2
  rw [S1] at a2
  rw [P2] at a3
  rw [P3, S3] at a5
  rw [P4] at a6
  rw [C2] at a4
  rw [C4] at a7 a8
  simp only [barD, B2, fin_lF, List.map_cons, List.map_nil, oD, Option.isNone_none] at a1 a2 a3 a4 a5 a6 a7 a8
  obtain ⟨L, hL⟩ : ∃ L : D, L = .lst [.lst [.int 2, .int 0, .int 3, .int 1, .int 4], .lst [.int 1, .int 3, .int 0, .int 2, .int 4], .lst [.int 3, .int 1, .non, .int 2], .tup [.int 1, .lst [.int 0, .int 1, .int 2, .int 3]], .lst [.non, .non]] := ⟨_, rfl⟩
  have x1 : f__law_exact 12 false [L, L] S = .ok (.bl true) S := by
    rw [hL]
    exact exact_ok 11 false (k := 6) (k' := 6) rfl rfl rfl
  have x2 : f__law_exact 12 false [.lst [.lst [], .bl true, .non], .lst [.lst [], .bl true, .non]] S = .ok (.bl true) S := exact_ok 11 false (k := 6) (k' := 6) rfl rfl rfl
  rw [hL] at x1
  refine ⟨[], ?_⟩
  have q : f_law false [.scr ns] [] = okO (outD (pkB false) [] (.bl true) S) := by
    simp [f_law, b_law, fnS, e0, a1, a2, a3, a4, a5, a6, a7, a8, x1, x2, opAdd, asL, sizeLine_val, -eFor]
  rw [q]
  exact out_vk (st := []) (st1 := []) S rfl (Kp.refl [])
end Lw


namespace Lw
open PySem PySem.Spec PyProof.Rows L2 MP
def topS (i : Nat) : Stmt := PySem.Challenge.pw_neverbehind_k58_whole_who_parks_where.main.body.getD i (.Pass ⟨0, 0, 0, 0⟩)
abbrev s__law_purse : Stmt := topS 23
theorem sc__law_purse : FnScope ["script", "at", "seed"] ["script", "at"] (defScope s__law_purse) := ⟨rfl, rfl, rfl, by decide +kernel, rfl, by decide +kernel, by decide +kernel⟩
abbrev s__law_purses : Stmt := topS 26
theorem sc__law_purses : FnScope ["script", "few", "at"] ["script", "few"] (defScope s__law_purses) := ⟨rfl, rfl, rfl, by decide +kernel, rfl, by decide +kernel, by decide +kernel⟩
abbrev s_is_whole : Stmt := topS 1
theorem sc_is_whole : FnScope ["value"] ["value"] (defScope s_is_whole) := ⟨rfl, rfl, rfl, by decide +kernel, rfl, by decide +kernel, by decide +kernel⟩
abbrev s_is_count : Stmt := topS 2
theorem sc_is_count : FnScope ["value", "least"] ["value", "least"] (defScope s_is_count) := ⟨rfl, rfl, rfl, by decide +kernel, rfl, by decide +kernel, by decide +kernel⟩
abbrev s_check_places : Stmt := topS 10
theorem sc_check_places : FnScope ["places"] ["places"] (defScope s_check_places) := ⟨rfl, rfl, rfl, by decide +kernel, rfl, by decide +kernel, by decide +kernel⟩
abbrev s_are_wishes : Stmt := topS 9
theorem sc_are_wishes : FnScope ["places", "value", "wish"] ["places", "value"] (defScope s_are_wishes) := ⟨rfl, rfl, rfl, by decide +kernel, rfl, by decide +kernel, by decide +kernel⟩
abbrev s_check_wishes : Stmt := topS 11
theorem sc_check_wishes : FnScope ["places", "wishes"] ["places", "wishes"] (defScope s_check_wishes) := ⟨rfl, rfl, rfl, by decide +kernel, rfl, by decide +kernel, by decide +kernel⟩
abbrev s_parked_there : Stmt := topS 12
theorem sc_parked_there : FnScope ["places", "wishes", "found", "taken", "wish", "place"] ["places", "wishes"] (defScope s_parked_there) := ⟨rfl, rfl, rfl, by decide +kernel, rfl, by decide +kernel, by decide +kernel⟩
abbrev s_parked : Stmt := topS 13
theorem sc_parked : FnScope ["places", "wishes"] ["places", "wishes"] (defScope s_parked) := ⟨rfl, rfl, rfl, by decide +kernel, rfl, by decide +kernel, by decide +kernel⟩
abbrev s_standing_there : Stmt := topS 14
theorem sc_standing_there : FnScope ["places", "wishes", "found", "car", "place"] ["places", "wishes"] (defScope s_standing_there) := ⟨rfl, rfl, rfl, by decide +kernel, rfl, by decide +kernel, by decide +kernel⟩
abbrev s_standing : Stmt := topS 15
theorem sc_standing : FnScope ["places", "wishes"] ["places", "wishes"] (defScope s_standing) := ⟨rfl, rfl, rfl, by decide +kernel, rfl, by decide +kernel, by decide +kernel⟩
abbrev s_first_crowded : Stmt := topS 16
theorem sc_first_crowded : FnScope ["places", "wishes", "left", "counts", "wish", "place"] ["places", "wishes"] (defScope s_first_crowded) := ⟨rfl, rfl, rfl, by decide +kernel, rfl, by decide +kernel, by decide +kernel⟩
abbrev s_does_none_leave : Stmt := topS 17
theorem sc_does_none_leave : FnScope ["places", "wishes"] ["places", "wishes"] (defScope s_does_none_leave) := ⟨rfl, rfl, rfl, by decide +kernel, rfl, by decide +kernel, by decide +kernel⟩
abbrev s_park_bar : Stmt := topS 18
theorem sc_park_bar : FnScope ["places", "wishes", "place", "car", "wish"] ["places", "wishes"] (defScope s_park_bar) := ⟨rfl, rfl, rfl, by decide +kernel, rfl, by decide +kernel, by decide +kernel⟩
abbrev s__law_exact : Stmt := topS 29
theorem sc__law_exact : FnScope ["mine", "theirs", "is_list", "is_like", "a", "b"] ["mine", "theirs"] (defScope s__law_exact) := ⟨rfl, rfl, rfl, by decide +kernel, rfl, by decide +kernel, by decide +kernel⟩
abbrev s__law_mixed : Stmt := topS 24
theorem sc__law_mixed : FnScope ["seed", "spin", "at", "mixed"] ["seed", "spin", "at"] (defScope s__law_mixed) := ⟨rfl, rfl, rfl, by decide +kernel, rfl, by decide +kernel, by decide +kernel⟩
abbrev s__law_draw : Stmt := topS 25
theorem sc__law_draw : FnScope ["purse", "many", "drawn", "found", "piece"] ["purse", "many"] (defScope s__law_draw) := ⟨rfl, rfl, rfl, by decide +kernel, rfl, by decide +kernel, by decide +kernel⟩
abbrev s__law_shuffled : Stmt := topS 28
theorem sc__law_shuffled : FnScope ["purse", "some", "found", "item"] ["purse", "some"] (defScope s__law_shuffled) := ⟨rfl, rfl, rfl, by decide +kernel, rfl, by decide +kernel, by decide +kernel⟩
abbrev s__law_parked : Stmt := topS 30
theorem sc__law_parked : FnScope ["places", "wishes", "found", "wish", "left", "place"] ["places", "wishes"] (defScope s__law_parked) := ⟨rfl, rfl, rfl, by decide +kernel, rfl, by decide +kernel, by decide +kernel⟩
abbrev s__law_one_of : Stmt := topS 27
theorem sc__law_one_of : FnScope ["purse", "some"] ["purse", "some"] (defScope s__law_one_of) := ⟨rfl, rfl, rfl, by decide +kernel, rfl, by decide +kernel, by decide +kernel⟩
abbrev s__law_wishes : Stmt := topS 31
theorem sc__law_wishes : FnScope ["purse", "places", "cars", "way", "found", "car", "left", "place"] ["purse", "places", "cars"] (defScope s__law_wishes) := ⟨rfl, rfl, rfl, by decide +kernel, rfl, by decide +kernel, by decide +kernel⟩
abbrev s__law_bar : Stmt := topS 32
theorem sc__law_bar : FnScope ["places", "wishes", "place", "cars", "car", "wish"] ["places", "wishes"] (defScope s__law_bar) := ⟨rfl, rfl, rfl, by decide +kernel, rfl, by decide +kernel, by decide +kernel⟩
abbrev s_lucky_cars : Stmt := topS 19
theorem sc_lucky_cars : FnScope ["places", "wishes", "ends", "car", "wish"] ["places", "wishes"] (defScope s_lucky_cars) := ⟨rfl, rfl, rfl, by decide +kernel, rfl, by decide +kernel, by decide +kernel⟩
abbrev s_driven_there : Stmt := topS 20
theorem sc_driven_there : FnScope ["places", "wishes", "ends", "place", "wish"] ["places", "wishes"] (defScope s_driven_there) := ⟨rfl, rfl, rfl, by decide +kernel, rfl, by decide +kernel, by decide +kernel⟩
abbrev s_driven : Stmt := topS 21
theorem sc_driven : FnScope ["places", "wishes"] ["places", "wishes"] (defScope s_driven) := ⟨rfl, rfl, rfl, by decide +kernel, rfl, by decide +kernel, by decide +kernel⟩
abbrev s__law_case_right : Stmt := topS 33
theorem sc__law_case_right : FnScope ["purse", "places", "wishes", "kept", "ends", "stand", "lucky", "far", "due", "told", "named", "more", "late", "taken", "again", "place", "car", "wish", "end"] ["purse"] (defScope s__law_case_right) := ⟨rfl, rfl, rfl, by decide +kernel, rfl, by decide +kernel, by decide +kernel⟩
abbrev s_law : Stmt := topS 34
theorem sc_law : FnScope ["script", "purse", "spin", "wishes", "told", "due", "bare"] ["script"] (defScope s_law) := ⟨rfl, rfl, rfl, by decide +kernel, rfl, by decide +kernel, by decide +kernel⟩
/-- what stands behind the top -/
structure Gm (K : PySem.W.Frag) (mg : Str → Option Value) where
  _law_purse : DF K mg "_law_purse" s__law_purse []
  _law_purses : DF K mg "_law_purses" s__law_purses []
  is_whole : DF K mg "is_whole" s_is_whole []
  is_count : DF K mg "is_count" s_is_count [V.int 0]
  check_places : DF K mg "check_places" s_check_places []
  are_wishes : DF K mg "are_wishes" s_are_wishes []
  check_wishes : DF K mg "check_wishes" s_check_wishes []
  parked_there : DF K mg "parked_there" s_parked_there []
  parked : DF K mg "parked" s_parked []
  standing_there : DF K mg "standing_there" s_standing_there []
  standing : DF K mg "standing" s_standing []
  first_crowded : DF K mg "first_crowded" s_first_crowded []
  does_none_leave : DF K mg "does_none_leave" s_does_none_leave []
  park_bar : DF K mg "park_bar" s_park_bar []
  _law_exact : DF K mg "_law_exact" s__law_exact []
  _law_mixed : DF K mg "_law_mixed" s__law_mixed []
  _law_draw : DF K mg "_law_draw" s__law_draw []
  _law_shuffled : DF K mg "_law_shuffled" s__law_shuffled []
  _law_parked : DF K mg "_law_parked" s__law_parked []
  _law_one_of : DF K mg "_law_one_of" s__law_one_of []
  _law_wishes : DF K mg "_law_wishes" s__law_wishes []
  _law_bar : DF K mg "_law_bar" s__law_bar []
  lucky_cars : DF K mg "lucky_cars" s_lucky_cars []
  driven_there : DF K mg "driven_there" s_driven_there []
  driven : DF K mg "driven" s_driven []
  _law_case_right : DF K mg "_law_case_right" s__law_case_right []
  law : DF K mg "law" s_law []
  z_all : mg "all" = none
  z_bool : mg "bool" = none
  z_enumerate : mg "enumerate" = none
  z_int : mg "int" = none
  z_isinstance : mg "isinstance" = none
  z_len : mg "len" = none
  z_list : mg "list" = none
  z_max : mg "max" = none
  z_min : mg "min" = none
  z_range : mg "range" = none
  z_repr : mg "repr" = none
  z_str : mg "str" = none
  z_sum : mg "sum" = none
  z_tuple : mg "tuple" = none
  z_zip : mg "zip" = none
section
variable {P : Program} {w : World} {K : PySem.W.Frag} {mg : Str → Option Value} {base : Heap} {fa : Nat → Addr}
theorem bi__law_purse (G : Gm K mg) : Binds K G._law_purse.fd ["script", "at"] [] := G._law_purse.F.bindsN fun _ _ _ _ _ _ us hl => match us, hl with | [_, _], _ => rfl
theorem bi__law_purses (G : Gm K mg) : Binds K G._law_purses.fd ["script", "few"] [] := G._law_purses.F.bindsN fun _ _ _ _ _ _ us hl => match us, hl with | [_, _], _ => rfl
theorem bi_is_whole (G : Gm K mg) : Binds K G.is_whole.fd ["value"] [] := G.is_whole.F.bindsN fun _ _ _ _ _ _ us hl => match us, hl with | [_], _ => rfl
theorem bi_check_places (G : Gm K mg) : Binds K G.check_places.fd ["places"] [] := G.check_places.F.bindsN fun _ _ _ _ _ _ us hl => match us, hl with | [_], _ => rfl
theorem bi_are_wishes (G : Gm K mg) : Binds K G.are_wishes.fd ["places", "value"] [] := G.are_wishes.F.bindsN fun _ _ _ _ _ _ us hl => match us, hl with | [_, _], _ => rfl
theorem bi_check_wishes (G : Gm K mg) : Binds K G.check_wishes.fd ["places", "wishes"] [] := G.check_wishes.F.bindsN fun _ _ _ _ _ _ us hl => match us, hl with | [_, _], _ => rfl
theorem bi_parked_there (G : Gm K mg) : Binds K G.parked_there.fd ["places", "wishes"] [] := G.parked_there.F.bindsN fun _ _ _ _ _ _ us hl => match us, hl with | [_, _], _ => rfl
theorem bi_parked (G : Gm K mg) : Binds K G.parked.fd ["places", "wishes"] [] := G.parked.F.bindsN fun _ _ _ _ _ _ us hl => match us, hl with | [_, _], _ => rfl
theorem bi_standing_there (G : Gm K mg) : Binds K G.standing_there.fd ["places", "wishes"] [] := G.standing_there.F.bindsN fun _ _ _ _ _ _ us hl => match us, hl with | [_, _], _ => rfl
theorem bi_standing (G : Gm K mg) : Binds K G.standing.fd ["places", "wishes"] [] := G.standing.F.bindsN fun _ _ _ _ _ _ us hl => match us, hl with | [_, _], _ => rfl
theorem bi_first_crowded (G : Gm K mg) : Binds K G.first_crowded.fd ["places", "wishes"] [] := G.first_crowded.F.bindsN fun _ _ _ _ _ _ us hl => match us, hl with | [_, _], _ => rfl
theorem bi_does_none_leave (G : Gm K mg) : Binds K G.does_none_leave.fd ["places", "wishes"] [] := G.does_none_leave.F.bindsN fun _ _ _ _ _ _ us hl => match us, hl with | [_, _], _ => rfl
theorem bi_park_bar (G : Gm K mg) : Binds K G.park_bar.fd ["places", "wishes"] [] := G.park_bar.F.bindsN fun _ _ _ _ _ _ us hl => match us, hl with | [_, _], _ => rfl
theorem bi__law_exact (G : Gm K mg) : Binds K G._law_exact.fd ["mine", "theirs"] [] := G._law_exact.F.bindsN fun _ _ _ _ _ _ us hl => match us, hl with | [_, _], _ => rfl
theorem bi__law_mixed (G : Gm K mg) : Binds K G._law_mixed.fd ["seed", "spin", "at"] [] := G._law_mixed.F.bindsN fun _ _ _ _ _ _ us hl => match us, hl with | [_, _, _], _ => rfl
theorem bi__law_draw (G : Gm K mg) : Binds K G._law_draw.fd ["purse", "many"] [] := G._law_draw.F.bindsN fun _ _ _ _ _ _ us hl => match us, hl with | [_, _], _ => rfl
theorem bi__law_shuffled (G : Gm K mg) : Binds K G._law_shuffled.fd ["purse", "some"] [] := G._law_shuffled.F.bindsN fun _ _ _ _ _ _ us hl => match us, hl with | [_, _], _ => rfl
theorem bi__law_parked (G : Gm K mg) : Binds K G._law_parked.fd ["places", "wishes"] [] := G._law_parked.F.bindsN fun _ _ _ _ _ _ us hl => match us, hl with | [_, _], _ => rfl
theorem bi__law_one_of (G : Gm K mg) : Binds K G._law_one_of.fd ["purse", "some"] [] := G._law_one_of.F.bindsN fun _ _ _ _ _ _ us hl => match us, hl with | [_, _], _ => rfl
theorem bi__law_wishes (G : Gm K mg) : Binds K G._law_wishes.fd ["purse", "places", "cars"] [] := G._law_wishes.F.bindsN fun _ _ _ _ _ _ us hl => match us, hl with | [_, _, _], _ => rfl
theorem bi__law_bar (G : Gm K mg) : Binds K G._law_bar.fd ["places", "wishes"] [] := G._law_bar.F.bindsN fun _ _ _ _ _ _ us hl => match us, hl with | [_, _], _ => rfl
theorem bi_lucky_cars (G : Gm K mg) : Binds K G.lucky_cars.fd ["places", "wishes"] [] := G.lucky_cars.F.bindsN fun _ _ _ _ _ _ us hl => match us, hl with | [_, _], _ => rfl
theorem bi_driven_there (G : Gm K mg) : Binds K G.driven_there.fd ["places", "wishes"] [] := G.driven_there.F.bindsN fun _ _ _ _ _ _ us hl => match us, hl with | [_, _], _ => rfl
theorem bi_driven (G : Gm K mg) : Binds K G.driven.fd ["places", "wishes"] [] := G.driven.F.bindsN fun _ _ _ _ _ _ us hl => match us, hl with | [_, _], _ => rfl
theorem bi__law_case_right (G : Gm K mg) : Binds K G._law_case_right.fd ["purse"] [] := G._law_case_right.F.bindsN fun _ _ _ _ _ _ us hl => match us, hl with | [_], _ => rfl
theorem bi_law (G : Gm K mg) : Binds K G.law.fd ["script"] [] := G.law.F.bindsN fun _ _ _ _ _ _ us hl => match us, hl with | [_], _ => rfl
theorem bd_is_count_1 (G : Gm K mg) : ∃ ds, Vals [V.int 0] ds ∧ Binds K G.is_count.fd ["value", "least"] ds := G.is_count.F.binds1 1 0 (by simp) rfl fun _ _ _ _ _ _ _ us its hl hi => match us, its, hl, hi with | [_], [_], _, _ => ⟨_, rfl, rfl⟩
theorem kw_does_none_leave_wishes_places (G : Gm K mg) : KwB K G.does_none_leave.fd ["places", "wishes"] ["wishes", "places"] [1, 0] := kwF G.does_none_leave.F fun _ _ _ _ _ _ ws hl => match ws, hl with | [_, _], _ => rfl
theorem kw_driven_wishes_places (G : Gm K mg) : KwB K G.driven.fd ["places", "wishes"] ["wishes", "places"] [1, 0] := kwF G.driven.F fun _ _ _ _ _ _ ws hl => match ws, hl with | [_, _], _ => rfl
theorem kw_lucky_cars_wishes_places (G : Gm K mg) : KwB K G.lucky_cars.fd ["places", "wishes"] ["wishes", "places"] [1, 0] := kwF G.lucky_cars.F fun _ _ _ _ _ _ ws hl => match ws, hl with | [_, _], _ => rfl
theorem kw_park_bar_wishes_places (G : Gm K mg) : KwB K G.park_bar.fd ["places", "wishes"] ["wishes", "places"] [1, 0] := kwF G.park_bar.F fun _ _ _ _ _ _ ws hl => match ws, hl with | [_, _], _ => rfl
theorem kw_parked_wishes_places (G : Gm K mg) : KwB K G.parked.fd ["places", "wishes"] ["wishes", "places"] [1, 0] := kwF G.parked.F fun _ _ _ _ _ _ ws hl => match ws, hl with | [_, _], _ => rfl
theorem kw_standing_wishes_places (G : Gm K mg) : KwB K G.standing.fd ["places", "wishes"] ["wishes", "places"] [1, 0] := kwF G.standing.F fun _ _ _ _ _ _ ws hl => match ws, hl with | [_, _], _ => rfl
theorem ok__law_purse (G : Gm K mg) (kp : Bool) : FnG P w K mg base 1 G._law_purse.f G._law_purse.fd ["script", "at"] (spS ⟨fa, K⟩ (f__law_purse kp) ["script", "at"].length) := by
  have S := sc__law_purse
  exact (ok_def (k := 0) G._law_purse.F S fun _ _ _ _ _ _ hr => by
    exact (bCons (sSet S.nd rfl (.inl rfl) (sB (bSum rfl) rfl G.z_sum rfl (by decide) rfl (sCons (sSl rfl (sV 0 rfl (.inl rfl) rfl rfl) (sP1 (sV 1 rfl (.inl rfl) rfl rfl)) (sP1 (sBin oAdd (sV 1 rfl (.inl rfl) rfl rfl) sInt))) sNil rfl) rfl rfl) rfl (.inl rfl))
    (bOne (sRet (sLst (sCons (sBin oMod (sBT tInt rfl G.z_int rfl (by decide) rfl (sCons (sB (bMax rfl) rfl G.z_max rfl (by decide) rfl (sCons (sBin oSub (sV 2 rfl (.inl rfl) rfl rfl) (sBin oPow sInt sInt)) (sCons sInt sNil rfl) rfl) rfl rfl) sNil rfl) rfl rfl) (sBin oPow (sBin oPow sInt sInt) sInt)) (sCons (sBin oMod (sBT tInt rfl G.z_int rfl (by decide) rfl (sCons (sV 2 rfl (.inl rfl) rfl rfl) sNil rfl) rfl rfl) sInt) (sCons sInt (sCons (sV 1 rfl (.inl rfl) rfl rfl) sNil rfl) rfl) rfl) rfl))))))
theorem ok__law_purses (G : Gm K mg) (kp : Bool) : FnG P w K mg base 2 G._law_purses.f G._law_purses.fd ["script", "few"] (spS ⟨fa, K⟩ (f__law_purses kp) ["script", "few"].length) := by
  have S := sc__law_purses
  exact (ok_def (k := 1) G._law_purses.F S fun _ _ _ _ _ _ hr => by
    exact (bOne (sRet (sLc (own := [("at", 2)]) rfl S.nd (jR1 rfl G.z_range (sB (bMax rfl) rfl G.z_max rfl (by decide) rfl (sCons sInt (sCons (sB (bMin rfl) rfl G.z_min rfl (by decide) rfl (sCons (sV 1 rfl (.inl rfl) rfl rfl) (sCons (sB (bLen rfl) rfl G.z_len rfl (by decide) rfl (sCons (sV 0 rfl (.inr (.inl rfl)) rfl rfl) sNil rfl) rfl rfl) sNil rfl) rfl) rfl rfl) sNil rfl) rfl) rfl rfl) rfl rfl) (blkOk_by rfl) (by decide) (fun _ _ _ _ _ => (tgN S.nd rfl (.inl rfl) (.inr rfl))) (fun _ _ _ _ _ => pts0) (fun _ _ _ _ _ => (sCall ((ok__law_purse G kp).mono (by decide)) hr rfl G._law_purse.m G._law_purse.F.kp (bi__law_purse G) .nil (fun _ => .nil) takes0 rfl (sCons (sV 0 rfl (.inr (.inl rfl)) rfl rfl) (sCons (sV 2 rfl (.inl rfl) rfl rfl) sNil rfl) rfl) (lenC (lenC lenN)) rfl rfl rfl)) (fun _ => rfl)))))
theorem ok_is_whole (G : Gm K mg) (kp : Bool) : FnG P w K mg base 1 G.is_whole.f G.is_whole.fd ["value"] (spS ⟨fa, K⟩ (f_is_whole kp) ["value"].length) := by
  have S := sc_is_whole
  exact (ok_def (k := 0) G.is_whole.F S fun _ _ _ _ _ _ hr => by
    exact (bOne (sRet (sAndV (sB (bIsi) rfl G.z_isinstance rfl (by decide) rfl (sCons (sV 0 rfl (.inl rfl) rfl rfl) (sCons (sTy (t := .int) rfl G.z_int rfl (by decide) rfl) sNil rfl) rfl) rfl rfl) (sOne (sNotV (sB (bIsi) rfl G.z_isinstance rfl (by decide) rfl (sCons (sV 0 rfl (.inl rfl) rfl rfl) (sCons (sTy (t := .bool) rfl G.z_bool rfl (by decide) rfl) sNil rfl) rfl) rfl rfl)))))))
theorem ok_is_count (G : Gm K mg) (kp : Bool) : FnG P w K mg base 2 G.is_count.f G.is_count.fd ["value", "least"] (spS ⟨fa, K⟩ (f_is_count kp) ["value", "least"].length) := by
  have S := sc_is_count
  exact (ok_def (k := 1) G.is_count.F S fun _ _ _ _ _ _ hr => by
    exact (bOne (sRet (sAndV (sCall ((ok_is_whole G false).mono (by decide)) hr rfl G.is_whole.m G.is_whole.F.kp (bi_is_whole G) .nil (fun _ => .nil) takes_cx rfl (sCons (sV 0 rfl (.inl rfl) rfl rfl) sNil rfl) (lenC lenN) rfl rfl rfl) (sOne (sCmp oGe rfl (sV 0 rfl (.inl rfl) rfl rfl) (sB (bMax rfl) rfl G.z_max rfl (by decide) rfl (sCons (sV 1 rfl (.inl rfl) rfl rfl) (sCons sInt sNil rfl) rfl) rfl rfl)))))))
theorem ok_check_places (G : Gm K mg) (kp : Bool) : FnG P w K mg base 3 G.check_places.f G.check_places.fd ["places"] (spS ⟨fa, K⟩ (f_check_places kp) ["places"].length) := by
  have S := sc_check_places
  exact (ok_def (k := 2) G.check_places.F S fun _ _ _ _ _ _ hr => by
    exact (bOne (sIfS (sNotT (sTst (sCall ((ok_is_count G false).mono (by decide)) hr rfl G.is_count.m G.is_count.F.kp (bd_is_count_1 G).choose_spec.2 (bd_is_count_1 G).choose_spec.1 (fun _ => .one (rep_i _)) takes_cx rfl (sCons (sV 0 rfl (.inl rfl) rfl rfl) sNil rfl) (lenC lenN) rfl rfl rfl) (fun _ => rfl)))
    (bOne sNever)
    bNil)))
theorem ok_are_wishes (G : Gm K mg) (kp : Bool) : FnG P w K mg base 3 G.are_wishes.f G.are_wishes.fd ["places", "value"] (spS ⟨fa, K⟩ (f_are_wishes kp) ["places", "value"].length) := by
  have S := sc_are_wishes
  exact (ok_def (k := 2) G.are_wishes.F S fun _ _ _ _ _ _ hr => by
    exact (bOne (sRet (sAndV (sB (bIsi) rfl G.z_isinstance rfl (by decide) rfl (sCons (sV 1 rfl (.inl rfl) rfl rfl) (sCons (sTy (t := .list) rfl G.z_list rfl (by decide) rfl) sNil rfl) rfl) rfl rfl) (sOne (sB (bAll rfl) rfl G.z_all rfl (by decide) rfl (sCons (sLc (own := [("wish", 2)]) rfl S.nd (jValL rfl (sV 1 rfl (.inl rfl) rfl rfl)) (blkOk_by rfl) (by decide) (fun _ _ _ _ _ => (tgN S.nd rfl (.inl rfl) (.inr rfl))) (fun _ _ _ _ _ => pts0) (fun _ _ _ _ _ => (sAndV (sCall ((ok_is_count G false).mono (by decide)) hr rfl G.is_count.m G.is_count.F.kp (bd_is_count_1 G).choose_spec.2 (bd_is_count_1 G).choose_spec.1 (fun _ => .one (rep_i _)) takes0 rfl (sCons (sV 2 rfl (.inl rfl) rfl rfl) sNil rfl) (lenC lenN) rfl rfl rfl) (sOne (sCmp oLt rfl (sV 2 rfl (.inl rfl) rfl rfl) (sV 0 rfl (.inr (.inl rfl)) rfl rfl))))) (fun _ => rfl)) sNil rfl) rfl rfl))))))
theorem ok_check_wishes (G : Gm K mg) (kp : Bool) : FnG P w K mg base 4 G.check_wishes.f G.check_wishes.fd ["places", "wishes"] (spS ⟨fa, K⟩ (f_check_wishes kp) ["places", "wishes"].length) := by
  have S := sc_check_wishes
  exact (ok_def (k := 3) G.check_wishes.F S fun _ _ _ _ _ _ hr => by
    exact (bCons (sDrop (sCall ((ok_check_places G false).mono (by decide)) hr rfl G.check_places.m G.check_places.F.kp (bi_check_places G) .nil (fun _ => .nil) takes_cx rfl (sCons (sV 0 rfl (.inl rfl) rfl rfl) sNil rfl) (lenC lenN) rfl rfl rfl) rfl)
    (bOne (sIfS (sNotT (sTst (sCall ((ok_are_wishes G false).mono (by decide)) hr rfl G.are_wishes.m G.are_wishes.F.kp (bi_are_wishes G) .nil (fun _ => .nil) takes_cx rfl (sCons (sV 0 rfl (.inl rfl) rfl rfl) (sCons (sV 1 rfl (.inl rfl) rfl rfl) sNil rfl) rfl) (lenC (lenC lenN)) rfl rfl rfl) (fun _ => rfl)))
    (bOne sNever)
    bNil))))
theorem ok_parked_there (G : Gm K mg) (kp : Bool) : FnG P w K mg base 1 G.parked_there.f G.parked_there.fd ["places", "wishes"] (spS ⟨fa, K⟩ (f_parked_there kp) ["places", "wishes"].length) := by
  have S := sc_parked_there
  exact (ok_def (k := 0) G.parked_there.F S fun _ _ _ _ _ _ hr => by
    exact (bCons (sPar rfl S.nd rfl rfl (by decide) rfl rfl (sLst sNil) sDNew rfl rfl rfl)
    (bCons (sFor owns_cx rfl (jValL rfl (sV 1 rfl (.inl rfl) rfl rfl)) (tgN S.nd rfl (.inl rfl) (.inl rfl))
    (bCons (sSet S.nd rfl (.inl rfl) (sV 4 rfl (.inl rfl) rfl rfl) rfl (.inl rfl))
      (bCons (sWh 100 owns_cx (sCmpT (oIn (hu65 hr)) rfl (sV 5 rfl (.inl rfl) rfl rfl) (sV 3 rfl (.inl rfl) rfl rfl))
      (bOne (sSet S.nd rfl (.inl rfl) (sBin oAdd (sV 5 rfl (.inl rfl) rfl rfl) sInt) rfl (.inl rfl))))
      (bCons (sIfS (sCmpT oLt rfl (sV 5 rfl (.inl rfl) rfl rfl) (sV 0 rfl (.inl rfl) rfl rfl))
      (bOne (sAsg sBl (tgAt (hu1 hr) (sV 3 rfl (.inl rfl) rfl rfl) (sV 5 rfl (.inl rfl) rfl rfl) (fun _ => rfl)) rfl rfl rfl))
      bNil)
      (bOne (sDrop (sMut PySem.F.slot_list_append PySem.F.type_list_append uAppend (sV 2 rfl (.inl rfl) rfl rfl) (sCons (sIf (sCmpT oLt rfl (sV 5 rfl (.inl rfl) rfl rfl) (sV 0 rfl (.inl rfl) rfl rfl)) (sV 5 rfl (.inl rfl) rfl rfl) sNon) sNil rfl) rfl rfl rfl rfl rfl) rfl))))) (fun _ => rfl))
    (bOne (sRet (sV 2 rfl (.inl rfl) rfl rfl))))))
theorem ok_parked (G : Gm K mg) (kp : Bool) : FnG P w K mg base 5 G.parked.f G.parked.fd ["places", "wishes"] (spS ⟨fa, K⟩ (f_parked kp) ["places", "wishes"].length) := by
  have S := sc_parked
  exact (ok_def (k := 4) G.parked.F S fun _ _ _ _ _ _ hr => by
    exact (bCons (sDrop (sCall ((ok_check_wishes G false).mono (by decide)) hr rfl G.check_wishes.m G.check_wishes.F.kp (bi_check_wishes G) .nil (fun _ => .nil) takes_cx rfl (sCons (sV 0 rfl (.inl rfl) rfl rfl) (sCons (sV 1 rfl (.inl rfl) rfl rfl) sNil rfl) rfl) (lenC (lenC lenN)) rfl rfl rfl) rfl)
    (bOne (sRet (sCall ((ok_parked_there G kp).mono (by decide)) hr rfl G.parked_there.m G.parked_there.F.kp (bi_parked_there G) .nil (fun _ => .nil) takes_cx rfl (sCons (sV 0 rfl (.inl rfl) rfl rfl) (sCons (sV 1 rfl (.inl rfl) rfl rfl) sNil rfl) rfl) (lenC (lenC lenN)) rfl rfl rfl)))))
theorem ok_standing_there (G : Gm K mg) (kp : Bool) : FnG P w K mg base 2 G.standing_there.f G.standing_there.fd ["places", "wishes"] (spS ⟨fa, K⟩ (f_standing_there kp) ["places", "wishes"].length) := by
  have S := sc_standing_there
  exact (ok_def (k := 1) G.standing_there.F S fun _ _ _ _ _ _ hr => by
    exact (bCons (sSet S.nd rfl (.inl rfl) (sBin oMul (sLst (sCons sNon sNil rfl)) (sV 0 rfl (.inl rfl) rfl rfl)) rfl (.inl rfl))
    (bCons (sFor owns_cx rfl (jEn rfl rfl G.z_enumerate (sCall ((ok_parked_there G false).mono (by decide)) hr rfl G.parked_there.m G.parked_there.F.kp (bi_parked_there G) .nil (fun _ => .nil) takes_cx rfl (sCons (sV 0 rfl (.inl rfl) rfl rfl) (sCons (sV 1 rfl (.inl rfl) rfl rfl) sNil rfl) rfl) (lenC (lenC lenN)) rfl rfl rfl) rfl rfl) (tgT rfl (tgsC (tgN S.nd rfl (.inl rfl) (.inl rfl)) (tgsC (tgN S.nd rfl (.inl rfl) (.inl rfl)) tgs0 rfl) rfl) rfl rfl (gsC_len (gsC_len gs0_len)))
    (bOne (sIfS (sCmpT oNotN rfl (sV 4 rfl (.inl rfl) rfl rfl) sNon)
      (bOne (sAsg (sV 3 rfl (.inl rfl) rfl rfl) (tgAt (hu1 hr) (sV 2 rfl (.inl rfl) rfl rfl) (sV 4 rfl (.inl rfl) rfl rfl) (fun _ => rfl)) rfl rfl rfl))
      bNil)) (fun _ => rfl))
    (bOne (sRet (sV 2 rfl (.inl rfl) rfl rfl))))))
theorem ok_standing (G : Gm K mg) (kp : Bool) : FnG P w K mg base 5 G.standing.f G.standing.fd ["places", "wishes"] (spS ⟨fa, K⟩ (f_standing kp) ["places", "wishes"].length) := by
  have S := sc_standing
  exact (ok_def (k := 4) G.standing.F S fun _ _ _ _ _ _ hr => by
    exact (bCons (sDrop (sCall ((ok_check_wishes G false).mono (by decide)) hr rfl G.check_wishes.m G.check_wishes.F.kp (bi_check_wishes G) .nil (fun _ => .nil) takes_cx rfl (sCons (sV 0 rfl (.inl rfl) rfl rfl) (sCons (sV 1 rfl (.inl rfl) rfl rfl) sNil rfl) rfl) (lenC (lenC lenN)) rfl rfl rfl) rfl)
    (bOne (sRet (sCall ((ok_standing_there G kp).mono (by decide)) hr rfl G.standing_there.m G.standing_there.F.kp (bi_standing_there G) .nil (fun _ => .nil) takes_cx rfl (sCons (sV 0 rfl (.inl rfl) rfl rfl) (sCons (sV 1 rfl (.inl rfl) rfl rfl) sNil rfl) rfl) (lenC (lenC lenN)) rfl rfl rfl)))))
theorem ok_first_crowded (G : Gm K mg) (kp : Bool) : FnG P w K mg base 1 G.first_crowded.f G.first_crowded.fd ["places", "wishes"] (spS ⟨fa, K⟩ (f_first_crowded kp) ["places", "wishes"].length) := by
  have S := sc_first_crowded
  exact (ok_def (k := 0) G.first_crowded.F S fun _ _ _ _ _ _ hr => by
    exact (bCons (sSet S.nd rfl (.inl rfl) (sB (bLen rfl) rfl G.z_len rfl (by decide) rfl (sCons (sV 1 rfl (.inl rfl) rfl rfl) sNil rfl) rfl rfl) rfl (.inl rfl))
    (bCons (sSet S.nd rfl (.inl rfl) (sBin oMul (sLst (sCons sInt sNil rfl)) (sV 0 rfl (.inl rfl) rfl rfl)) rfl (.inl rfl))
    (bCons (sFor owns_cx rfl (jValL rfl (sV 1 rfl (.inl rfl) rfl rfl)) (tgN S.nd rfl (.inl rfl) (.inl rfl))
    (bOne (sAsg (sBin oAdd (sIx (hu1 hr) (sV 3 rfl (.inl rfl) rfl rfl) (sV 4 rfl (.inl rfl) rfl rfl) (fun _ _ => rfl)) sInt) (tgAt (hu1 hr) (sV 3 rfl (.inl rfl) rfl rfl) (sV 4 rfl (.inl rfl) rfl rfl) (fun _ => rfl)) rfl rfl rfl)) (fun _ => rfl))
    (bCons (sFor owns_cx rfl (jR1 rfl G.z_range (sV 0 rfl (.inl rfl) rfl rfl) rfl rfl) (tgN S.nd rfl (.inl rfl) (.inl rfl))
    (bCons (sIfS (sCmpT oGt rfl (sV 2 rfl (.inl rfl) rfl rfl) (sBin oSub (sV 0 rfl (.inl rfl) rfl rfl) (sV 5 rfl (.inl rfl) rfl rfl)))
      (bOne (sRet (sV 5 rfl (.inl rfl) rfl rfl)))
      bNil)
      (bOne (sSet S.nd rfl (.inl rfl) (sBin oSub (sV 2 rfl (.inl rfl) rfl rfl) (sIx (hu1 hr) (sV 3 rfl (.inl rfl) rfl rfl) (sV 5 rfl (.inl rfl) rfl rfl) (fun _ _ => rfl))) rfl (.inl rfl)))) (fun _ => rfl))
    (bOne (sRet sNon)))))))
theorem ok_does_none_leave (G : Gm K mg) (kp : Bool) : FnG P w K mg base 5 G.does_none_leave.f G.does_none_leave.fd ["places", "wishes"] (spS ⟨fa, K⟩ (f_does_none_leave kp) ["places", "wishes"].length) := by
  have S := sc_does_none_leave
  exact (ok_def (k := 4) G.does_none_leave.F S fun _ _ _ _ _ _ hr => by
    exact (bCons (sDrop (sCall ((ok_check_wishes G false).mono (by decide)) hr rfl G.check_wishes.m G.check_wishes.F.kp (bi_check_wishes G) .nil (fun _ => .nil) takes_cx rfl (sCons (sV 0 rfl (.inl rfl) rfl rfl) (sCons (sV 1 rfl (.inl rfl) rfl rfl) sNil rfl) rfl) (lenC (lenC lenN)) rfl rfl rfl) rfl)
    (bOne (sRet (sCmp oIsN rfl (sCall ((ok_first_crowded G kp).mono (by decide)) hr rfl G.first_crowded.m G.first_crowded.F.kp (bi_first_crowded G) .nil (fun _ => .nil) takes_cx rfl (sCons (sV 0 rfl (.inl rfl) rfl rfl) (sCons (sV 1 rfl (.inl rfl) rfl rfl) sNil rfl) rfl) (lenC (lenC lenN)) rfl rfl rfl) sNon)))))
theorem ok_park_bar (G : Gm K mg) (kp : Bool) : FnG P w K mg base 5 G.park_bar.f G.park_bar.fd ["places", "wishes"] (spS ⟨fa, K⟩ (f_park_bar kp) ["places", "wishes"].length) := by
  have S := sc_park_bar
  exact (ok_def (k := 4) G.park_bar.F S fun _ _ _ _ _ _ hr => by
    exact (bCons (sDrop (sCall ((ok_check_wishes G false).mono (by decide)) hr rfl G.check_wishes.m G.check_wishes.F.kp (bi_check_wishes G) .nil (fun _ => .nil) takes_cx rfl (sCons (sV 0 rfl (.inl rfl) rfl rfl) (sCons (sV 1 rfl (.inl rfl) rfl rfl) sNil rfl) rfl) (lenC (lenC lenN)) rfl rfl rfl) rfl)
    (bCons (sSet S.nd rfl (.inr rfl) (sCall ((ok_first_crowded G false).mono (by decide)) hr rfl G.first_crowded.m G.first_crowded.F.kp (bi_first_crowded G) .nil (fun _ => .nil) takes_cx rfl (sCons (sV 0 rfl (.inl rfl) rfl rfl) (sCons (sV 1 rfl (.inl rfl) rfl rfl) sNil rfl) rfl) (lenC (lenC lenN)) rfl rfl rfl) rfl (.inl rfl))
    (bCons (sIfS (sCmpT oIsN rfl (sV 2 rfl (.inr (.inl rfl)) rfl rfl) sNon)
    (bOne (sRet sNon))
    bNil)
    (bOne (sRet (sTup (sCons (sV 2 rfl (.inr (.inl rfl)) rfl rfl) (sCons (sLc (own := [("car", 3), ("wish", 4)]) rfl S.nd (jEn rfl rfl G.z_enumerate (sV 1 rfl (.inl rfl) rfl rfl) rfl rfl) (blkOk_by rfl) (by decide) (fun _ _ _ _ _ => (tgT rfl (tgsC (tgN S.nd rfl (.inl rfl) (.inr rfl)) (tgsC (tgN S.nd rfl (.inl rfl) (.inr rfl)) tgs0 rfl) rfl) rfl rfl (gsC_len (gsC_len gs0_len)))) (fun _ _ _ _ _ => (pts1 (sCmpT oGe rfl (sV 4 rfl (.inl rfl) rfl rfl) (sV 2 rfl (.inr (.inl rfl)) rfl rfl)))) (fun _ _ _ _ _ => (sV 3 rfl (.inl rfl) rfl rfl)) (fun _ => rfl)) sNil rfl) rfl))))))))
theorem ok__law_exact (G : Gm K mg) : ∀ (n : Nat) (kp : Bool), FnG P w K mg base (n + 1) G._law_exact.f G._law_exact.fd ["mine", "theirs"] (spS ⟨fa, K⟩ (f__law_exact n kp) ["mine", "theirs"].length)
  | 0, _ => fn_never (ps := ["mine", "theirs"])
  | n + 1, kp => by
    have ih := fun kp => ok__law_exact G n kp
    have S := sc__law_exact
    exact (ok_def (k := n + 1) G._law_exact.F S fun _ _ _ _ _ _ hr => by
      exact (bCons (sIfS (sTst (sB (bIsi) rfl G.z_isinstance rfl (by decide) rfl (sCons (sV 0 rfl (.inl rfl) rfl rfl) (sCons (sTup (sCons (sTy (t := .list) rfl G.z_list rfl (by decide) rfl) (sCons (sTy (t := .tuple) rfl G.z_tuple rfl (by decide) rfl) sNil rfl) rfl)) sNil rfl) rfl) rfl rfl) (fun _ => rfl))
    (bCons (sSet S.nd rfl (.inl rfl) (sCmp (oEq (hu64 hr)) rfl (sB (bIsi) rfl G.z_isinstance rfl (by decide) rfl (sCons (sV 1 rfl (.inl rfl) rfl rfl) (sCons (sTy (t := .list) rfl G.z_list rfl (by decide) rfl) sNil rfl) rfl) rfl rfl) (sB (bIsi) rfl G.z_isinstance rfl (by decide) rfl (sCons (sV 0 rfl (.inl rfl) rfl rfl) (sCons (sTy (t := .list) rfl G.z_list rfl (by decide) rfl) sNil rfl) rfl) rfl rfl)) rfl (.inl rfl))
      (bCons (sSet S.nd rfl (.inl rfl) (sAndV (sV 2 rfl (.inl rfl) rfl rfl) (sOne (sCmp (oEq (hu64 hr)) rfl (sB (bIsi) rfl G.z_isinstance rfl (by decide) rfl (sCons (sV 1 rfl (.inl rfl) rfl rfl) (sCons (sTy (t := .tuple) rfl G.z_tuple rfl (by decide) rfl) sNil rfl) rfl) rfl rfl) (sB (bIsi) rfl G.z_isinstance rfl (by decide) rfl (sCons (sV 0 rfl (.inl rfl) rfl rfl) (sCons (sTy (t := .tuple) rfl G.z_tuple rfl (by decide) rfl) sNil rfl) rfl) rfl rfl)))) rfl (.inl rfl))
      (bOne (sRet (sAndV (sV 3 rfl (.inl rfl) rfl rfl) (sAndV (sCmp (oEq (hu64 hr)) rfl (sB (bLen rfl) rfl G.z_len rfl (by decide) rfl (sCons (sV 0 rfl (.inl rfl) rfl rfl) sNil rfl) rfl rfl) (sB (bLen rfl) rfl G.z_len rfl (by decide) rfl (sCons (sV 1 rfl (.inl rfl) rfl rfl) sNil rfl) rfl rfl)) (sOne (sB (bAll rfl) rfl G.z_all rfl (by decide) rfl (sCons (sLc (own := [("a", 4), ("b", 5)]) rfl S.nd (jZp rfl rfl G.z_zip (sV 0 rfl (.inl rfl) rfl rfl) (sV 1 rfl (.inl rfl) rfl rfl) rfl rfl rfl) (blkOk_by rfl) (by decide) (fun _ _ _ _ _ => (tgT rfl (tgsC (tgN S.nd rfl (.inl rfl) (.inr rfl)) (tgsC (tgN S.nd rfl (.inl rfl) (.inr rfl)) tgs0 rfl) rfl) rfl rfl (gsC_len (gsC_len gs0_len)))) (fun _ _ _ _ _ => pts0) (fun _ _ _ _ _ => (sCall (ih false) hr rfl G._law_exact.m G._law_exact.F.kp (bi__law_exact G) .nil (fun _ => .nil) takes0 rfl (sCons (sV 4 rfl (.inl rfl) rfl rfl) (sCons (sV 5 rfl (.inl rfl) rfl rfl) sNil rfl) rfl) (lenC (lenC lenN)) rfl rfl rfl)) (fun _ => rfl)) sNil rfl) rfl rfl))))))))
    bNil)
    (bCons (sIfS (PW.pt (sOr (sTst (sB (bIsi) rfl G.z_isinstance rfl (by decide) rfl (sCons (sV 1 rfl (.inl rfl) rfl rfl) (sCons (sTup (sCons (sTy (t := .list) rfl G.z_list rfl (by decide) rfl) (sCons (sTy (t := .tuple) rfl G.z_tuple rfl (by decide) rfl) sNil rfl) rfl)) sNil rfl) rfl) rfl rfl) (fun _ => rfl)) (sOr1 (sCmpT (oNe (hu64 hr)) rfl (sCmp oIsN rfl (sV 0 rfl (.inl rfl) rfl rfl) sNon) (sCmp oIsN rfl (sV 1 rfl (.inl rfl) rfl rfl) sNon)))))
    (bOne (sRet sBl))
    bNil)
    (bCons (sSet S.nd rfl (.inl rfl) (sAndV (sCmp (oEq (hu64 hr)) rfl (sB (bIsi) rfl G.z_isinstance rfl (by decide) rfl (sCons (sV 0 rfl (.inl rfl) rfl rfl) (sCons (sTy (t := .int) rfl G.z_int rfl (by decide) rfl) sNil rfl) rfl) rfl rfl) (sB (bIsi) rfl G.z_isinstance rfl (by decide) rfl (sCons (sV 1 rfl (.inl rfl) rfl rfl) (sCons (sTy (t := .int) rfl G.z_int rfl (by decide) rfl) sNil rfl) rfl) rfl rfl)) (sOne (sCmp (oEq (hu64 hr)) rfl (sB (bIsi) rfl G.z_isinstance rfl (by decide) rfl (sCons (sV 0 rfl (.inl rfl) rfl rfl) (sCons (sTy (t := .str) rfl G.z_str rfl (by decide) rfl) sNil rfl) rfl) rfl rfl) (sB (bIsi) rfl G.z_isinstance rfl (by decide) rfl (sCons (sV 1 rfl (.inl rfl) rfl rfl) (sCons (sTy (t := .str) rfl G.z_str rfl (by decide) rfl) sNil rfl) rfl) rfl rfl)))) rfl (.inl rfl))
    (bOne (sRet (sAndV (sV 3 rfl (.inl rfl) rfl rfl) (sAndV (sCmp (oEq (hu64 hr)) rfl (sB (bIsi) rfl G.z_isinstance rfl (by decide) rfl (sCons (sV 0 rfl (.inl rfl) rfl rfl) (sCons (sTy (t := .bool) rfl G.z_bool rfl (by decide) rfl) sNil rfl) rfl) rfl rfl) (sB (bIsi) rfl G.z_isinstance rfl (by decide) rfl (sCons (sV 1 rfl (.inl rfl) rfl rfl) (sCons (sTy (t := .bool) rfl G.z_bool rfl (by decide) rfl) sNil rfl) rfl) rfl rfl)) (sOne (sCmp (oEq (hu64 hr)) rfl (sV 0 rfl (.inl rfl) rfl rfl) (sV 1 rfl (.inl rfl) rfl rfl)))))))))))
theorem ok__law_mixed (G : Gm K mg) (kp : Bool) : FnG P w K mg base 1 G._law_mixed.f G._law_mixed.fd ["seed", "spin", "at"] (spS ⟨fa, K⟩ (f__law_mixed kp) ["seed", "spin", "at"].length) := by
  have S := sc__law_mixed
  exact (ok_def (k := 0) G._law_mixed.F S fun _ _ _ _ _ _ hr => by
    exact (bCons (sSet S.nd rfl (.inl rfl) (sBin oAdd (sBin oMul (sV 0 rfl (.inl rfl) rfl rfl) sInt) (sBin oMul (sBin oMul sInt (sV 1 rfl (.inl rfl) rfl rfl)) (sV 1 rfl (.inl rfl) rfl rfl))) rfl (.inl rfl))
    (bCons (sSet S.nd rfl (.inl rfl) (sBin oMod (sBT tInt rfl G.z_int rfl (by decide) rfl (sCons (sBin oAdd (sBin oAdd (sV 3 rfl (.inl rfl) rfl rfl) (sBin oMul sInt (sV 2 rfl (.inl rfl) rfl rfl))) (sV 1 rfl (.inl rfl) rfl rfl)) sNil rfl) rfl rfl) sInt) rfl (.inl rfl))
    (bCons (sSet S.nd rfl (.inl rfl) (sBin oMod (sBT tInt rfl G.z_int rfl (by decide) rfl (sCons (sBin oAdd (sBin oMul (sV 3 rfl (.inl rfl) rfl rfl) (sV 3 rfl (.inl rfl) rfl rfl)) sInt) sNil rfl) rfl rfl) sInt) rfl (.inl rfl))
    (bOne (sRet (sBin oMod (sBT tInt rfl G.z_int rfl (by decide) rfl (sCons (sBin oMul (sV 3 rfl (.inl rfl) rfl rfl) sInt) sNil rfl) rfl rfl) sInt)))))))
theorem ok__law_draw (G : Gm K mg) (kp : Bool) : FnG P w K mg base 2 G._law_draw.f G._law_draw.fd ["purse", "many"] (spS ⟨fa, K⟩ (f__law_draw kp) ["purse", "many"].length) := by
  have S := sc__law_draw
  exact (ok_def (k := 1) G._law_draw.F S fun _ _ _ _ _ _ hr => by
    exact (bCons (sIfS (sCmpT oGt rfl (sIx (hu1 hr) (sV 0 rfl (.inl rfl) rfl rfl) sInt (fun _ _ => rfl)) sInt)
    (bCons (sSet S.nd rfl (.inl rfl) (sBin oMod (sBT tInt rfl G.z_int rfl (by decide) rfl (sCons (sIx (hu1 hr) (sV 0 rfl (.inl rfl) rfl rfl) sInt (fun _ _ => rfl)) sNil rfl) rfl rfl) (sV 1 rfl (.inl rfl) rfl rfl)) rfl (.inl rfl))
      (bCons (sAsg (sBin oDiv (sIx (hu1 hr) (sV 0 rfl (.inl rfl) rfl rfl) sInt (fun _ _ => rfl)) (sV 1 rfl (.inl rfl) rfl rfl)) (tgAt (hu1 hr) (sV 0 rfl (.inl rfl) rfl rfl) sInt (fun _ => rfl)) rfl rfl rfl)
      (bOne (sRet (sV 2 rfl (.inl rfl) rfl rfl)))))
    bNil)
    (bCons (sSet S.nd rfl (.inl rfl) sInt rfl (.inl rfl))
    (bCons (sFor owns_cx rfl (jR1 rfl G.z_range (sBin oAdd sInt (sBin oDiv (sBits (sV 1 rfl (.inl rfl) rfl rfl) rfl rfl) sInt)) rfl rfl) (tgN S.nd rfl (.inl rfl) (.inl rfl))
    (bCons (sAsg (sBin oAdd (sIx (hu1 hr) (sV 0 rfl (.inl rfl) rfl rfl) sInt (fun _ _ => rfl)) sInt) (tgAt (hu1 hr) (sV 0 rfl (.inl rfl) rfl rfl) sInt (fun _ => rfl)) rfl rfl rfl)
      (bOne (sSet S.nd rfl (.inl rfl) (sBin oAdd (sBin oMul (sV 3 rfl (.inl rfl) rfl rfl) sInt) (sCall ((ok__law_mixed G false).mono (by decide)) hr rfl G._law_mixed.m G._law_mixed.F.kp (bi__law_mixed G) .nil (fun _ => .nil) takes_cx rfl (sCons (sIx (hu1 hr) (sV 0 rfl (.inl rfl) rfl rfl) sInt (fun _ _ => rfl)) (sCons (sIx (hu1 hr) (sV 0 rfl (.inl rfl) rfl rfl) sInt (fun _ _ => rfl)) (sCons (sIx (hu1 hr) (sV 0 rfl (.inl rfl) rfl rfl) sInt (fun _ _ => rfl)) sNil rfl) rfl) rfl) (lenC (lenC (lenC lenN))) rfl rfl rfl)) rfl (.inl rfl)))) (fun _ => rfl))
    (bOne (sRet (sBin oMod (sBT tInt rfl G.z_int rfl (by decide) rfl (sCons (sV 3 rfl (.inl rfl) rfl rfl) sNil rfl) rfl rfl) (sV 1 rfl (.inl rfl) rfl rfl))))))))
theorem ok__law_shuffled (G : Gm K mg) (kp : Bool) : FnG P w K mg base 3 G._law_shuffled.f G._law_shuffled.fd ["purse", "some"] (spS ⟨fa, K⟩ (f__law_shuffled kp) ["purse", "some"].length) := by
  have S := sc__law_shuffled
  exact (ok_def (k := 2) G._law_shuffled.F S fun _ _ _ _ _ _ hr => by
    exact (bCons (sSet S.nd rfl (.inl rfl) (sLst sNil) rfl (.inl rfl))
    (bCons (sFor owns_cx rfl (jValL rfl (sV 1 rfl (.inl rfl) rfl rfl)) (tgN S.nd rfl (.inl rfl) (.inl rfl))
    (bOne (sDrop (sMut PySem.F.slot_list_insert PySem.F.type_list_insert uInsert (sV 2 rfl (.inl rfl) rfl rfl) (sCons (sCall ((ok__law_draw G false).mono (by decide)) hr rfl G._law_draw.m G._law_draw.F.kp (bi__law_draw G) .nil (fun _ => .nil) takes_cx rfl (sCons (sV 0 rfl (.inl rfl) rfl rfl) (sCons (sBin oAdd (sB (bLen rfl) rfl G.z_len rfl (by decide) rfl (sCons (sV 2 rfl (.inl rfl) rfl rfl) sNil rfl) rfl rfl) sInt) sNil rfl) rfl) (lenC (lenC lenN)) rfl rfl rfl) (sCons (sV 3 rfl (.inl rfl) rfl rfl) sNil rfl) rfl) rfl rfl rfl rfl rfl) rfl)) (fun _ => rfl))
    (bOne (sRet (sV 2 rfl (.inl rfl) rfl rfl))))))
theorem ok__law_parked (G : Gm K mg) (kp : Bool) : FnG P w K mg base 1 G._law_parked.f G._law_parked.fd ["places", "wishes"] (spS ⟨fa, K⟩ (f__law_parked kp) ["places", "wishes"].length) := by
  have S := sc__law_parked
  exact (ok_def (k := 0) G._law_parked.F S fun _ _ _ _ _ _ hr => by
    exact (bCons (sSet S.nd rfl (.inr rfl) (sLst sNil) rfl (.inl rfl))
    (bCons (sFor owns_cx rfl (jValL rfl (sV 1 rfl (.inl rfl) rfl rfl)) (tgN S.nd rfl (.inl rfl) (.inl rfl))
    (bCons (sSetLc (own := [("place", 5)]) rfl S.nd rfl rfl rfl (jR2 rfl G.z_range (sV 3 rfl (.inl rfl) rfl rfl) (sV 0 rfl (.inl rfl) rfl rfl) rfl rfl rfl rfl) (blkOk_by rfl) (by decide) (fun _ _ _ _ _ => (tgN S.nd rfl (.inl rfl) (.inr rfl))) (fun _ _ _ _ _ => (pts1 (sCmpT (oNotIn (hu65 hr)) rfl (sV 5 rfl (.inl rfl) rfl rfl) (sV 2 rfl (.inr (.inl rfl)) rfl rfl)))) (fun _ _ _ _ _ => (sV 5 rfl (.inl rfl) rfl rfl)) (fun _ => rfl))
      (bOne (sDrop (sMut PySem.F.slot_list_append PySem.F.type_list_append uAppend (sV 2 rfl (.inr (.inl rfl)) rfl rfl) (sCons (sIf (sCmpT (oNe (hu64 hr)) rfl (sV 4 rfl (.inl rfl) rfl rfl) (sLst sNil)) (sIx (hu1 hr) (sV 4 rfl (.inl rfl) rfl rfl) sInt (fun _ _ => rfl)) sNon) sNil rfl) rfl rfl rfl rfl rfl) rfl))) (fun _ => rfl))
    (bOne (sRet (sV 2 rfl (.inr (.inl rfl)) rfl rfl))))))
theorem ok__law_one_of (G : Gm K mg) (kp : Bool) : FnG P w K mg base 3 G._law_one_of.f G._law_one_of.fd ["purse", "some"] (spS ⟨fa, K⟩ (f__law_one_of kp) ["purse", "some"].length) := by
  have S := sc__law_one_of
  exact (ok_def (k := 2) G._law_one_of.F S fun _ _ _ _ _ _ hr => by
    exact (bOne (sRet (sIx (hu1 hr) (sV 1 rfl (.inl rfl) rfl rfl) (sCall ((ok__law_draw G false).mono (by decide)) hr rfl G._law_draw.m G._law_draw.F.kp (bi__law_draw G) .nil (fun _ => .nil) takes_cx rfl (sCons (sV 0 rfl (.inl rfl) rfl rfl) (sCons (sB (bLen rfl) rfl G.z_len rfl (by decide) rfl (sCons (sV 1 rfl (.inl rfl) rfl rfl) sNil rfl) rfl rfl) sNil rfl) rfl) (lenC (lenC lenN)) rfl rfl rfl) (fun _ _ => rfl)))))
theorem ok__law_wishes (G : Gm K mg) (kp : Bool) : FnG P w K mg base 4 G._law_wishes.f G._law_wishes.fd ["purse", "places", "cars"] (spS ⟨fa, K⟩ (f__law_wishes kp) ["purse", "places", "cars"].length) := by
  have S := sc__law_wishes
  exact (ok_def (k := 3) G._law_wishes.F S fun _ _ _ _ _ _ hr => by
    exact (bCons (sSet S.nd rfl (.inl rfl) (sCall ((ok__law_draw G false).mono (by decide)) hr rfl G._law_draw.m G._law_draw.F.kp (bi__law_draw G) .nil (fun _ => .nil) takes_cx rfl (sCons (sV 0 rfl (.inr (.inl rfl)) rfl rfl) (sCons sInt sNil rfl) rfl) (lenC (lenC lenN)) rfl rfl rfl) rfl (.inl rfl))
    (bCons (sIfS (sCmpT (oEq (hu64 hr)) rfl (sV 1 rfl (.inr (.inl rfl)) rfl rfl) sInt)
    (bOne (sRet (sLst sNil)))
    bNil)
    (bCons (sIfS (sCmpT (oEq (hu64 hr)) rfl (sV 3 rfl (.inl rfl) rfl rfl) sInt)
    (bOne (sRet (sLc (own := [("car", 5)]) rfl S.nd (jR1 rfl G.z_range (sV 2 rfl (.inl rfl) rfl rfl) rfl rfl) (blkOk_by rfl) (by decide) (fun _ _ _ _ _ => (tgN S.nd rfl (.inl rfl) (.inr rfl))) (fun _ _ _ _ _ => pts0) (fun _ _ _ _ _ => (sCall ((ok__law_draw G kp).mono (by decide)) hr rfl G._law_draw.m G._law_draw.F.kp (bi__law_draw G) .nil (fun _ => .nil) takes0 rfl (sCons (sV 0 rfl (.inr (.inl rfl)) rfl rfl) (sCons (sV 1 rfl (.inr (.inl rfl)) rfl rfl) sNil rfl) rfl) (lenC (lenC lenN)) rfl rfl rfl)) (fun _ => rfl))))
    bNil)
    (bCons (sIfS (sCmpT (oEq (hu64 hr)) rfl (sV 3 rfl (.inl rfl) rfl rfl) sInt)
    (bOne (sRet (sLc (own := [("car", 5)]) rfl S.nd (jR1 rfl G.z_range (sV 2 rfl (.inl rfl) rfl rfl) rfl rfl) (blkOk_by rfl) (by decide) (fun _ _ _ _ _ => (tgN S.nd rfl (.inl rfl) (.inr rfl))) (fun _ _ _ _ _ => pts0) (fun _ _ _ _ _ => (sB (bMin rfl) rfl G.z_min rfl (by decide) rfl (sCons (sCall ((ok__law_draw G false).mono (by decide)) hr rfl G._law_draw.m G._law_draw.F.kp (bi__law_draw G) .nil (fun _ => .nil) takes0 rfl (sCons (sV 0 rfl (.inr (.inl rfl)) rfl rfl) (sCons (sV 1 rfl (.inr (.inl rfl)) rfl rfl) sNil rfl) rfl) (lenC (lenC lenN)) rfl rfl rfl) (sCons (sCall ((ok__law_draw G false).mono (by decide)) hr rfl G._law_draw.m G._law_draw.F.kp (bi__law_draw G) .nil (fun _ => .nil) takes0 rfl (sCons (sV 0 rfl (.inr (.inl rfl)) rfl rfl) (sCons (sV 1 rfl (.inr (.inl rfl)) rfl rfl) sNil rfl) rfl) (lenC (lenC lenN)) rfl rfl rfl) sNil rfl) rfl) rfl rfl)) (fun _ => rfl))))
    bNil)
    (bCons (sSet S.nd rfl (.inr rfl) (sLst sNil) rfl (.inl rfl))
    (bCons (sFor owns_cx rfl (jR1 rfl G.z_range (sV 2 rfl (.inl rfl) rfl rfl) rfl rfl) (tgN S.nd rfl (.inl rfl) (.inl rfl))
    (bCons (sSetLc (own := [("place", 7)]) rfl S.nd rfl rfl rfl (jR1 rfl G.z_range (sV 1 rfl (.inr (.inl rfl)) rfl rfl) rfl rfl) (blkOk_by rfl) (by decide) (fun _ _ _ _ _ => (tgN S.nd rfl (.inl rfl) (.inr rfl))) (fun _ _ _ _ _ => (pts1 (sCmpT (oNotIn (hu65 hr)) rfl (sV 7 rfl (.inl rfl) rfl rfl) (sCall ((ok__law_parked G false).mono (by decide)) hr rfl G._law_parked.m G._law_parked.F.kp (bi__law_parked G) .nil (fun _ => .nil) takes0 rfl (sCons (sV 1 rfl (.inr (.inl rfl)) rfl rfl) (sCons (sV 4 rfl (.inr (.inl rfl)) rfl rfl) sNil rfl) rfl) (lenC (lenC lenN)) rfl rfl rfl)))) (fun _ _ _ _ _ => (sV 7 rfl (.inl rfl) rfl rfl)) (fun _ => rfl))
      (bOne (sDrop (sMut PySem.F.slot_list_append PySem.F.type_list_append uAppend (sV 4 rfl (.inr (.inl rfl)) rfl rfl) (sCons (sIf (sCmpT (oNe (hu64 hr)) rfl (sV 6 rfl (.inl rfl) rfl rfl) (sLst sNil)) (sCall ((ok__law_draw G false).mono (by decide)) hr rfl G._law_draw.m G._law_draw.F.kp (bi__law_draw G) .nil (fun _ => .nil) takes_cx rfl (sCons (sV 0 rfl (.inr (.inl rfl)) rfl rfl) (sCons (sBin oAdd sInt (sCall ((ok__law_one_of G false).mono (by decide)) hr rfl G._law_one_of.m G._law_one_of.F.kp (bi__law_one_of G) .nil (fun _ => .nil) takes_cx rfl (sCons (sV 0 rfl (.inr (.inl rfl)) rfl rfl) (sCons (sV 6 rfl (.inl rfl) rfl rfl) sNil rfl) rfl) (lenC (lenC lenN)) rfl rfl rfl)) sNil rfl) rfl) (lenC (lenC lenN)) rfl rfl rfl) (sCall ((ok__law_draw G false).mono (by decide)) hr rfl G._law_draw.m G._law_draw.F.kp (bi__law_draw G) .nil (fun _ => .nil) takes_cx rfl (sCons (sV 0 rfl (.inr (.inl rfl)) rfl rfl) (sCons (sV 1 rfl (.inr (.inl rfl)) rfl rfl) sNil rfl) rfl) (lenC (lenC lenN)) rfl rfl rfl)) sNil rfl) rfl rfl rfl rfl rfl) rfl))) (fun _ => rfl))
    (bOne (sRet (sCall ((ok__law_shuffled G kp).mono (by decide)) hr rfl G._law_shuffled.m G._law_shuffled.F.kp (bi__law_shuffled G) .nil (fun _ => .nil) takes_cx rfl (sCons (sV 0 rfl (.inr (.inl rfl)) rfl rfl) (sCons (sV 4 rfl (.inr (.inl rfl)) rfl rfl) sNil rfl) rfl) (lenC (lenC lenN)) rfl rfl rfl))))))))))
theorem ok__law_bar (G : Gm K mg) (kp : Bool) : FnG P w K mg base 1 G._law_bar.f G._law_bar.fd ["places", "wishes"] (spS ⟨fa, K⟩ (f__law_bar kp) ["places", "wishes"].length) := by
  have S := sc__law_bar
  exact (ok_def (k := 0) G._law_bar.F S fun _ _ _ _ _ _ hr => by
    exact (bCons (sFor owns_cx rfl (jR1 rfl G.z_range (sV 0 rfl (.inl rfl) rfl rfl) rfl rfl) (tgN S.nd rfl (.inr rfl) (.inl rfl))
    (bCons (sSetLc (own := [("car", 4), ("wish", 5)]) rfl S.nd rfl rfl rfl (jEn rfl rfl G.z_enumerate (sV 1 rfl (.inl rfl) rfl rfl) rfl rfl) (blkOk_by rfl) (by decide) (fun _ _ _ _ _ => (tgT rfl (tgsC (tgN S.nd rfl (.inl rfl) (.inr rfl)) (tgsC (tgN S.nd rfl (.inl rfl) (.inr rfl)) tgs0 rfl) rfl) rfl rfl (gsC_len (gsC_len gs0_len)))) (fun _ _ _ _ _ => (pts1 (sCmpT oGe rfl (sV 5 rfl (.inl rfl) rfl rfl) (sV 2 rfl (.inr (.inl rfl)) rfl rfl)))) (fun _ _ _ _ _ => (sV 4 rfl (.inl rfl) rfl rfl)) (fun _ => rfl))
      (bOne (sIfS (sCmpT oGt rfl (sB (bLen rfl) rfl G.z_len rfl (by decide) rfl (sCons (sV 3 rfl (.inl rfl) rfl rfl) sNil rfl) rfl rfl) (sBin oSub (sV 0 rfl (.inl rfl) rfl rfl) (sV 2 rfl (.inr (.inl rfl)) rfl rfl)))
      (bOne (sRet (sTup (sCons (sV 2 rfl (.inr (.inl rfl)) rfl rfl) (sCons (sV 3 rfl (.inl rfl) rfl rfl) sNil rfl) rfl))))
      bNil))) (fun _ => rfl))
    (bOne (sRet sNon))))
theorem ok_lucky_cars (G : Gm K mg) (kp : Bool) : FnG P w K mg base 5 G.lucky_cars.f G.lucky_cars.fd ["places", "wishes"] (spS ⟨fa, K⟩ (f_lucky_cars kp) ["places", "wishes"].length) := by
  have S := sc_lucky_cars
  exact (ok_def (k := 4) G.lucky_cars.F S fun _ _ _ _ _ _ hr => by
    exact (bCons (sDrop (sCall ((ok_check_wishes G false).mono (by decide)) hr rfl G.check_wishes.m G.check_wishes.F.kp (bi_check_wishes G) .nil (fun _ => .nil) takes_cx rfl (sCons (sV 0 rfl (.inl rfl) rfl rfl) (sCons (sV 1 rfl (.inl rfl) rfl rfl) sNil rfl) rfl) (lenC (lenC lenN)) rfl rfl rfl) rfl)
    (bCons (sSet S.nd rfl (.inr rfl) (sCall ((ok_parked_there G false).mono (by decide)) hr rfl G.parked_there.m G.parked_there.F.kp (bi_parked_there G) .nil (fun _ => .nil) takes_cx rfl (sCons (sV 0 rfl (.inl rfl) rfl rfl) (sCons (sV 1 rfl (.inl rfl) rfl rfl) sNil rfl) rfl) (lenC (lenC lenN)) rfl rfl rfl) rfl (.inl rfl))
    (bOne (sRet (sLc (own := [("car", 3), ("wish", 4)]) rfl S.nd (jEn rfl rfl G.z_enumerate (sV 1 rfl (.inl rfl) rfl rfl) rfl rfl) (blkOk_by rfl) (by decide) (fun _ _ _ _ _ => (tgT rfl (tgsC (tgN S.nd rfl (.inl rfl) (.inr rfl)) (tgsC (tgN S.nd rfl (.inl rfl) (.inr rfl)) tgs0 rfl) rfl) rfl rfl (gsC_len (gsC_len gs0_len)))) (fun _ _ _ _ _ => (pts1 (sCmpT (oEq (hu64 hr)) rfl (sIx (hu1 hr) (sV 2 rfl (.inr (.inl rfl)) rfl rfl) (sV 3 rfl (.inl rfl) rfl rfl) (fun _ _ => rfl)) (sV 4 rfl (.inl rfl) rfl rfl)))) (fun _ _ _ _ _ => (sV 3 rfl (.inl rfl) rfl rfl)) (fun _ => rfl)))))))
theorem ok_driven_there (G : Gm K mg) (kp : Bool) : FnG P w K mg base 2 G.driven_there.f G.driven_there.fd ["places", "wishes"] (spS ⟨fa, K⟩ (f_driven_there kp) ["places", "wishes"].length) := by
  have S := sc_driven_there
  exact (ok_def (k := 1) G.driven_there.F S fun _ _ _ _ _ _ hr => by
    exact (bCons (sSet S.nd rfl (.inl rfl) (sCall ((ok_parked_there G false).mono (by decide)) hr rfl G.parked_there.m G.parked_there.F.kp (bi_parked_there G) .nil (fun _ => .nil) takes_cx rfl (sCons (sV 0 rfl (.inl rfl) rfl rfl) (sCons (sV 1 rfl (.inl rfl) rfl rfl) sNil rfl) rfl) (lenC (lenC lenN)) rfl rfl rfl) rfl (.inl rfl))
    (bOne (sRet (sB (bSum rfl) rfl G.z_sum rfl (by decide) rfl (sCons (sLc (own := [("place", 3), ("wish", 4)]) rfl S.nd (jZp rfl rfl G.z_zip (sV 2 rfl (.inl rfl) rfl rfl) (sV 1 rfl (.inl rfl) rfl rfl) rfl rfl rfl) (blkOk_by rfl) (by decide) (fun _ _ _ _ _ => (tgT rfl (tgsC (tgN S.nd rfl (.inl rfl) (.inr rfl)) (tgsC (tgN S.nd rfl (.inl rfl) (.inr rfl)) tgs0 rfl) rfl) rfl rfl (gsC_len (gsC_len gs0_len)))) (fun _ _ _ _ _ => (pts1 (sCmpT oNotN rfl (sV 3 rfl (.inl rfl) rfl rfl) sNon))) (fun _ _ _ _ _ => (sBin oSub (sV 3 rfl (.inl rfl) rfl rfl) (sV 4 rfl (.inl rfl) rfl rfl))) (fun _ => rfl)) sNil rfl) rfl rfl)))))
theorem ok_driven (G : Gm K mg) (kp : Bool) : FnG P w K mg base 5 G.driven.f G.driven.fd ["places", "wishes"] (spS ⟨fa, K⟩ (f_driven kp) ["places", "wishes"].length) := by
  have S := sc_driven
  exact (ok_def (k := 4) G.driven.F S fun _ _ _ _ _ _ hr => by
    exact (bCons (sDrop (sCall ((ok_check_wishes G false).mono (by decide)) hr rfl G.check_wishes.m G.check_wishes.F.kp (bi_check_wishes G) .nil (fun _ => .nil) takes_cx rfl (sCons (sV 0 rfl (.inl rfl) rfl rfl) (sCons (sV 1 rfl (.inl rfl) rfl rfl) sNil rfl) rfl) (lenC (lenC lenN)) rfl rfl rfl) rfl)
    (bOne (sRet (sCall ((ok_driven_there G kp).mono (by decide)) hr rfl G.driven_there.m G.driven_there.F.kp (bi_driven_there G) .nil (fun _ => .nil) takes_cx rfl (sCons (sV 0 rfl (.inl rfl) rfl rfl) (sCons (sV 1 rfl (.inl rfl) rfl rfl) sNil rfl) rfl) (lenC (lenC lenN)) rfl rfl rfl)))))
theorem ok__law_case_right (G : Gm K mg) (kp : Bool) : FnG P w K mg base 14 G._law_case_right.f G._law_case_right.fd ["purse"] (spS ⟨fa, K⟩ (f__law_case_right kp) ["purse"].length) := by
  have S := sc__law_case_right
  exact (ok_def (k := 13) G._law_case_right.F S fun _ _ _ _ _ _ hr => by
    exact (bCons (sSet S.nd rfl (.inr rfl) (sCall ((ok__law_draw G false).mono (by decide)) hr rfl G._law_draw.m G._law_draw.F.kp (bi__law_draw G) .nil (fun _ => .nil) takes_cx rfl (sCons (sV 0 rfl (.inl rfl) rfl rfl) (sCons sInt sNil rfl) rfl) (lenC (lenC lenN)) rfl rfl rfl) rfl (.inl rfl))
    (bCons (sSet S.nd rfl (.inr rfl) (sCall ((ok__law_wishes G false).mono (by decide)) hr rfl G._law_wishes.m G._law_wishes.F.kp (bi__law_wishes G) .nil (fun _ => .nil) takes_cx rfl (sCons (sV 0 rfl (.inl rfl) rfl rfl) (sCons (sV 1 rfl (.inr (.inl rfl)) rfl rfl) (sCons (sCall ((ok__law_draw G false).mono (by decide)) hr rfl G._law_draw.m G._law_draw.F.kp (bi__law_draw G) .nil (fun _ => .nil) takes_cx rfl (sCons (sV 0 rfl (.inl rfl) rfl rfl) (sCons (sBin oAdd (sV 1 rfl (.inr (.inl rfl)) rfl rfl) sInt) sNil rfl) rfl) (lenC (lenC lenN)) rfl rfl rfl) sNil rfl) rfl) rfl) (lenC (lenC (lenC lenN))) rfl rfl rfl) rfl (.inl rfl))
    (bCons (sAsg (sTup (sCons (sB (bRepr hr.g (hu64 hr)) rfl G.z_repr rfl (by decide) rfl (sCons (sV 2 rfl (.inr (.inl rfl)) rfl rfl) sNil rfl) rfl rfl) (sCons (sCall ((ok__law_parked G false).mono (by decide)) hr rfl G._law_parked.m G._law_parked.F.kp (bi__law_parked G) .nil (fun _ => .nil) takes_cx rfl (sCons (sV 1 rfl (.inr (.inl rfl)) rfl rfl) (sCons (sV 2 rfl (.inr (.inl rfl)) rfl rfl) sNil rfl) rfl) (lenC (lenC lenN)) rfl rfl rfl) sNil rfl) rfl)) (tgT rfl (tgsC (tgN S.nd rfl (.inl rfl) (.inl rfl)) (tgsC (tgN S.nd rfl (.inr rfl) (.inl rfl)) tgs0 rfl) rfl) rfl rfl (gsC_len (gsC_len gs0_len))) rfl rfl rfl)
    (bCons (sSetLc (own := [("place", 15)]) rfl S.nd rfl rfl rfl (jR1 rfl G.z_range (sV 1 rfl (.inr (.inl rfl)) rfl rfl) rfl rfl) (blkOk_by rfl) (by decide) (fun _ _ _ _ _ => (tgN S.nd rfl (.inr rfl) (.inl rfl))) (fun _ _ _ _ _ => pts0) (fun _ _ _ _ _ => (sIx (hu1 hr) (sBin oAdd (sLc (own := [("car", 16), ("end", 18)]) rfl S.nd (jEn rfl rfl G.z_enumerate (sV 4 rfl (.inr (.inl rfl)) rfl rfl) rfl rfl) (blkOk_by rfl) (by decide) (fun _ _ _ _ _ => (tgT rfl (tgsC (tgN S.nd rfl (.inl rfl) (.inr rfl)) (tgsC (tgN S.nd rfl (.inl rfl) (.inr rfl)) tgs0 rfl) rfl) rfl rfl (gsC_len (gsC_len gs0_len)))) (fun _ _ _ _ _ => (pts1 (sCmpT (oEq (hu64 hr)) rfl (sV 18 rfl (.inl rfl) rfl rfl) (sV 15 rfl (.inr (.inl rfl)) rfl rfl)))) (fun _ _ _ _ _ => (sV 16 rfl (.inl rfl) rfl rfl)) (fun _ => rfl)) (sLst (sCons sNon sNil rfl))) sInt (fun _ _ => rfl))) (fun _ => rfl))
    (bCons (sSetLc (own := [("car", 16), ("wish", 17)]) rfl S.nd rfl rfl rfl (jEn rfl rfl G.z_enumerate (sV 2 rfl (.inr (.inl rfl)) rfl rfl) rfl rfl) (blkOk_by rfl) (by decide) (fun _ _ _ _ _ => (tgT rfl (tgsC (tgN S.nd rfl (.inl rfl) (.inr rfl)) (tgsC (tgN S.nd rfl (.inl rfl) (.inr rfl)) tgs0 rfl) rfl) rfl rfl (gsC_len (gsC_len gs0_len)))) (fun _ _ _ _ _ => (pts1 (sCmpT (oEq (hu64 hr)) rfl (sIx (hu1 hr) (sV 4 rfl (.inr (.inl rfl)) rfl rfl) (sV 16 rfl (.inl rfl) rfl rfl) (fun _ _ => rfl)) (sV 17 rfl (.inl rfl) rfl rfl)))) (fun _ _ _ _ _ => (sV 16 rfl (.inl rfl) rfl rfl)) (fun _ => rfl))
    (bCons (sSet S.nd rfl (.inl rfl) (sB (bSum rfl) rfl G.z_sum rfl (by decide) rfl (sCons (sLc (own := [("end", 18), ("wish", 17)]) rfl S.nd (jZp rfl rfl G.z_zip (sV 4 rfl (.inr (.inl rfl)) rfl rfl) (sV 2 rfl (.inr (.inl rfl)) rfl rfl) rfl rfl rfl) (blkOk_by rfl) (by decide) (fun _ _ _ _ _ => (tgT rfl (tgsC (tgN S.nd rfl (.inl rfl) (.inr rfl)) (tgsC (tgN S.nd rfl (.inl rfl) (.inr rfl)) tgs0 rfl) rfl) rfl rfl (gsC_len (gsC_len gs0_len)))) (fun _ _ _ _ _ => (pts1 (sCmpT oNotN rfl (sV 18 rfl (.inl rfl) rfl rfl) sNon))) (fun _ _ _ _ _ => (sBin oSub (sV 18 rfl (.inl rfl) rfl rfl) (sV 17 rfl (.inl rfl) rfl rfl))) (fun _ => rfl)) sNil rfl) rfl rfl) rfl (.inl rfl))
    (bCons (sSet S.nd rfl (.inl rfl) (sLst (sCons (sV 4 rfl (.inr (.inl rfl)) rfl rfl) (sCons (sV 5 rfl (.inl rfl) rfl rfl) (sCons (sCmp (oNotIn (hu65 hr)) rfl sNon (sV 4 rfl (.inr (.inl rfl)) rfl rfl)) (sCons (sCall ((ok__law_bar G false).mono (by decide)) hr rfl G._law_bar.m G._law_bar.F.kp (bi__law_bar G) .nil (fun _ => .nil) takes_cx rfl (sCons (sV 1 rfl (.inr (.inl rfl)) rfl rfl) (sCons (sV 2 rfl (.inr (.inl rfl)) rfl rfl) sNil rfl) rfl) (lenC (lenC lenN)) rfl rfl rfl) (sCons (sV 6 rfl (.inl rfl) rfl rfl) (sCons (sV 7 rfl (.inl rfl) rfl rfl) sNil rfl) rfl) rfl) rfl) rfl) rfl)) rfl (.inl rfl))
    (bCons (sSet S.nd rfl (.inl rfl) (sLst (sCons (sCall ((ok_parked G true).mono (by decide)) hr rfl G.parked.m G.parked.F.kp (bi_parked G) .nil (fun _ => .nil) takes_cx rfl (sCons (sV 1 rfl (.inr (.inl rfl)) rfl rfl) (sCons (sV 2 rfl (.inr (.inl rfl)) rfl rfl) sNil rfl) rfl) (lenC (lenC lenN)) rfl rfl rfl) (sCons (sCall ((ok_standing G true).mono (by decide)) hr rfl G.standing.m G.standing.F.kp (bi_standing G) .nil (fun _ => .nil) takes_cx rfl (sCons (sV 1 rfl (.inr (.inl rfl)) rfl rfl) (sCons (sV 2 rfl (.inr (.inl rfl)) rfl rfl) sNil rfl) rfl) (lenC (lenC lenN)) rfl rfl rfl) sNil rfl) rfl)) rfl (.inl rfl))
    (bCons (sSet S.nd rfl (.inl rfl) (sBin oAdd (sV 9 rfl (.inl rfl) rfl rfl) (sLst (sCons (sCall ((ok_does_none_leave G true).mono (by decide)) hr rfl G.does_none_leave.m G.does_none_leave.F.kp (bi_does_none_leave G) .nil (fun _ => .nil) takes_cx rfl (sCons (sV 1 rfl (.inr (.inl rfl)) rfl rfl) (sCons (sV 2 rfl (.inr (.inl rfl)) rfl rfl) sNil rfl) rfl) (lenC (lenC lenN)) rfl rfl rfl) (sCons (sCall ((ok_park_bar G true).mono (by decide)) hr rfl G.park_bar.m G.park_bar.F.kp (bi_park_bar G) .nil (fun _ => .nil) takes_cx rfl (sCons (sV 1 rfl (.inr (.inl rfl)) rfl rfl) (sCons (sV 2 rfl (.inr (.inl rfl)) rfl rfl) sNil rfl) rfl) (lenC (lenC lenN)) rfl rfl rfl) sNil rfl) rfl))) rfl (.inl rfl))
    (bCons (sSet S.nd rfl (.inl rfl) (sBin oAdd (sV 9 rfl (.inl rfl) rfl rfl) (sLst (sCons (sCall ((ok_lucky_cars G true).mono (by decide)) hr rfl G.lucky_cars.m G.lucky_cars.F.kp (bi_lucky_cars G) .nil (fun _ => .nil) takes_cx rfl (sCons (sV 1 rfl (.inr (.inl rfl)) rfl rfl) (sCons (sV 2 rfl (.inr (.inl rfl)) rfl rfl) sNil rfl) rfl) (lenC (lenC lenN)) rfl rfl rfl) (sCons (sCall ((ok_driven G true).mono (by decide)) hr rfl G.driven.m G.driven.F.kp (bi_driven G) .nil (fun _ => .nil) takes_cx rfl (sCons (sV 1 rfl (.inr (.inl rfl)) rfl rfl) (sCons (sV 2 rfl (.inr (.inl rfl)) rfl rfl) sNil rfl) rfl) (lenC (lenC lenN)) rfl rfl rfl) sNil rfl) rfl))) rfl (.inl rfl))
    (bCons (sSet S.nd rfl (.inl rfl) (sLst (sCons (sCallK (ks := ["wishes", "places"]) (pm := [1, 0]) ((ok_parked G false).mono (by decide)) hr rfl G.parked.m G.parked.F.kp (kw_parked_wishes_places G) takes_cx rfl (by decide) (kCons (sV 2 rfl (.inr (.inl rfl)) rfl rfl) (kCons (sV 1 rfl (.inr (.inl rfl)) rfl rfl) kNil)) rfl rfl rfl rfl) (sCons (sCallK (ks := ["wishes", "places"]) (pm := [1, 0]) ((ok_standing G false).mono (by decide)) hr rfl G.standing.m G.standing.F.kp (kw_standing_wishes_places G) takes_cx rfl (by decide) (kCons (sV 2 rfl (.inr (.inl rfl)) rfl rfl) (kCons (sV 1 rfl (.inr (.inl rfl)) rfl rfl) kNil)) rfl rfl rfl rfl) sNil rfl) rfl)) rfl (.inl rfl))
    (bCons (sSet S.nd rfl (.inl rfl) (sBin oAdd (sV 10 rfl (.inl rfl) rfl rfl) (sLst (sCons (sCallK (ks := ["wishes", "places"]) (pm := [1, 0]) ((ok_does_none_leave G false).mono (by decide)) hr rfl G.does_none_leave.m G.does_none_leave.F.kp (kw_does_none_leave_wishes_places G) takes_cx rfl (by decide) (kCons (sV 2 rfl (.inr (.inl rfl)) rfl rfl) (kCons (sV 1 rfl (.inr (.inl rfl)) rfl rfl) kNil)) rfl rfl rfl rfl) (sCons (sCallK (ks := ["wishes", "places"]) (pm := [1, 0]) ((ok_park_bar G false).mono (by decide)) hr rfl G.park_bar.m G.park_bar.F.kp (kw_park_bar_wishes_places G) takes_cx rfl (by decide) (kCons (sV 2 rfl (.inr (.inl rfl)) rfl rfl) (kCons (sV 1 rfl (.inr (.inl rfl)) rfl rfl) kNil)) rfl rfl rfl rfl) sNil rfl) rfl))) rfl (.inl rfl))
    (bCons (sSet S.nd rfl (.inl rfl) (sBin oAdd (sV 10 rfl (.inl rfl) rfl rfl) (sLst (sCons (sCallK (ks := ["wishes", "places"]) (pm := [1, 0]) ((ok_lucky_cars G false).mono (by decide)) hr rfl G.lucky_cars.m G.lucky_cars.F.kp (kw_lucky_cars_wishes_places G) takes_cx rfl (by decide) (kCons (sV 2 rfl (.inr (.inl rfl)) rfl rfl) (kCons (sV 1 rfl (.inr (.inl rfl)) rfl rfl) kNil)) rfl rfl rfl rfl) (sCons (sCallK (ks := ["wishes", "places"]) (pm := [1, 0]) ((ok_driven G false).mono (by decide)) hr rfl G.driven.m G.driven.F.kp (kw_driven_wishes_places G) takes_cx rfl (by decide) (kCons (sV 2 rfl (.inr (.inl rfl)) rfl rfl) (kCons (sV 1 rfl (.inr (.inl rfl)) rfl rfl) kNil)) rfl rfl rfl rfl) sNil rfl) rfl))) rfl (.inl rfl))
    (bCons (sIfS (PW.pt (sOr (sNotT (sTst (sCall ((ok__law_exact G 12 false).mono (by decide)) hr rfl G._law_exact.m G._law_exact.F.kp (bi__law_exact G) .nil (fun _ => .nil) takes_cx rfl (sCons (sLst (sCons (sV 8 rfl (.inl rfl) rfl rfl) (sCons (sV 8 rfl (.inl rfl) rfl rfl) sNil rfl) rfl)) (sCons (sLst (sCons (sV 9 rfl (.inl rfl) rfl rfl) (sCons (sV 10 rfl (.inl rfl) rfl rfl) sNil rfl) rfl)) sNil rfl) rfl) (lenC (lenC lenN)) rfl rfl rfl) (fun _ => rfl))) (sOr1 (sCmpT (oNe (hu64 hr)) rfl (sCmp oIsN rfl (sIx (hu1 hr) (sV 8 rfl (.inl rfl) rfl rfl) sInt (fun _ _ => rfl)) sNon) (sIx (hu1 hr) (sV 8 rfl (.inl rfl) rfl rfl) sInt (fun _ _ => rfl))))))
    (bOne (sRet sBl))
    bNil)
    (bCons (sSetLc (own := [("place", 15)]) rfl S.nd rfl rfl rfl (jR1 rfl G.z_range (sV 1 rfl (.inr (.inl rfl)) rfl rfl) rfl rfl) (blkOk_by rfl) (by decide) (fun _ _ _ _ _ => (tgN S.nd rfl (.inr rfl) (.inl rfl))) (fun _ _ _ _ _ => pts0) (fun _ _ _ _ _ => (sBin oAdd (sBin oSub (sB (bLen rfl) rfl G.z_len rfl (by decide) rfl (sCons (sLc (own := [("wish", 17)]) rfl S.nd (jValL rfl (sV 2 rfl (.inr (.inl rfl)) rfl rfl)) (blkOk_by rfl) (by decide) (fun _ _ _ _ _ => (tgN S.nd rfl (.inl rfl) (.inr rfl))) (fun _ _ _ _ _ => (pts1 (sCmpT oGe rfl (sV 17 rfl (.inl rfl) rfl rfl) (sV 15 rfl (.inr (.inl rfl)) rfl rfl)))) (fun _ _ _ _ _ => (sV 17 rfl (.inl rfl) rfl rfl)) (fun _ => rfl)) sNil rfl) rfl rfl) (sV 1 rfl (.inr (.inl rfl)) rfl rfl)) (sV 15 rfl (.inr (.inl rfl)) rfl rfl))) (fun _ => rfl))
    (bCons (sIfS (sCmpT (oNe (hu64 hr)) rfl (sMeth PySem.F.slot_list_count PySem.F.type_list_count (mCount (hu65 hr)) (sV 4 rfl (.inr (.inl rfl)) rfl rfl) (sCons sNon sNil rfl) rfl rfl rfl rfl rfl) (sB (bMax rfl) rfl G.z_max rfl (by decide) rfl (sCons (sBin oAdd (sV 11 rfl (.inl rfl) rfl rfl) (sLst (sCons sInt sNil rfl))) sNil rfl) rfl rfl))
    (bOne (sRet sBl))
    bNil)
    (bCons (sDrop (sMut PySem.F.slot_list_append PySem.F.type_list_append uAppend (sIx (hu1 hr) (sV 9 rfl (.inl rfl) rfl rfl) sInt (fun _ _ => rfl)) (sCons sStr sNil rfl) rfl rfl rfl rfl rfl) rfl)
    (bCons (sDrop (sMut PySem.F.slot_list_append PySem.F.type_list_append uAppend (sIx (hu1 hr) (sV 9 rfl (.inl rfl) rfl rfl) sInt (fun _ _ => rfl)) (sCons sStr sNil rfl) rfl rfl rfl rfl rfl) rfl)
    (bCons (sDrop (sMut PySem.F.slot_list_append PySem.F.type_list_append uAppend (sIx (hu1 hr) (sV 9 rfl (.inl rfl) rfl rfl) sInt (fun _ _ => rfl)) (sCons sStr sNil rfl) rfl rfl rfl rfl rfl) rfl)
    (bCons (sIfS (sCmpT oNotN rfl (sIx (hu1 hr) (sV 9 rfl (.inl rfl) rfl rfl) sInt (fun _ _ => rfl)) sNon)
    (bOne (sDrop (sMut PySem.F.slot_list_append PySem.F.type_list_append uAppend (sIx (hu1 hr) (sIx (hu1 hr) (sV 9 rfl (.inl rfl) rfl rfl) sInt (fun _ _ => rfl)) sInt (fun _ _ => rfl)) (sCons sStr sNil rfl) rfl rfl rfl rfl rfl) rfl))
    bNil)
    (bCons (sSet S.nd rfl (.inl rfl) (sCall ((ok__law_shuffled G false).mono (by decide)) hr rfl G._law_shuffled.m G._law_shuffled.F.kp (bi__law_shuffled G) .nil (fun _ => .nil) takes_cx rfl (sCons (sV 0 rfl (.inl rfl) rfl rfl) (sCons (sV 2 rfl (.inr (.inl rfl)) rfl rfl) sNil rfl) rfl) (lenC (lenC lenN)) rfl rfl rfl) rfl (.inl rfl))
    (bCons (sSetLc (own := [("end", 18)]) rfl S.nd rfl rfl rfl (jValL rfl (sV 5 rfl (.inl rfl) rfl rfl)) (blkOk_by rfl) (by decide) (fun _ _ _ _ _ => (tgN S.nd rfl (.inl rfl) (.inr rfl))) (fun _ _ _ _ _ => pts0) (fun _ _ _ _ _ => (sCmp oNotN rfl (sV 18 rfl (.inl rfl) rfl rfl) sNon)) (fun _ => rfl))
    (bCons (sSetLc (own := [("car", 16)]) rfl S.nd rfl rfl rfl (jValL rfl (sCall ((ok_standing G false).mono (by decide)) hr rfl G.standing.m G.standing.F.kp (bi_standing G) .nil (fun _ => .nil) takes_cx rfl (sCons (sV 1 rfl (.inr (.inl rfl)) rfl rfl) (sCons (sV 12 rfl (.inl rfl) rfl rfl) sNil rfl) rfl) (lenC (lenC lenN)) rfl rfl rfl)) (blkOk_by rfl) (by decide) (fun _ _ _ _ _ => (tgN S.nd rfl (.inl rfl) (.inr rfl))) (fun _ _ _ _ _ => pts0) (fun _ _ _ _ _ => (sCmp oNotN rfl (sV 16 rfl (.inl rfl) rfl rfl) sNon)) (fun _ => rfl))
    (bCons (sSet S.nd rfl (.inl rfl) (sLst (sCons (sCall ((ok_parked G true).mono (by decide)) hr rfl G.parked.m G.parked.F.kp (bi_parked G) .nil (fun _ => .nil) takes_cx rfl (sCons (sV 1 rfl (.inr (.inl rfl)) rfl rfl) (sCons (sV 2 rfl (.inr (.inl rfl)) rfl rfl) sNil rfl) rfl) (lenC (lenC lenN)) rfl rfl rfl) (sCons (sCall ((ok_standing G true).mono (by decide)) hr rfl G.standing.m G.standing.F.kp (bi_standing G) .nil (fun _ => .nil) takes_cx rfl (sCons (sV 1 rfl (.inr (.inl rfl)) rfl rfl) (sCons (sV 2 rfl (.inr (.inl rfl)) rfl rfl) sNil rfl) rfl) (lenC (lenC lenN)) rfl rfl rfl) (sCons (sCall ((ok_park_bar G true).mono (by decide)) hr rfl G.park_bar.m G.park_bar.F.kp (bi_park_bar G) .nil (fun _ => .nil) takes_cx rfl (sCons (sV 1 rfl (.inr (.inl rfl)) rfl rfl) (sCons (sV 2 rfl (.inr (.inl rfl)) rfl rfl) sNil rfl) rfl) (lenC (lenC lenN)) rfl rfl rfl) (sCons (sCall ((ok_lucky_cars G true).mono (by decide)) hr rfl G.lucky_cars.m G.lucky_cars.F.kp (bi_lucky_cars G) .nil (fun _ => .nil) takes_cx rfl (sCons (sV 1 rfl (.inr (.inl rfl)) rfl rfl) (sCons (sV 2 rfl (.inr (.inl rfl)) rfl rfl) sNil rfl) rfl) (lenC (lenC lenN)) rfl rfl rfl) sNil rfl) rfl) rfl) rfl)) rfl (.inl rfl))
    (bOne (sRet (sAndV (sCall ((ok__law_exact G 12 false).mono (by decide)) hr rfl G._law_exact.m G._law_exact.F.kp (bi__law_exact G) .nil (fun _ => .nil) takes_cx rfl (sCons (sLst (sCons (sV 13 rfl (.inl rfl) rfl rfl) (sCons (sBin oAdd (sSl rfl (sV 8 rfl (.inl rfl) rfl rfl) sP0 (sP1 sInt)) (sSl rfl (sV 8 rfl (.inl rfl) rfl rfl) (sP1 sInt) (sP1 sInt))) sNil rfl) rfl)) (sCons (sLst (sCons (sV 14 rfl (.inl rfl) rfl rfl) (sCons (sV 9 rfl (.inl rfl) rfl rfl) sNil rfl) rfl)) sNil rfl) rfl) (lenC (lenC lenN)) rfl rfl rfl) (sOne (sCmp (oEq (hu64 hr)) rfl (sB (bRepr hr.g (hu64 hr)) rfl G.z_repr rfl (by decide) rfl (sCons (sV 2 rfl (.inr (.inl rfl)) rfl rfl) sNil rfl) rfl rfl) (sV 3 rfl (.inl rfl) rfl rfl)))))))))))))))))))))))))))))))
theorem ok_law (G : Gm K mg) (kp : Bool) : FnG P w K mg base 15 G.law.f G.law.fd ["script"] (spS ⟨fa, K⟩ (f_law kp) ["script"].length) := by
  have S := sc_law
  exact (ok_def (k := 14) G.law.F S fun _ _ _ _ _ _ hr => by
    exact (bCons (sFor owns_cx rfl (jValL rfl (sCall ((ok__law_purses G true).mono (by decide)) hr rfl G._law_purses.m G._law_purses.F.kp (bi__law_purses G) .nil (fun _ => .nil) takes_cx rfl (sCons (sV 0 rfl (.inl rfl) rfl rfl) (sCons sInt sNil rfl) rfl) (lenC (lenC lenN)) rfl rfl rfl)) (tgN S.nd rfl (.inl rfl) (.inl rfl))
    (bOne (sFor owns_cx rfl (jR1 rfl G.z_range sInt rfl rfl) (tgN S.nd rfl (.inl rfl) (.inl rfl))
      (bOne (sIfS (sNotT (sTst (sCall ((ok__law_case_right G false).mono (by decide)) hr rfl G._law_case_right.m G._law_case_right.F.kp (bi__law_case_right G) .nil (fun _ => .nil) takes_cx rfl (sCons (sV 1 rfl (.inl rfl) rfl rfl) sNil rfl) (lenC lenN) rfl rfl rfl) (fun _ => rfl)))
        (bOne (sRet sBl))
        bNil)) (fun _ => rfl))) (fun _ => rfl))
    (bCons (sSet S.nd rfl (.inl rfl) (sLst (sCons sInt (sCons sInt (sCons sInt (sCons sInt (sCons sInt sNil rfl) rfl) rfl) rfl) rfl)) rfl (.inl rfl))
    (bCons (sSet S.nd rfl (.inl rfl) (sLst (sCons (sCall ((ok_parked G false).mono (by decide)) hr rfl G.parked.m G.parked.F.kp (bi_parked G) .nil (fun _ => .nil) takes_cx rfl (sCons sInt (sCons (sV 3 rfl (.inl rfl) rfl rfl) sNil rfl) rfl) (lenC (lenC lenN)) rfl rfl rfl) (sCons (sCall ((ok_standing G false).mono (by decide)) hr rfl G.standing.m G.standing.F.kp (bi_standing G) .nil (fun _ => .nil) takes_cx rfl (sCons sInt (sCons (sV 3 rfl (.inl rfl) rfl rfl) sNil rfl) rfl) (lenC (lenC lenN)) rfl rfl rfl) (sCons (sCall ((ok_parked G false).mono (by decide)) hr rfl G.parked.m G.parked.F.kp (bi_parked G) .nil (fun _ => .nil) takes_cx rfl (sCons sInt (sCons (sLst (sCons sInt (sCons sInt (sCons sInt (sCons sInt sNil rfl) rfl) rfl) rfl)) sNil rfl) rfl) (lenC (lenC lenN)) rfl rfl rfl) sNil rfl) rfl) rfl)) rfl (.inl rfl))
    (bCons (sSet S.nd rfl (.inl rfl) (sBin oAdd (sV 4 rfl (.inl rfl) rfl rfl) (sLst (sCons (sCall ((ok_park_bar G false).mono (by decide)) hr rfl G.park_bar.m G.park_bar.F.kp (bi_park_bar G) .nil (fun _ => .nil) takes_cx rfl (sCons sInt (sCons (sLst (sCons sInt (sCons sInt (sCons sInt (sCons sInt sNil rfl) rfl) rfl) rfl)) sNil rfl) rfl) (lenC (lenC lenN)) rfl rfl rfl) (sCons (sCall ((ok_standing G false).mono (by decide)) hr rfl G.standing.m G.standing.F.kp (bi_standing G) .nil (fun _ => .nil) takes_cx rfl (sCons sInt (sCons (sLst sNil) sNil rfl) rfl) (lenC (lenC lenN)) rfl rfl rfl) sNil rfl) rfl))) rfl (.inl rfl))
    (bCons (sSet S.nd rfl (.inl rfl) (sLst (sCons (sLst (sCons sInt (sCons sInt (sCons sInt (sCons sInt (sCons sInt sNil rfl) rfl) rfl) rfl) rfl)) (sCons (sLst (sCons sInt (sCons sInt (sCons sInt (sCons sInt (sCons sInt sNil rfl) rfl) rfl) rfl) rfl)) (sCons (sLst (sCons sInt (sCons sInt (sCons sNon (sCons sInt sNil rfl) rfl) rfl) rfl)) (sCons (sTup (sCons sInt (sCons (sLst (sCons sInt (sCons sInt (sCons sInt (sCons sInt sNil rfl) rfl) rfl) rfl)) sNil rfl) rfl)) (sCons (sLst (sCons sNon (sCons sNon sNil rfl) rfl)) sNil rfl) rfl) rfl) rfl) rfl)) rfl (.inl rfl))
    (bCons (sSet S.nd rfl (.inl rfl) (sLst (sCons (sCall ((ok_parked G false).mono (by decide)) hr rfl G.parked.m G.parked.F.kp (bi_parked G) .nil (fun _ => .nil) takes_cx rfl (sCons sInt (sCons (sLst sNil) sNil rfl) rfl) (lenC (lenC lenN)) rfl rfl rfl) (sCons (sCall ((ok_does_none_leave G false).mono (by decide)) hr rfl G.does_none_leave.m G.does_none_leave.F.kp (bi_does_none_leave G) .nil (fun _ => .nil) takes_cx rfl (sCons sInt (sCons (sLst sNil) sNil rfl) rfl) (lenC (lenC lenN)) rfl rfl rfl) (sCons (sCall ((ok_park_bar G false).mono (by decide)) hr rfl G.park_bar.m G.park_bar.F.kp (bi_park_bar G) .nil (fun _ => .nil) takes_cx rfl (sCons sInt (sCons (sLst sNil) sNil rfl) rfl) (lenC (lenC lenN)) rfl rfl rfl) sNil rfl) rfl) rfl)) rfl (.inl rfl))
    (bOne (sRet (sAndV (sCall ((ok__law_exact G 12 false).mono (by decide)) hr rfl G._law_exact.m G._law_exact.F.kp (bi__law_exact G) .nil (fun _ => .nil) takes_cx rfl (sCons (sV 5 rfl (.inl rfl) rfl rfl) (sCons (sV 4 rfl (.inl rfl) rfl rfl) sNil rfl) rfl) (lenC (lenC lenN)) rfl rfl rfl) (sOne (sCall ((ok__law_exact G 12 false).mono (by decide)) hr rfl G._law_exact.m G._law_exact.F.kp (bi__law_exact G) .nil (fun _ => .nil) takes_cx rfl (sCons (sLst (sCons (sLst sNil) (sCons sBl (sCons sNon sNil rfl) rfl) rfl)) (sCons (sV 6 rfl (.inl rfl) rfl rfl) sNil rfl) rfl) (lenC (lenC lenN)) rfl rfl rfl))))))))))))
end
theorem gm_mk {K : PySem.W.Frag} {h : Heap} {mg : Str → Option Value} (X : K.In h) (G : h.Ns mainGlobals mg)
    {f0 : Addr} {od0 an0 : Option Addr} {sl0 : Array (Option Value)} {oc0 kV0 dc0 pm0 cd0 ct0 : Value}
    (a0 : PySem.W.nsIn K mainGlobals "_law_purse" = some (some (.ref f0))) (l0 : K.lookup f0 = some ⟨oc0, od0, .func (PySem.W.fnOf "_law_purse" "_law_purse" (defArgs s__law_purse) (defBody s__law_purse) (defScope s__law_purse) .none kV0 dc0 pm0 an0 cd0 ct0), sl0⟩) (c0 : PySem.W.codeIn K cd0 "_law_purse" = true) (k0 : PySem.W.keepIn K (.ref f0) = true)
    {f1 : Addr} {od1 an1 : Option Addr} {sl1 : Array (Option Value)} {oc1 kV1 dc1 pm1 cd1 ct1 : Value}
    (a1 : PySem.W.nsIn K mainGlobals "_law_purses" = some (some (.ref f1))) (l1 : K.lookup f1 = some ⟨oc1, od1, .func (PySem.W.fnOf "_law_purses" "_law_purses" (defArgs s__law_purses) (defBody s__law_purses) (defScope s__law_purses) .none kV1 dc1 pm1 an1 cd1 ct1), sl1⟩) (c1 : PySem.W.codeIn K cd1 "_law_purses" = true) (k1 : PySem.W.keepIn K (.ref f1) = true)
    {f2 : Addr} {od2 an2 : Option Addr} {sl2 : Array (Option Value)} {oc2 kV2 dc2 pm2 cd2 ct2 : Value}
    (a2 : PySem.W.nsIn K mainGlobals "is_whole" = some (some (.ref f2))) (l2 : K.lookup f2 = some ⟨oc2, od2, .func (PySem.W.fnOf "is_whole" "is_whole" (defArgs s_is_whole) (defBody s_is_whole) (defScope s_is_whole) .none kV2 dc2 pm2 an2 cd2 ct2), sl2⟩) (c2 : PySem.W.codeIn K cd2 "is_whole" = true) (k2 : PySem.W.keepIn K (.ref f2) = true)
    {f3 : Addr} {od3 an3 : Option Addr} {sl3 : Array (Option Value)} {oc3 dV3 kV3 dc3 pm3 cd3 ct3 : Value}
    (a3 : PySem.W.nsIn K mainGlobals "is_count" = some (some (.ref f3))) (l3 : K.lookup f3 = some ⟨oc3, od3, .func (PySem.W.fnOf "is_count" "is_count" (defArgs s_is_count) (defBody s_is_count) (defScope s_is_count) dV3 kV3 dc3 pm3 an3 cd3 ct3), sl3⟩) (c3 : PySem.W.codeIn K cd3 "is_count" = true) (k3 : PySem.W.keepIn K (.ref f3) = true)
    {T3 : Addr} {oT3 : Obj} {it3 : List Value} {nT3 : Nat} (t3 : dV3 = .ref T3) (u3 : K.lookup T3 = some oT3) (v3 : oT3.data = .seq it3.toArray nT3) (w3 : Vals [V.int 0] it3)
    {f4 : Addr} {od4 an4 : Option Addr} {sl4 : Array (Option Value)} {oc4 kV4 dc4 pm4 cd4 ct4 : Value}
    (a4 : PySem.W.nsIn K mainGlobals "check_places" = some (some (.ref f4))) (l4 : K.lookup f4 = some ⟨oc4, od4, .func (PySem.W.fnOf "check_places" "check_places" (defArgs s_check_places) (defBody s_check_places) (defScope s_check_places) .none kV4 dc4 pm4 an4 cd4 ct4), sl4⟩) (c4 : PySem.W.codeIn K cd4 "check_places" = true) (k4 : PySem.W.keepIn K (.ref f4) = true)
    {f5 : Addr} {od5 an5 : Option Addr} {sl5 : Array (Option Value)} {oc5 kV5 dc5 pm5 cd5 ct5 : Value}
    (a5 : PySem.W.nsIn K mainGlobals "are_wishes" = some (some (.ref f5))) (l5 : K.lookup f5 = some ⟨oc5, od5, .func (PySem.W.fnOf "are_wishes" "are_wishes" (defArgs s_are_wishes) (defBody s_are_wishes) (defScope s_are_wishes) .none kV5 dc5 pm5 an5 cd5 ct5), sl5⟩) (c5 : PySem.W.codeIn K cd5 "are_wishes" = true) (k5 : PySem.W.keepIn K (.ref f5) = true)
    {f6 : Addr} {od6 an6 : Option Addr} {sl6 : Array (Option Value)} {oc6 kV6 dc6 pm6 cd6 ct6 : Value}
    (a6 : PySem.W.nsIn K mainGlobals "check_wishes" = some (some (.ref f6))) (l6 : K.lookup f6 = some ⟨oc6, od6, .func (PySem.W.fnOf "check_wishes" "check_wishes" (defArgs s_check_wishes) (defBody s_check_wishes) (defScope s_check_wishes) .none kV6 dc6 pm6 an6 cd6 ct6), sl6⟩) (c6 : PySem.W.codeIn K cd6 "check_wishes" = true) (k6 : PySem.W.keepIn K (.ref f6) = true)
    {f7 : Addr} {od7 an7 : Option Addr} {sl7 : Array (Option Value)} {oc7 kV7 dc7 pm7 cd7 ct7 : Value}
    (a7 : PySem.W.nsIn K mainGlobals "parked_there" = some (some (.ref f7))) (l7 : K.lookup f7 = some ⟨oc7, od7, .func (PySem.W.fnOf "parked_there" "parked_there" (defArgs s_parked_there) (defBody s_parked_there) (defScope s_parked_there) .none kV7 dc7 pm7 an7 cd7 ct7), sl7⟩) (c7 : PySem.W.codeIn K cd7 "parked_there" = true) (k7 : PySem.W.keepIn K (.ref f7) = true)
    {f8 : Addr} {od8 an8 : Option Addr} {sl8 : Array (Option Value)} {oc8 kV8 dc8 pm8 cd8 ct8 : Value}
    (a8 : PySem.W.nsIn K mainGlobals "parked" = some (some (.ref f8))) (l8 : K.lookup f8 = some ⟨oc8, od8, .func (PySem.W.fnOf "parked" "parked" (defArgs s_parked) (defBody s_parked) (defScope s_parked) .none kV8 dc8 pm8 an8 cd8 ct8), sl8⟩) (c8 : PySem.W.codeIn K cd8 "parked" = true) (k8 : PySem.W.keepIn K (.ref f8) = true)
    {f9 : Addr} {od9 an9 : Option Addr} {sl9 : Array (Option Value)} {oc9 kV9 dc9 pm9 cd9 ct9 : Value}
    (a9 : PySem.W.nsIn K mainGlobals "standing_there" = some (some (.ref f9))) (l9 : K.lookup f9 = some ⟨oc9, od9, .func (PySem.W.fnOf "standing_there" "standing_there" (defArgs s_standing_there) (defBody s_standing_there) (defScope s_standing_there) .none kV9 dc9 pm9 an9 cd9 ct9), sl9⟩) (c9 : PySem.W.codeIn K cd9 "standing_there" = true) (k9 : PySem.W.keepIn K (.ref f9) = true)
    {f10 : Addr} {od10 an10 : Option Addr} {sl10 : Array (Option Value)} {oc10 kV10 dc10 pm10 cd10 ct10 : Value}
    (a10 : PySem.W.nsIn K mainGlobals "standing" = some (some (.ref f10))) (l10 : K.lookup f10 = some ⟨oc10, od10, .func (PySem.W.fnOf "standing" "standing" (defArgs s_standing) (defBody s_standing) (defScope s_standing) .none kV10 dc10 pm10 an10 cd10 ct10), sl10⟩) (c10 : PySem.W.codeIn K cd10 "standing" = true) (k10 : PySem.W.keepIn K (.ref f10) = true)
    {f11 : Addr} {od11 an11 : Option Addr} {sl11 : Array (Option Value)} {oc11 kV11 dc11 pm11 cd11 ct11 : Value}
    (a11 : PySem.W.nsIn K mainGlobals "first_crowded" = some (some (.ref f11))) (l11 : K.lookup f11 = some ⟨oc11, od11, .func (PySem.W.fnOf "first_crowded" "first_crowded" (defArgs s_first_crowded) (defBody s_first_crowded) (defScope s_first_crowded) .none kV11 dc11 pm11 an11 cd11 ct11), sl11⟩) (c11 : PySem.W.codeIn K cd11 "first_crowded" = true) (k11 : PySem.W.keepIn K (.ref f11) = true)
    {f12 : Addr} {od12 an12 : Option Addr} {sl12 : Array (Option Value)} {oc12 kV12 dc12 pm12 cd12 ct12 : Value}
    (a12 : PySem.W.nsIn K mainGlobals "does_none_leave" = some (some (.ref f12))) (l12 : K.lookup f12 = some ⟨oc12, od12, .func (PySem.W.fnOf "does_none_leave" "does_none_leave" (defArgs s_does_none_leave) (defBody s_does_none_leave) (defScope s_does_none_leave) .none kV12 dc12 pm12 an12 cd12 ct12), sl12⟩) (c12 : PySem.W.codeIn K cd12 "does_none_leave" = true) (k12 : PySem.W.keepIn K (.ref f12) = true)
    {f13 : Addr} {od13 an13 : Option Addr} {sl13 : Array (Option Value)} {oc13 kV13 dc13 pm13 cd13 ct13 : Value}
    (a13 : PySem.W.nsIn K mainGlobals "park_bar" = some (some (.ref f13))) (l13 : K.lookup f13 = some ⟨oc13, od13, .func (PySem.W.fnOf "park_bar" "park_bar" (defArgs s_park_bar) (defBody s_park_bar) (defScope s_park_bar) .none kV13 dc13 pm13 an13 cd13 ct13), sl13⟩) (c13 : PySem.W.codeIn K cd13 "park_bar" = true) (k13 : PySem.W.keepIn K (.ref f13) = true)
    {f14 : Addr} {od14 an14 : Option Addr} {sl14 : Array (Option Value)} {oc14 kV14 dc14 pm14 cd14 ct14 : Value}
    (a14 : PySem.W.nsIn K mainGlobals "_law_exact" = some (some (.ref f14))) (l14 : K.lookup f14 = some ⟨oc14, od14, .func (PySem.W.fnOf "_law_exact" "_law_exact" (defArgs s__law_exact) (defBody s__law_exact) (defScope s__law_exact) .none kV14 dc14 pm14 an14 cd14 ct14), sl14⟩) (c14 : PySem.W.codeIn K cd14 "_law_exact" = true) (k14 : PySem.W.keepIn K (.ref f14) = true)
    {f15 : Addr} {od15 an15 : Option Addr} {sl15 : Array (Option Value)} {oc15 kV15 dc15 pm15 cd15 ct15 : Value}
    (a15 : PySem.W.nsIn K mainGlobals "_law_mixed" = some (some (.ref f15))) (l15 : K.lookup f15 = some ⟨oc15, od15, .func (PySem.W.fnOf "_law_mixed" "_law_mixed" (defArgs s__law_mixed) (defBody s__law_mixed) (defScope s__law_mixed) .none kV15 dc15 pm15 an15 cd15 ct15), sl15⟩) (c15 : PySem.W.codeIn K cd15 "_law_mixed" = true) (k15 : PySem.W.keepIn K (.ref f15) = true)
    {f16 : Addr} {od16 an16 : Option Addr} {sl16 : Array (Option Value)} {oc16 kV16 dc16 pm16 cd16 ct16 : Value}
    (a16 : PySem.W.nsIn K mainGlobals "_law_draw" = some (some (.ref f16))) (l16 : K.lookup f16 = some ⟨oc16, od16, .func (PySem.W.fnOf "_law_draw" "_law_draw" (defArgs s__law_draw) (defBody s__law_draw) (defScope s__law_draw) .none kV16 dc16 pm16 an16 cd16 ct16), sl16⟩) (c16 : PySem.W.codeIn K cd16 "_law_draw" = true) (k16 : PySem.W.keepIn K (.ref f16) = true)
    {f17 : Addr} {od17 an17 : Option Addr} {sl17 : Array (Option Value)} {oc17 kV17 dc17 pm17 cd17 ct17 : Value}
    (a17 : PySem.W.nsIn K mainGlobals "_law_shuffled" = some (some (.ref f17))) (l17 : K.lookup f17 = some ⟨oc17, od17, .func (PySem.W.fnOf "_law_shuffled" "_law_shuffled" (defArgs s__law_shuffled) (defBody s__law_shuffled) (defScope s__law_shuffled) .none kV17 dc17 pm17 an17 cd17 ct17), sl17⟩) (c17 : PySem.W.codeIn K cd17 "_law_shuffled" = true) (k17 : PySem.W.keepIn K (.ref f17) = true)
    {f18 : Addr} {od18 an18 : Option Addr} {sl18 : Array (Option Value)} {oc18 kV18 dc18 pm18 cd18 ct18 : Value}
    (a18 : PySem.W.nsIn K mainGlobals "_law_parked" = some (some (.ref f18))) (l18 : K.lookup f18 = some ⟨oc18, od18, .func (PySem.W.fnOf "_law_parked" "_law_parked" (defArgs s__law_parked) (defBody s__law_parked) (defScope s__law_parked) .none kV18 dc18 pm18 an18 cd18 ct18), sl18⟩) (c18 : PySem.W.codeIn K cd18 "_law_parked" = true) (k18 : PySem.W.keepIn K (.ref f18) = true)
    {f19 : Addr} {od19 an19 : Option Addr} {sl19 : Array (Option Value)} {oc19 kV19 dc19 pm19 cd19 ct19 : Value}
    (a19 : PySem.W.nsIn K mainGlobals "_law_one_of" = some (some (.ref f19))) (l19 : K.lookup f19 = some ⟨oc19, od19, .func (PySem.W.fnOf "_law_one_of" "_law_one_of" (defArgs s__law_one_of) (defBody s__law_one_of) (defScope s__law_one_of) .none kV19 dc19 pm19 an19 cd19 ct19), sl19⟩) (c19 : PySem.W.codeIn K cd19 "_law_one_of" = true) (k19 : PySem.W.keepIn K (.ref f19) = true)
    {f20 : Addr} {od20 an20 : Option Addr} {sl20 : Array (Option Value)} {oc20 kV20 dc20 pm20 cd20 ct20 : Value}
    (a20 : PySem.W.nsIn K mainGlobals "_law_wishes" = some (some (.ref f20))) (l20 : K.lookup f20 = some ⟨oc20, od20, .func (PySem.W.fnOf "_law_wishes" "_law_wishes" (defArgs s__law_wishes) (defBody s__law_wishes) (defScope s__law_wishes) .none kV20 dc20 pm20 an20 cd20 ct20), sl20⟩) (c20 : PySem.W.codeIn K cd20 "_law_wishes" = true) (k20 : PySem.W.keepIn K (.ref f20) = true)
    {f21 : Addr} {od21 an21 : Option Addr} {sl21 : Array (Option Value)} {oc21 kV21 dc21 pm21 cd21 ct21 : Value}
    (a21 : PySem.W.nsIn K mainGlobals "_law_bar" = some (some (.ref f21))) (l21 : K.lookup f21 = some ⟨oc21, od21, .func (PySem.W.fnOf "_law_bar" "_law_bar" (defArgs s__law_bar) (defBody s__law_bar) (defScope s__law_bar) .none kV21 dc21 pm21 an21 cd21 ct21), sl21⟩) (c21 : PySem.W.codeIn K cd21 "_law_bar" = true) (k21 : PySem.W.keepIn K (.ref f21) = true)
    {f22 : Addr} {od22 an22 : Option Addr} {sl22 : Array (Option Value)} {oc22 kV22 dc22 pm22 cd22 ct22 : Value}
    (a22 : PySem.W.nsIn K mainGlobals "lucky_cars" = some (some (.ref f22))) (l22 : K.lookup f22 = some ⟨oc22, od22, .func (PySem.W.fnOf "lucky_cars" "lucky_cars" (defArgs s_lucky_cars) (defBody s_lucky_cars) (defScope s_lucky_cars) .none kV22 dc22 pm22 an22 cd22 ct22), sl22⟩) (c22 : PySem.W.codeIn K cd22 "lucky_cars" = true) (k22 : PySem.W.keepIn K (.ref f22) = true)
    {f23 : Addr} {od23 an23 : Option Addr} {sl23 : Array (Option Value)} {oc23 kV23 dc23 pm23 cd23 ct23 : Value}
    (a23 : PySem.W.nsIn K mainGlobals "driven_there" = some (some (.ref f23))) (l23 : K.lookup f23 = some ⟨oc23, od23, .func (PySem.W.fnOf "driven_there" "driven_there" (defArgs s_driven_there) (defBody s_driven_there) (defScope s_driven_there) .none kV23 dc23 pm23 an23 cd23 ct23), sl23⟩) (c23 : PySem.W.codeIn K cd23 "driven_there" = true) (k23 : PySem.W.keepIn K (.ref f23) = true)
    {f24 : Addr} {od24 an24 : Option Addr} {sl24 : Array (Option Value)} {oc24 kV24 dc24 pm24 cd24 ct24 : Value}
    (a24 : PySem.W.nsIn K mainGlobals "driven" = some (some (.ref f24))) (l24 : K.lookup f24 = some ⟨oc24, od24, .func (PySem.W.fnOf "driven" "driven" (defArgs s_driven) (defBody s_driven) (defScope s_driven) .none kV24 dc24 pm24 an24 cd24 ct24), sl24⟩) (c24 : PySem.W.codeIn K cd24 "driven" = true) (k24 : PySem.W.keepIn K (.ref f24) = true)
    {f25 : Addr} {od25 an25 : Option Addr} {sl25 : Array (Option Value)} {oc25 kV25 dc25 pm25 cd25 ct25 : Value}
    (a25 : PySem.W.nsIn K mainGlobals "_law_case_right" = some (some (.ref f25))) (l25 : K.lookup f25 = some ⟨oc25, od25, .func (PySem.W.fnOf "_law_case_right" "_law_case_right" (defArgs s__law_case_right) (defBody s__law_case_right) (defScope s__law_case_right) .none kV25 dc25 pm25 an25 cd25 ct25), sl25⟩) (c25 : PySem.W.codeIn K cd25 "_law_case_right" = true) (k25 : PySem.W.keepIn K (.ref f25) = true)
    {f26 : Addr} {od26 an26 : Option Addr} {sl26 : Array (Option Value)} {oc26 kV26 dc26 pm26 cd26 ct26 : Value}
    (a26 : PySem.W.nsIn K mainGlobals "law" = some (some (.ref f26))) (l26 : K.lookup f26 = some ⟨oc26, od26, .func (PySem.W.fnOf "law" "law" (defArgs s_law) (defBody s_law) (defScope s_law) .none kV26 dc26 pm26 an26 cd26 ct26), sl26⟩) (c26 : PySem.W.codeIn K cd26 "law" = true) (k26 : PySem.W.keepIn K (.ref f26) = true)
    (z_all : PySem.W.nsIn K mainGlobals "all" = some none)
    (z_bool : PySem.W.nsIn K mainGlobals "bool" = some none)
    (z_enumerate : PySem.W.nsIn K mainGlobals "enumerate" = some none)
    (z_int : PySem.W.nsIn K mainGlobals "int" = some none)
    (z_isinstance : PySem.W.nsIn K mainGlobals "isinstance" = some none)
    (z_len : PySem.W.nsIn K mainGlobals "len" = some none)
    (z_list : PySem.W.nsIn K mainGlobals "list" = some none)
    (z_max : PySem.W.nsIn K mainGlobals "max" = some none)
    (z_min : PySem.W.nsIn K mainGlobals "min" = some none)
    (z_range : PySem.W.nsIn K mainGlobals "range" = some none)
    (z_repr : PySem.W.nsIn K mainGlobals "repr" = some none)
    (z_str : PySem.W.nsIn K mainGlobals "str" = some none)
    (z_sum : PySem.W.nsIn K mainGlobals "sum" = some none)
    (z_tuple : PySem.W.nsIn K mainGlobals "tuple" = some none)
    (z_zip : PySem.W.nsIn K mainGlobals "zip" = some none) :
    ∃ g : Gm K mg, some (.ref g.law.f) = mg "law" := ⟨{
      _law_purse := ⟨f0, _, funD_mk l0 c0 k0 (.inl ⟨rfl, rfl⟩), PySem.W.mg_of X G a0⟩
      _law_purses := ⟨f1, _, funD_mk l1 c1 k1 (.inl ⟨rfl, rfl⟩), PySem.W.mg_of X G a1⟩
      is_whole := ⟨f2, _, funD_mk l2 c2 k2 (.inl ⟨rfl, rfl⟩), PySem.W.mg_of X G a2⟩
      is_count := ⟨f3, _, funD_mk l3 c3 k3 (.inr ⟨by simp, T3, oT3, it3, nT3, t3, u3, v3, w3⟩), PySem.W.mg_of X G a3⟩
      check_places := ⟨f4, _, funD_mk l4 c4 k4 (.inl ⟨rfl, rfl⟩), PySem.W.mg_of X G a4⟩
      are_wishes := ⟨f5, _, funD_mk l5 c5 k5 (.inl ⟨rfl, rfl⟩), PySem.W.mg_of X G a5⟩
      check_wishes := ⟨f6, _, funD_mk l6 c6 k6 (.inl ⟨rfl, rfl⟩), PySem.W.mg_of X G a6⟩
      parked_there := ⟨f7, _, funD_mk l7 c7 k7 (.inl ⟨rfl, rfl⟩), PySem.W.mg_of X G a7⟩
      parked := ⟨f8, _, funD_mk l8 c8 k8 (.inl ⟨rfl, rfl⟩), PySem.W.mg_of X G a8⟩
      standing_there := ⟨f9, _, funD_mk l9 c9 k9 (.inl ⟨rfl, rfl⟩), PySem.W.mg_of X G a9⟩
      standing := ⟨f10, _, funD_mk l10 c10 k10 (.inl ⟨rfl, rfl⟩), PySem.W.mg_of X G a10⟩
      first_crowded := ⟨f11, _, funD_mk l11 c11 k11 (.inl ⟨rfl, rfl⟩), PySem.W.mg_of X G a11⟩
      does_none_leave := ⟨f12, _, funD_mk l12 c12 k12 (.inl ⟨rfl, rfl⟩), PySem.W.mg_of X G a12⟩
      park_bar := ⟨f13, _, funD_mk l13 c13 k13 (.inl ⟨rfl, rfl⟩), PySem.W.mg_of X G a13⟩
      _law_exact := ⟨f14, _, funD_mk l14 c14 k14 (.inl ⟨rfl, rfl⟩), PySem.W.mg_of X G a14⟩
      _law_mixed := ⟨f15, _, funD_mk l15 c15 k15 (.inl ⟨rfl, rfl⟩), PySem.W.mg_of X G a15⟩
      _law_draw := ⟨f16, _, funD_mk l16 c16 k16 (.inl ⟨rfl, rfl⟩), PySem.W.mg_of X G a16⟩
      _law_shuffled := ⟨f17, _, funD_mk l17 c17 k17 (.inl ⟨rfl, rfl⟩), PySem.W.mg_of X G a17⟩
      _law_parked := ⟨f18, _, funD_mk l18 c18 k18 (.inl ⟨rfl, rfl⟩), PySem.W.mg_of X G a18⟩
      _law_one_of := ⟨f19, _, funD_mk l19 c19 k19 (.inl ⟨rfl, rfl⟩), PySem.W.mg_of X G a19⟩
      _law_wishes := ⟨f20, _, funD_mk l20 c20 k20 (.inl ⟨rfl, rfl⟩), PySem.W.mg_of X G a20⟩
      _law_bar := ⟨f21, _, funD_mk l21 c21 k21 (.inl ⟨rfl, rfl⟩), PySem.W.mg_of X G a21⟩
      lucky_cars := ⟨f22, _, funD_mk l22 c22 k22 (.inl ⟨rfl, rfl⟩), PySem.W.mg_of X G a22⟩
      driven_there := ⟨f23, _, funD_mk l23 c23 k23 (.inl ⟨rfl, rfl⟩), PySem.W.mg_of X G a23⟩
      driven := ⟨f24, _, funD_mk l24 c24 k24 (.inl ⟨rfl, rfl⟩), PySem.W.mg_of X G a24⟩
      _law_case_right := ⟨f25, _, funD_mk l25 c25 k25 (.inl ⟨rfl, rfl⟩), PySem.W.mg_of X G a25⟩
      law := ⟨f26, _, funD_mk l26 c26 k26 (.inl ⟨rfl, rfl⟩), PySem.W.mg_of X G a26⟩
      z_all := PySem.W.mg_none_of X G z_all
      z_bool := PySem.W.mg_none_of X G z_bool
      z_enumerate := PySem.W.mg_none_of X G z_enumerate
      z_int := PySem.W.mg_none_of X G z_int
      z_isinstance := PySem.W.mg_none_of X G z_isinstance
      z_len := PySem.W.mg_none_of X G z_len
      z_list := PySem.W.mg_none_of X G z_list
      z_max := PySem.W.mg_none_of X G z_max
      z_min := PySem.W.mg_none_of X G z_min
      z_range := PySem.W.mg_none_of X G z_range
      z_repr := PySem.W.mg_none_of X G z_repr
      z_str := PySem.W.mg_none_of X G z_str
      z_sum := PySem.W.mg_none_of X G z_sum
      z_tuple := PySem.W.mg_none_of X G z_tuple
      z_zip := PySem.W.mg_none_of X G z_zip }, (PySem.W.mg_of X G a26).symm⟩
theorem all_mk {l : PySem.W.OpenLaw} {w : World} {K : PySem.W.Frag} {h : Heap} {mg : Str → Option Value} {fa : Addr} (X : K.In h) (G : h.Ns mainGlobals mg) (hfa : mg "law" = some (.ref fa))
    {f0 : Addr} {od0 an0 : Option Addr} {sl0 : Array (Option Value)} {oc0 kV0 dc0 pm0 cd0 ct0 : Value}
    (a0 : PySem.W.nsIn K mainGlobals "_law_purse" = some (some (.ref f0))) (l0 : K.lookup f0 = some ⟨oc0, od0, .func (PySem.W.fnOf "_law_purse" "_law_purse" (defArgs s__law_purse) (defBody s__law_purse) (defScope s__law_purse) .none kV0 dc0 pm0 an0 cd0 ct0), sl0⟩) (c0 : PySem.W.codeIn K cd0 "_law_purse" = true) (k0 : PySem.W.keepIn K (.ref f0) = true)
    {f1 : Addr} {od1 an1 : Option Addr} {sl1 : Array (Option Value)} {oc1 kV1 dc1 pm1 cd1 ct1 : Value}
    (a1 : PySem.W.nsIn K mainGlobals "_law_purses" = some (some (.ref f1))) (l1 : K.lookup f1 = some ⟨oc1, od1, .func (PySem.W.fnOf "_law_purses" "_law_purses" (defArgs s__law_purses) (defBody s__law_purses) (defScope s__law_purses) .none kV1 dc1 pm1 an1 cd1 ct1), sl1⟩) (c1 : PySem.W.codeIn K cd1 "_law_purses" = true) (k1 : PySem.W.keepIn K (.ref f1) = true)
    {f2 : Addr} {od2 an2 : Option Addr} {sl2 : Array (Option Value)} {oc2 kV2 dc2 pm2 cd2 ct2 : Value}
    (a2 : PySem.W.nsIn K mainGlobals "is_whole" = some (some (.ref f2))) (l2 : K.lookup f2 = some ⟨oc2, od2, .func (PySem.W.fnOf "is_whole" "is_whole" (defArgs s_is_whole) (defBody s_is_whole) (defScope s_is_whole) .none kV2 dc2 pm2 an2 cd2 ct2), sl2⟩) (c2 : PySem.W.codeIn K cd2 "is_whole" = true) (k2 : PySem.W.keepIn K (.ref f2) = true)
    {f3 : Addr} {od3 an3 : Option Addr} {sl3 : Array (Option Value)} {oc3 dV3 kV3 dc3 pm3 cd3 ct3 : Value}
    (a3 : PySem.W.nsIn K mainGlobals "is_count" = some (some (.ref f3))) (l3 : K.lookup f3 = some ⟨oc3, od3, .func (PySem.W.fnOf "is_count" "is_count" (defArgs s_is_count) (defBody s_is_count) (defScope s_is_count) dV3 kV3 dc3 pm3 an3 cd3 ct3), sl3⟩) (c3 : PySem.W.codeIn K cd3 "is_count" = true) (k3 : PySem.W.keepIn K (.ref f3) = true)
    {T3 : Addr} {oT3 : Obj} {it3 : List Value} {nT3 : Nat} (t3 : dV3 = .ref T3) (u3 : K.lookup T3 = some oT3) (v3 : oT3.data = .seq it3.toArray nT3) (w3 : Vals [V.int 0] it3)
    {f4 : Addr} {od4 an4 : Option Addr} {sl4 : Array (Option Value)} {oc4 kV4 dc4 pm4 cd4 ct4 : Value}
    (a4 : PySem.W.nsIn K mainGlobals "check_places" = some (some (.ref f4))) (l4 : K.lookup f4 = some ⟨oc4, od4, .func (PySem.W.fnOf "check_places" "check_places" (defArgs s_check_places) (defBody s_check_places) (defScope s_check_places) .none kV4 dc4 pm4 an4 cd4 ct4), sl4⟩) (c4 : PySem.W.codeIn K cd4 "check_places" = true) (k4 : PySem.W.keepIn K (.ref f4) = true)
    {f5 : Addr} {od5 an5 : Option Addr} {sl5 : Array (Option Value)} {oc5 kV5 dc5 pm5 cd5 ct5 : Value}
    (a5 : PySem.W.nsIn K mainGlobals "are_wishes" = some (some (.ref f5))) (l5 : K.lookup f5 = some ⟨oc5, od5, .func (PySem.W.fnOf "are_wishes" "are_wishes" (defArgs s_are_wishes) (defBody s_are_wishes) (defScope s_are_wishes) .none kV5 dc5 pm5 an5 cd5 ct5), sl5⟩) (c5 : PySem.W.codeIn K cd5 "are_wishes" = true) (k5 : PySem.W.keepIn K (.ref f5) = true)
    {f6 : Addr} {od6 an6 : Option Addr} {sl6 : Array (Option Value)} {oc6 kV6 dc6 pm6 cd6 ct6 : Value}
    (a6 : PySem.W.nsIn K mainGlobals "check_wishes" = some (some (.ref f6))) (l6 : K.lookup f6 = some ⟨oc6, od6, .func (PySem.W.fnOf "check_wishes" "check_wishes" (defArgs s_check_wishes) (defBody s_check_wishes) (defScope s_check_wishes) .none kV6 dc6 pm6 an6 cd6 ct6), sl6⟩) (c6 : PySem.W.codeIn K cd6 "check_wishes" = true) (k6 : PySem.W.keepIn K (.ref f6) = true)
    {f7 : Addr} {od7 an7 : Option Addr} {sl7 : Array (Option Value)} {oc7 kV7 dc7 pm7 cd7 ct7 : Value}
    (a7 : PySem.W.nsIn K mainGlobals "parked_there" = some (some (.ref f7))) (l7 : K.lookup f7 = some ⟨oc7, od7, .func (PySem.W.fnOf "parked_there" "parked_there" (defArgs s_parked_there) (defBody s_parked_there) (defScope s_parked_there) .none kV7 dc7 pm7 an7 cd7 ct7), sl7⟩) (c7 : PySem.W.codeIn K cd7 "parked_there" = true) (k7 : PySem.W.keepIn K (.ref f7) = true)
    {f8 : Addr} {od8 an8 : Option Addr} {sl8 : Array (Option Value)} {oc8 kV8 dc8 pm8 cd8 ct8 : Value}
    (a8 : PySem.W.nsIn K mainGlobals "parked" = some (some (.ref f8))) (l8 : K.lookup f8 = some ⟨oc8, od8, .func (PySem.W.fnOf "parked" "parked" (defArgs s_parked) (defBody s_parked) (defScope s_parked) .none kV8 dc8 pm8 an8 cd8 ct8), sl8⟩) (c8 : PySem.W.codeIn K cd8 "parked" = true) (k8 : PySem.W.keepIn K (.ref f8) = true)
    {f9 : Addr} {od9 an9 : Option Addr} {sl9 : Array (Option Value)} {oc9 kV9 dc9 pm9 cd9 ct9 : Value}
    (a9 : PySem.W.nsIn K mainGlobals "standing_there" = some (some (.ref f9))) (l9 : K.lookup f9 = some ⟨oc9, od9, .func (PySem.W.fnOf "standing_there" "standing_there" (defArgs s_standing_there) (defBody s_standing_there) (defScope s_standing_there) .none kV9 dc9 pm9 an9 cd9 ct9), sl9⟩) (c9 : PySem.W.codeIn K cd9 "standing_there" = true) (k9 : PySem.W.keepIn K (.ref f9) = true)
    {f10 : Addr} {od10 an10 : Option Addr} {sl10 : Array (Option Value)} {oc10 kV10 dc10 pm10 cd10 ct10 : Value}
    (a10 : PySem.W.nsIn K mainGlobals "standing" = some (some (.ref f10))) (l10 : K.lookup f10 = some ⟨oc10, od10, .func (PySem.W.fnOf "standing" "standing" (defArgs s_standing) (defBody s_standing) (defScope s_standing) .none kV10 dc10 pm10 an10 cd10 ct10), sl10⟩) (c10 : PySem.W.codeIn K cd10 "standing" = true) (k10 : PySem.W.keepIn K (.ref f10) = true)
    {f11 : Addr} {od11 an11 : Option Addr} {sl11 : Array (Option Value)} {oc11 kV11 dc11 pm11 cd11 ct11 : Value}
    (a11 : PySem.W.nsIn K mainGlobals "first_crowded" = some (some (.ref f11))) (l11 : K.lookup f11 = some ⟨oc11, od11, .func (PySem.W.fnOf "first_crowded" "first_crowded" (defArgs s_first_crowded) (defBody s_first_crowded) (defScope s_first_crowded) .none kV11 dc11 pm11 an11 cd11 ct11), sl11⟩) (c11 : PySem.W.codeIn K cd11 "first_crowded" = true) (k11 : PySem.W.keepIn K (.ref f11) = true)
    {f12 : Addr} {od12 an12 : Option Addr} {sl12 : Array (Option Value)} {oc12 kV12 dc12 pm12 cd12 ct12 : Value}
    (a12 : PySem.W.nsIn K mainGlobals "does_none_leave" = some (some (.ref f12))) (l12 : K.lookup f12 = some ⟨oc12, od12, .func (PySem.W.fnOf "does_none_leave" "does_none_leave" (defArgs s_does_none_leave) (defBody s_does_none_leave) (defScope s_does_none_leave) .none kV12 dc12 pm12 an12 cd12 ct12), sl12⟩) (c12 : PySem.W.codeIn K cd12 "does_none_leave" = true) (k12 : PySem.W.keepIn K (.ref f12) = true)
    {f13 : Addr} {od13 an13 : Option Addr} {sl13 : Array (Option Value)} {oc13 kV13 dc13 pm13 cd13 ct13 : Value}
    (a13 : PySem.W.nsIn K mainGlobals "park_bar" = some (some (.ref f13))) (l13 : K.lookup f13 = some ⟨oc13, od13, .func (PySem.W.fnOf "park_bar" "park_bar" (defArgs s_park_bar) (defBody s_park_bar) (defScope s_park_bar) .none kV13 dc13 pm13 an13 cd13 ct13), sl13⟩) (c13 : PySem.W.codeIn K cd13 "park_bar" = true) (k13 : PySem.W.keepIn K (.ref f13) = true)
    {f14 : Addr} {od14 an14 : Option Addr} {sl14 : Array (Option Value)} {oc14 kV14 dc14 pm14 cd14 ct14 : Value}
    (a14 : PySem.W.nsIn K mainGlobals "_law_exact" = some (some (.ref f14))) (l14 : K.lookup f14 = some ⟨oc14, od14, .func (PySem.W.fnOf "_law_exact" "_law_exact" (defArgs s__law_exact) (defBody s__law_exact) (defScope s__law_exact) .none kV14 dc14 pm14 an14 cd14 ct14), sl14⟩) (c14 : PySem.W.codeIn K cd14 "_law_exact" = true) (k14 : PySem.W.keepIn K (.ref f14) = true)
    {f15 : Addr} {od15 an15 : Option Addr} {sl15 : Array (Option Value)} {oc15 kV15 dc15 pm15 cd15 ct15 : Value}
    (a15 : PySem.W.nsIn K mainGlobals "_law_mixed" = some (some (.ref f15))) (l15 : K.lookup f15 = some ⟨oc15, od15, .func (PySem.W.fnOf "_law_mixed" "_law_mixed" (defArgs s__law_mixed) (defBody s__law_mixed) (defScope s__law_mixed) .none kV15 dc15 pm15 an15 cd15 ct15), sl15⟩) (c15 : PySem.W.codeIn K cd15 "_law_mixed" = true) (k15 : PySem.W.keepIn K (.ref f15) = true)
    {f16 : Addr} {od16 an16 : Option Addr} {sl16 : Array (Option Value)} {oc16 kV16 dc16 pm16 cd16 ct16 : Value}
    (a16 : PySem.W.nsIn K mainGlobals "_law_draw" = some (some (.ref f16))) (l16 : K.lookup f16 = some ⟨oc16, od16, .func (PySem.W.fnOf "_law_draw" "_law_draw" (defArgs s__law_draw) (defBody s__law_draw) (defScope s__law_draw) .none kV16 dc16 pm16 an16 cd16 ct16), sl16⟩) (c16 : PySem.W.codeIn K cd16 "_law_draw" = true) (k16 : PySem.W.keepIn K (.ref f16) = true)
    {f17 : Addr} {od17 an17 : Option Addr} {sl17 : Array (Option Value)} {oc17 kV17 dc17 pm17 cd17 ct17 : Value}
    (a17 : PySem.W.nsIn K mainGlobals "_law_shuffled" = some (some (.ref f17))) (l17 : K.lookup f17 = some ⟨oc17, od17, .func (PySem.W.fnOf "_law_shuffled" "_law_shuffled" (defArgs s__law_shuffled) (defBody s__law_shuffled) (defScope s__law_shuffled) .none kV17 dc17 pm17 an17 cd17 ct17), sl17⟩) (c17 : PySem.W.codeIn K cd17 "_law_shuffled" = true) (k17 : PySem.W.keepIn K (.ref f17) = true)
    {f18 : Addr} {od18 an18 : Option Addr} {sl18 : Array (Option Value)} {oc18 kV18 dc18 pm18 cd18 ct18 : Value}
    (a18 : PySem.W.nsIn K mainGlobals "_law_parked" = some (some (.ref f18))) (l18 : K.lookup f18 = some ⟨oc18, od18, .func (PySem.W.fnOf "_law_parked" "_law_parked" (defArgs s__law_parked) (defBody s__law_parked) (defScope s__law_parked) .none kV18 dc18 pm18 an18 cd18 ct18), sl18⟩) (c18 : PySem.W.codeIn K cd18 "_law_parked" = true) (k18 : PySem.W.keepIn K (.ref f18) = true)
    {f19 : Addr} {od19 an19 : Option Addr} {sl19 : Array (Option Value)} {oc19 kV19 dc19 pm19 cd19 ct19 : Value}
    (a19 : PySem.W.nsIn K mainGlobals "_law_one_of" = some (some (.ref f19))) (l19 : K.lookup f19 = some ⟨oc19, od19, .func (PySem.W.fnOf "_law_one_of" "_law_one_of" (defArgs s__law_one_of) (defBody s__law_one_of) (defScope s__law_one_of) .none kV19 dc19 pm19 an19 cd19 ct19), sl19⟩) (c19 : PySem.W.codeIn K cd19 "_law_one_of" = true) (k19 : PySem.W.keepIn K (.ref f19) = true)
    {f20 : Addr} {od20 an20 : Option Addr} {sl20 : Array (Option Value)} {oc20 kV20 dc20 pm20 cd20 ct20 : Value}
    (a20 : PySem.W.nsIn K mainGlobals "_law_wishes" = some (some (.ref f20))) (l20 : K.lookup f20 = some ⟨oc20, od20, .func (PySem.W.fnOf "_law_wishes" "_law_wishes" (defArgs s__law_wishes) (defBody s__law_wishes) (defScope s__law_wishes) .none kV20 dc20 pm20 an20 cd20 ct20), sl20⟩) (c20 : PySem.W.codeIn K cd20 "_law_wishes" = true) (k20 : PySem.W.keepIn K (.ref f20) = true)
    {f21 : Addr} {od21 an21 : Option Addr} {sl21 : Array (Option Value)} {oc21 kV21 dc21 pm21 cd21 ct21 : Value}
    (a21 : PySem.W.nsIn K mainGlobals "_law_bar" = some (some (.ref f21))) (l21 : K.lookup f21 = some ⟨oc21, od21, .func (PySem.W.fnOf "_law_bar" "_law_bar" (defArgs s__law_bar) (defBody s__law_bar) (defScope s__law_bar) .none kV21 dc21 pm21 an21 cd21 ct21), sl21⟩) (c21 : PySem.W.codeIn K cd21 "_law_bar" = true) (k21 : PySem.W.keepIn K (.ref f21) = true)
    {f22 : Addr} {od22 an22 : Option Addr} {sl22 : Array (Option Value)} {oc22 kV22 dc22 pm22 cd22 ct22 : Value}
    (a22 : PySem.W.nsIn K mainGlobals "lucky_cars" = some (some (.ref f22))) (l22 : K.lookup f22 = some ⟨oc22, od22, .func (PySem.W.fnOf "lucky_cars" "lucky_cars" (defArgs s_lucky_cars) (defBody s_lucky_cars) (defScope s_lucky_cars) .none kV22 dc22 pm22 an22 cd22 ct22), sl22⟩) (c22 : PySem.W.codeIn K cd22 "lucky_cars" = true) (k22 : PySem.W.keepIn K (.ref f22) = true)
    {f23 : Addr} {od23 an23 : Option Addr} {sl23 : Array (Option Value)} {oc23 kV23 dc23 pm23 cd23 ct23 : Value}
    (a23 : PySem.W.nsIn K mainGlobals "driven_there" = some (some (.ref f23))) (l23 : K.lookup f23 = some ⟨oc23, od23, .func (PySem.W.fnOf "driven_there" "driven_there" (defArgs s_driven_there) (defBody s_driven_there) (defScope s_driven_there) .none kV23 dc23 pm23 an23 cd23 ct23), sl23⟩) (c23 : PySem.W.codeIn K cd23 "driven_there" = true) (k23 : PySem.W.keepIn K (.ref f23) = true)
    {f24 : Addr} {od24 an24 : Option Addr} {sl24 : Array (Option Value)} {oc24 kV24 dc24 pm24 cd24 ct24 : Value}
    (a24 : PySem.W.nsIn K mainGlobals "driven" = some (some (.ref f24))) (l24 : K.lookup f24 = some ⟨oc24, od24, .func (PySem.W.fnOf "driven" "driven" (defArgs s_driven) (defBody s_driven) (defScope s_driven) .none kV24 dc24 pm24 an24 cd24 ct24), sl24⟩) (c24 : PySem.W.codeIn K cd24 "driven" = true) (k24 : PySem.W.keepIn K (.ref f24) = true)
    {f25 : Addr} {od25 an25 : Option Addr} {sl25 : Array (Option Value)} {oc25 kV25 dc25 pm25 cd25 ct25 : Value}
    (a25 : PySem.W.nsIn K mainGlobals "_law_case_right" = some (some (.ref f25))) (l25 : K.lookup f25 = some ⟨oc25, od25, .func (PySem.W.fnOf "_law_case_right" "_law_case_right" (defArgs s__law_case_right) (defBody s__law_case_right) (defScope s__law_case_right) .none kV25 dc25 pm25 an25 cd25 ct25), sl25⟩) (c25 : PySem.W.codeIn K cd25 "_law_case_right" = true) (k25 : PySem.W.keepIn K (.ref f25) = true)
    {f26 : Addr} {od26 an26 : Option Addr} {sl26 : Array (Option Value)} {oc26 kV26 dc26 pm26 cd26 ct26 : Value}
    (a26 : PySem.W.nsIn K mainGlobals "law" = some (some (.ref f26))) (l26 : K.lookup f26 = some ⟨oc26, od26, .func (PySem.W.fnOf "law" "law" (defArgs s_law) (defBody s_law) (defScope s_law) .none kV26 dc26 pm26 an26 cd26 ct26), sl26⟩) (c26 : PySem.W.codeIn K cd26 "law" = true) (k26 : PySem.W.keepIn K (.ref f26) = true)
    (z_all : PySem.W.nsIn K mainGlobals "all" = some none)
    (z_bool : PySem.W.nsIn K mainGlobals "bool" = some none)
    (z_enumerate : PySem.W.nsIn K mainGlobals "enumerate" = some none)
    (z_int : PySem.W.nsIn K mainGlobals "int" = some none)
    (z_isinstance : PySem.W.nsIn K mainGlobals "isinstance" = some none)
    (z_len : PySem.W.nsIn K mainGlobals "len" = some none)
    (z_list : PySem.W.nsIn K mainGlobals "list" = some none)
    (z_max : PySem.W.nsIn K mainGlobals "max" = some none)
    (z_min : PySem.W.nsIn K mainGlobals "min" = some none)
    (z_range : PySem.W.nsIn K mainGlobals "range" = some none)
    (z_repr : PySem.W.nsIn K mainGlobals "repr" = some none)
    (z_str : PySem.W.nsIn K mainGlobals "str" = some none)
    (z_sum : PySem.W.nsIn K mainGlobals "sum" = some none)
    (z_tuple : PySem.W.nsIn K mainGlobals "tuple" = some none)
    (z_zip : PySem.W.nsIn K mainGlobals "zip" = some none) :
    ∃ fd : FuncData, (∀ (s : Shared) (u : Value), BindsTo s fd ⟨[u], []⟩ [("script", u)]) ∧ ∀ base : Heap, K.In base → base.Ns mainGlobals mg → FnG l.prog w K mg base 15 fa fd ["script"] (spS ⟨fun _ => 0, K⟩ (f_law false) 1) := by
  obtain ⟨g, e⟩ := gm_mk X G a0 l0 c0 k0 a1 l1 c1 k1 a2 l2 c2 k2 a3 l3 c3 k3 t3 u3 v3 w3 a4 l4 c4 k4 a5 l5 c5 k5 a6 l6 c6 k6 a7 l7 c7 k7 a8 l8 c8 k8 a9 l9 c9 k9 a10 l10 c10 k10 a11 l11 c11 k11 a12 l12 c12 k12 a13 l13 c13 k13 a14 l14 c14 k14 a15 l15 c15 k15 a16 l16 c16 k16 a17 l17 c17 k17 a18 l18 c18 k18 a19 l19 c19 k19 a20 l20 c20 k20 a21 l21 c21 k21 a22 l22 c22 k22 a23 l23 c23 k23 a24 l24 c24 k24 a25 l25 c25 k25 a26 l26 c26 k26 z_all z_bool z_enumerate z_int z_isinstance z_len z_list z_max z_min z_range z_repr z_str z_sum z_tuple z_zip
  cases e.trans hfa
  exact ⟨g.law.fd, fun s v => g.law.F.bindsA (ps := ["script"]) (fun _ _ _ _ _ _ us hl => match us, hl with | [_], _ => rfl) s [v] rfl, fun base _ _ => ok_law g false⟩
end Lw


open PySem PySem.W PyProof.Rows L2 MP
set_option maxHeartbeats 0 in
theorem PySem.Challenge.cw_neverbehind_k58_whole_who_parks_where_holds : PySem.Challenge.rw_neverbehind_k58_whole_who_parks_where.Holds := by
  w_on; o_law; k_head; (case hw => w_witness2)
  k_fill
  refine MP.walk_ofG (l := PySem.Challenge.rw_neverbehind_k58_whole_who_parks_where) (n := 63) (k := 15) (x := "script") (sp := fun K => MP.spS ⟨fun _ => 0, K⟩ (Lw.f_law false) 1) rfl (by decide) rfl ⟨⟨rfl, by decide, by decide⟩, rfl⟩ (fun w h Y => PySem.W.kIn_of Y) ?F (fun _ _ _ ns hl hb hO hS => MP.head_sp (n := 1) (Lw.law_true ns hl hb) hO hS)
  case F =>
    intro w mg fa h KX G hmg
    refine' Lw.all_mk KX G hmg ?a0 ?l0 ?c0 ?k0 ?a1 ?l1 ?c1 ?k1 ?a2 ?l2 ?c2 ?k2 ?a3 ?l3 ?c3 ?k3 ?t3 ?u3 ?v3 ?w3 ?a4 ?l4 ?c4 ?k4 ?a5 ?l5 ?c5 ?k5 ?a6 ?l6 ?c6 ?k6 ?a7 ?l7 ?c7 ?k7 ?a8 ?l8 ?c8 ?k8 ?a9 ?l9 ?c9 ?k9 ?a10 ?l10 ?c10 ?k10 ?a11 ?l11 ?c11 ?k11 ?a12 ?l12 ?c12 ?k12 ?a13 ?l13 ?c13 ?k13 ?a14 ?l14 ?c14 ?k14 ?a15 ?l15 ?c15 ?k15 ?a16 ?l16 ?c16 ?k16 ?a17 ?l17 ?c17 ?k17 ?a18 ?l18 ?c18 ?k18 ?a19 ?l19 ?c19 ?k19 ?a20 ?l20 ?c20 ?k20 ?a21 ?l21 ?c21 ?k21 ?a22 ?l22 ?c22 ?k22 ?a23 ?l23 ?c23 ?k23 ?a24 ?l24 ?c24 ?k24 ?a25 ?l25 ?c25 ?k25 ?a26 ?l26 ?c26 ?k26 ?z_all ?z_bool ?z_enumerate ?z_int ?z_isinstance ?z_len ?z_list ?z_max ?z_min ?z_range ?z_repr ?z_str ?z_sum ?z_tuple ?z_zip
    (case a0 => k_is)
    (case l0 => k_is)
    (case c0 => k_is)
    (case k0 => k_is)
    (case a1 => k_is)
    (case l1 => k_is)
    (case c1 => k_is)
    (case k1 => k_is)
    (case a2 => k_is)
    (case l2 => k_is)
    (case c2 => k_is)
    (case k2 => k_is)
    (case a3 => k_is)
    (case l3 => k_is)
    (case c3 => k_is)
    (case k3 => k_is)
    (case t3 => exact rfl)
    (case u3 => k_is)
    (case v3 => exact rfl)
    (case w3 => exact .cons ⟨_, rfl⟩ .nil)
    (case a4 => k_is)
    (case l4 => k_is)
    (case c4 => k_is)
    (case k4 => k_is)
    (case a5 => k_is)
    (case l5 => k_is)
    (case c5 => k_is)
    (case k5 => k_is)
    (case a6 => k_is)
    (case l6 => k_is)
    (case c6 => k_is)
    (case k6 => k_is)
    (case a7 => k_is)
    (case l7 => k_is)
    (case c7 => k_is)
    (case k7 => k_is)
    (case a8 => k_is)
    (case l8 => k_is)
    (case c8 => k_is)
    (case k8 => k_is)
    (case a9 => k_is)
    (case l9 => k_is)
    (case c9 => k_is)
    (case k9 => k_is)
    (case a10 => k_is)
    (case l10 => k_is)
    (case c10 => k_is)
    (case k10 => k_is)
    (case a11 => k_is)
    (case l11 => k_is)
    (case c11 => k_is)
    (case k11 => k_is)
    (case a12 => k_is)
    (case l12 => k_is)
    (case c12 => k_is)
    (case k12 => k_is)
    (case a13 => k_is)
    (case l13 => k_is)
    (case c13 => k_is)
    (case k13 => k_is)
    (case a14 => k_is)
    (case l14 => k_is)
    (case c14 => k_is)
    (case k14 => k_is)
    (case a15 => k_is)
    (case l15 => k_is)
    (case c15 => k_is)
    (case k15 => k_is)
    (case a16 => k_is)
    (case l16 => k_is)
    (case c16 => k_is)
    (case k16 => k_is)
    (case a17 => k_is)
    (case l17 => k_is)
    (case c17 => k_is)
    (case k17 => k_is)
    (case a18 => k_is)
    (case l18 => k_is)
    (case c18 => k_is)
    (case k18 => k_is)
    (case a19 => k_is)
    (case l19 => k_is)
    (case c19 => k_is)
    (case k19 => k_is)
    (case a20 => k_is)
    (case l20 => k_is)
    (case c20 => k_is)
    (case k20 => k_is)
    (case a21 => k_is)
    (case l21 => k_is)
    (case c21 => k_is)
    (case k21 => k_is)
    (case a22 => k_is)
    (case l22 => k_is)
    (case c22 => k_is)
    (case k22 => k_is)
    (case a23 => k_is)
    (case l23 => k_is)
    (case c23 => k_is)
    (case k23 => k_is)
    (case a24 => k_is)
    (case l24 => k_is)
    (case c24 => k_is)
    (case k24 => k_is)
    (case a25 => k_is)
    (case l25 => k_is)
    (case c25 => k_is)
    (case k25 => k_is)
    (case a26 => k_is)
    (case l26 => k_is)
    (case c26 => k_is)
    (case k26 => k_is)
    (case z_all => k_is)
    (case z_bool => k_is)
    (case z_enumerate => k_is)
    (case z_int => k_is)
    (case z_isinstance => k_is)
    (case z_len => k_is)
    (case z_list => k_is)
    (case z_max => k_is)
    (case z_min => k_is)
    (case z_range => k_is)
    (case z_repr => k_is)
    (case z_str => k_is)
    (case z_sum => k_is)
    (case z_tuple => k_is)
    (case z_zip => k_is)

