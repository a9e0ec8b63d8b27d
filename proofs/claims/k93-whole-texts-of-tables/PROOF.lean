import PyProof.Rows.All
import Wide.All
import OpenK.AllK
import Wide.FinOn
import HandS.ForMost
import HandS.ForExc
import HandS.TryMany
import HandS.TryOnly
import HandS.IsInst
import HandS.TupAny
import HandS.Zip
import HandS.Deep
import HandS.CallSlots
import HandS.StrSplit
import HandS.More
import KE.GoesNew
import HandS.Walk
import HandS.Words
import HandS.WordsExc
import HandS.Ends
import KE.KIsAll
import KE.KTryMore
import HandS.ExcIs
import PyProof.ReprRoads
import HandS.ReplaceLit
import PyProof.ReprLen
import PySem.Challenge.RW_splitroads_k93_whole_texts_of_tables
set_option Elab.async false
set_option linter.all false
set_option maxRecDepth 100000
set_option autoImplicit false
set_option maxHeartbeats 4000000

/-! # The mirror layer: a def of the text is compared with a plain Lean function over data D and a store of mutable lists -/
namespace ML
open PySem PySem.Spec PyProof.Rows L2

/-! ## data, cells, results -/
/-- data: what a name may hold. lst: a list that is never changed any more; ref n: the n-th list of the store -/
inductive D where
  | non | bl (b : Bool) | int (i : Int) | str (x : Str) | ty (n : String) | gl (x : Str)
  | tup (ds : List D) | lst (ds : List D) | rol (ds : List D) | ref (n : Nat) | dc0 | xo (c : Str) (ns : List Str) (ds : List D)
inductive Cell where
  | lst (ds : List D) | dead
abbrev Sto := List Cell
structure Xn where
  cls : Str
  ns : List Str
  ds : List D
inductive R (α : Type) where
  | ok (a : α) (s : Sto) | ex (x : Xn) (s : Sto) | no
abbrev Ev := List (Option D)

def R.bind {α β : Type} (r : R α) (f : α → Sto → R β) : R β :=
  match r with
  | .ok a s => f a s
  | .ex x s => .ex x s
  | .no => .no

mutual
def D.beq : D → D → Bool
  | .non, .non => true
  | .bl a, .bl b => a == b
  | .int a, .int b => a == b
  | .str a, .str b => a == b
  | .ty a, .ty b => a == b
  | .gl a, .gl b => a == b
  | .tup a, .tup b => beqL a b
  | .lst a, .lst b => beqL a b
  | .rol a, .rol b => beqL a b
  | .ref a, .ref b => a == b
  | .dc0, .dc0 => true
  | .xo a b c, .xo d e f => a == d && b == e && beqL c f
  | _, _ => false
def beqL : List D → List D → Bool
  | [], [] => true
  | a :: r, b :: s => a.beq b && beqL r s
  | _, _ => false
end
mutual
theorem D.of_beq : ∀ {a b : D}, a.beq b = true → a = b
  | .non, b, h => by cases b <;> simp_all [D.beq]
  | .bl _, b, h => by cases b <;> simp_all [D.beq]
  | .int _, b, h => by cases b <;> simp_all [D.beq]
  | .str _, b, h => by cases b <;> simp_all [D.beq]
  | .ty _, b, h => by cases b <;> simp_all [D.beq]
  | .gl _, b, h => by cases b <;> simp_all [D.beq]
  | .ref _, b, h => by cases b <;> simp_all [D.beq]
  | .dc0, b, h => by cases b <;> simp_all [D.beq]
  | .xo x y z, b, h => by
    cases b with
    | xo x' y' z' =>
      have h' : (x = x' ∧ y = y') ∧ beqL z z' = true := by simpa [D.beq] using h
      rw [of_beqL (a := z) (b := z') h'.2, h'.1.1, h'.1.2]
    | _ => simp [D.beq] at h
  | .tup x, b, h => by
    cases b with
    | tup y => rw [of_beqL (a := x) (b := y) (by simpa [D.beq] using h)]
    | _ => simp [D.beq] at h
  | .lst x, b, h => by
    cases b with
    | lst y => rw [of_beqL (a := x) (b := y) (by simpa [D.beq] using h)]
    | _ => simp [D.beq] at h
  | .rol x, b, h => by
    cases b with
    | rol y => rw [of_beqL (a := x) (b := y) (by simpa [D.beq] using h)]
    | _ => simp [D.beq] at h
theorem of_beqL : ∀ {a b : List D}, beqL a b = true → a = b
  | [], [], _ => rfl
  | [], _ :: _, h => by simp [beqL] at h
  | _ :: _, [], h => by simp [beqL] at h
  | x :: r, y :: s, h => by
    have h' : x.beq y = true ∧ beqL r s = true := by simpa [beqL] using h
    rw [D.of_beq h'.1, of_beqL h'.2]
end

mutual
theorem D.beq_self : ∀ a : D, a.beq a = true
  | .non => rfl
  | .bl _ => by simp [D.beq]
  | .int _ => by simp [D.beq]
  | .str _ => by simp [D.beq]
  | .ty _ => by simp [D.beq]
  | .gl _ => by simp [D.beq]
  | .ref _ => by simp [D.beq]
  | .dc0 => rfl
  | .xo _ _ z => by simp [D.beq, beqL_self z]
  | .tup x => by simpa [D.beq] using beqL_self x
  | .lst x => by simpa [D.beq] using beqL_self x
  | .rol x => by simpa [D.beq] using beqL_self x
theorem beqL_self : ∀ a : List D, beqL a a = true
  | [] => rfl
  | x :: r => by simp [beqL, D.beq_self x, beqL_self r]
end

/-! ## what stands for what -/
/-- the ghost: where the store's lists stand, what is known and stays, what else is to be kept -/
structure G where
  r : List Addr
  f : Hp
  z : Hp
  e : Option Addr := none
def G.le (g g' : G) : Prop := (∃ t, g'.r = g.r ++ t) ∧ (∀ a o, g.f a = some o → g'.f a = some o) ∧ g'.e = g.e ∧ g'.z = g.z
/-- the later ghost, whatever it protects -/
def G.ext (g g' : G) : Prop := (∃ t, g'.r = g.r ++ t) ∧ (∀ a o, g.f a = some o → g'.f a = some o) ∧ g'.e = g.e
theorem G.le.ext {g g' : G} (h : g.le g') : g.ext g' := ⟨h.1, h.2.1, h.2.2.1⟩
theorem G.ext.refl (g : G) : g.ext g := ⟨⟨[], (List.append_nil _).symm⟩, fun _ _ h => h, rfl⟩
theorem G.ext.trans {a b c : G} (h : a.ext b) (k : b.ext c) : a.ext c := by
  obtain ⟨⟨t, e⟩, f, z⟩ := h
  obtain ⟨⟨t', e'⟩, f', z'⟩ := k
  exact ⟨⟨t ++ t', by rw [e', e, List.append_assoc]⟩, fun x o q => f' x o (f x o q), z'.trans z⟩
theorem G.le.refl (g : G) : g.le g := ⟨⟨[], (List.append_nil _).symm⟩, fun _ _ h => h, rfl, rfl⟩
theorem G.le.trans {a b c : G} (h : a.le b) (k : b.le c) : a.le c := by
  obtain ⟨⟨t, e⟩, f, y, z⟩ := h
  obtain ⟨⟨t', e'⟩, f', y', z'⟩ := k
  exact ⟨⟨t ++ t', by rw [e', e, List.append_assoc]⟩, fun x o q => f' x o (f x o q), y'.trans y, z'.trans z⟩
theorem G.ext.r {g g' : G} (h : g.ext g') {n : Nat} {a : Addr} (e : g.r[n]? = some a) : g'.r[n]? = some a := by
  obtain ⟨⟨t, q⟩, _, _⟩ := h
  rw [q, List.getElem?_append_left (List.getElem?_eq_some_iff.mp e).1]
  exact e

section
variable (K : PySem.W.Frag) (mg : Str → Option Value)
mutual
inductive Rep : G → D → V → Prop
  | non {g : G} : Rep g .non .non
  | bl {g : G} (b : Bool) : Rep g (.bl b) (.bl b)
  | int {g : G} (i : Int) : Rep g (.int i) (.int i)
  | str {g : G} (x : Str) : Rep g (.str x) (.str x)
  | ty {g : G} (n : String) : Rep g (.ty n) (.ty n)
  | gl {g : G} {x : Str} {a : Addr} (h : mg x = some (.ref a)) : Rep g (.gl x) (.ref a)
  | tup {g : G} {a : Addr} {vs : List V} {ds : List D} (h : SqT K g.f a vs) (r : RepL g ds vs) : Rep g (.tup ds) (.ref a)
  | lst {g : G} {a : Addr} {vs : List V} {ds : List D} (h : g.f a = some (.lst vs)) (r : RepL g ds vs) : Rep g (.lst ds) (.ref a)
  | rol {g : G} {a : Addr} {vs : List V} {ds : List D} (h : SqL K g.f a vs) (r : RepL g ds vs) : Rep g (.rol ds) (.ref a)
  | ref {g : G} {n : Nat} {a : Addr} (h : g.r[n]? = some a) : Rep g (.ref n) (.ref a)
  | dc0 {g : G} {a : Addr} (h : g.f a = some (.dK [])) : Rep g .dc0 (.ref a)
inductive RepL : G → List D → List V → Prop
  | nil {g : G} : RepL g [] []
  | cons {g : G} {d : D} {v : V} {ds : List D} {vs : List V} (h : Rep g d v) (t : RepL g ds vs) : RepL g (d :: ds) (v :: vs)
end
end

section
variable {K : PySem.W.Frag} {mg : Str → Option Value}
theorem sqT_le {f f' : Hp} {a : Addr} {vs : List V} (h : SqT K f a vs) (k : ∀ a o, f a = some o → f' a = some o) : SqT K f' a vs := by
  rcases h with (h | ⟨o, h⟩) | h
  · exact .inl (.inl (k _ _ h))
  · exact .inl (.inr ⟨o, k _ _ h⟩)
  · exact .inr h
theorem sqL_le {f f' : Hp} {a : Addr} {vs : List V} (h : SqL K f a vs) (k : ∀ a o, f a = some o → f' a = some o) : SqL K f' a vs := by
  rcases h with (h | ⟨o, h⟩) | h
  · exact .inl (.inl (k _ _ h))
  · exact .inl (.inr ⟨o, k _ _ h⟩)
  · exact .inr h
mutual
theorem Rep.ext {g g' : G} (l : g.ext g') : ∀ {d : D} {v : V}, Rep K mg g d v → Rep K mg g' d v
  | .non, _, h => by cases h; exact .non
  | .bl _, _, h => by cases h; exact .bl _
  | .int _, _, h => by cases h; exact .int _
  | .str _, _, h => by cases h; exact .str _
  | .ty _, _, h => by cases h; exact .ty _
  | .gl _, _, h => by cases h with | gl h => exact .gl h
  | .tup ds, _, h => by cases h with | tup h r => exact .tup (sqT_le h l.2.1) (RepL.ext l r)
  | .lst ds, _, h => by cases h with | lst h r => exact .lst (l.2.1 _ _ h) (RepL.ext l r)
  | .rol ds, _, h => by cases h with | rol h r => exact .rol (sqL_le h l.2.1) (RepL.ext l r)
  | .ref _, _, h => by cases h with | ref h => exact .ref (l.r h)
  | .dc0, _, h => by cases h with | dc0 h => exact .dc0 (l.2.1 _ _ h)
  | .xo _ _ _, _, h => by cases h
theorem RepL.ext {g g' : G} (l : g.ext g') : ∀ {ds : List D} {vs : List V}, RepL K mg g ds vs → RepL K mg g' ds vs
  | [], _, h => by cases h; exact .nil
  | _ :: _, _, h => by cases h with | cons h t => exact .cons (Rep.ext l h) (RepL.ext l t)
end
theorem Rep.le {g g' : G} (l : g.le g') {d : D} {v : V} (h : Rep K mg g d v) : Rep K mg g' d v := h.ext l.ext
theorem RepL.le {g g' : G} (l : g.le g') {d : List D} {v : List V} (h : RepL K mg g d v) : RepL K mg g' d v := h.ext l.ext
theorem RepL.length {g : G} : ∀ {ds : List D} {vs : List V}, RepL K mg g ds vs → ds.length = vs.length
  | [], _, h => by cases h; rfl
  | _ :: _, _, h => by cases h with | cons h t => rw [List.length_cons, List.length_cons, RepL.length t]
theorem RepL.get {g : G} : ∀ {ds : List D} {vs : List V} {i : Nat} {d : D}, RepL K mg g ds vs → ds[i]? = some d → ∃ v, vs[i]? = some v ∧ Rep K mg g d v
  | [], _, _, _, _, e => by simp at e
  | x :: ds, _, 0, d, h, e => by
    cases h with
    | cons h t => simp at e; subst e; exact ⟨_, rfl, h⟩
  | x :: ds, _, i + 1, d, h, e => by
    cases h with
    | cons h t =>
      obtain ⟨v, e1, e2⟩ := RepL.get (i := i) (d := d) t (by simpa using e)
      exact ⟨v, by simpa using e1, e2⟩
theorem RepL.append {g : G} : ∀ {ds es : List D} {vs us : List V}, RepL K mg g ds vs → RepL K mg g es us → RepL K mg g (ds ++ es) (vs ++ us)
  | [], _, _, _, h, k => by cases h; exact k
  | _ :: _, _, _, _, h, k => by cases h with | cons h t => exact .cons h (RepL.append t k)
theorem RepL.take {g : G} : ∀ {ds : List D} {vs : List V} (n : Nat), RepL K mg g ds vs → RepL K mg g (ds.take n) (vs.take n)
  | _, _, 0, _ => by simp; exact .nil
  | [], _, n + 1, h => by cases h; exact .nil
  | _ :: _, _, n + 1, h => by cases h with | cons h t => exact .cons h (RepL.take n t)
theorem RepL.drop {g : G} : ∀ {ds : List D} {vs : List V} (n : Nat), RepL K mg g ds vs → RepL K mg g (ds.drop n) (vs.drop n)
  | _, _, 0, h => by simpa using h
  | [], _, n + 1, h => by cases h; exact .nil
  | _ :: _, _, n + 1, h => by cases h with | cons h t => simpa using RepL.drop n t
theorem RepL.set {g : G} {d : D} {v : V} (k : Rep K mg g d v) : ∀ {ds : List D} {vs : List V} (n : Nat), RepL K mg g ds vs → RepL K mg g (ds.set n d) (vs.set n v)
  | [], _, _, h => by cases h; exact .nil
  | _ :: _, _, 0, h => by cases h with | cons h t => exact .cons k t
  | _ :: _, _, n + 1, h => by cases h with | cons h t => exact .cons h (RepL.set k n t)

/-- a cell's list stands at its place -/
def CellOk (K : PySem.W.Frag) (mg : Str → Option Value) (g : G) (H : Hp) (a : Addr) : Cell → Prop
  | .lst ds => g.f a = none ∧ g.z a = none ∧ ∃ vs, H a = some (.lst vs) ∧ RepL K mg g ds vs
  | .dead => True
structure Rel (K : PySem.W.Frag) (mg : Str → Option Value) (g : G) (H : Hp) (S : Sto) : Prop where
  fin : ∀ a o, g.f a = some o → H a = some o
  zin : ∀ a o, g.z a = some o → H a = some o
  fz : ∀ a o, g.f a = some o → g.z a = none
  len : g.r.length = S.length
  nd : g.r.Nodup
  rin : ∀ (n : Nat) (a : Addr), g.r[n]? = some a → ∃ o, H a = some o
  zr : ∀ (n : Nat) (a : Addr), g.r[n]? = some a → g.z a = none
  cell : ∀ (n : Nat) (c : Cell) (a : Addr), S[n]? = some c → g.r[n]? = some a → CellOk K mg g H a c
theorem Rel.fnone {g : G} {H : Hp} {S : Sto} (r : Rel K mg g H S) {p : Addr} (h : H p = none) : g.f p = none := by
  cases e : g.f p with
  | none => rfl
  | some o => rw [r.fin _ _ e] at h; cases h
theorem Rel.znone {g : G} {H : Hp} {S : Sto} (r : Rel K mg g H S) {p : Addr} (h : H p = none) : g.z p = none := by
  cases e : g.z p with
  | none => rfl
  | some o => rw [r.zin _ _ e] at h; cases h
/-- something is known of p from now on -/
def G.known (g : G) (p : Addr) (o : HO) : G := { g with f := upd g.f p o }
theorem G.le_known {g : G} {p : Addr} {o : HO} (h : g.f p = none) : g.le (g.known p o) :=
  ⟨⟨[], (List.append_nil _).symm⟩, fun a u e => by
    show upd g.f p o a = some u
    rw [upd_ne (ne_of_none e h)]
    exact e, rfl, rfl⟩
theorem cellOk_up {g g' : G} {H H' : Hp} {a : Addr} {c : Cell} (l : g.le g') (x : CellOk K mg g H a c) (hf : g.f a = none → g'.f a = none) (hH : ∀ o, H a = some o → H' a = some o) : CellOk K mg g' H' a c := by
  cases c with
  | dead => trivial
  | lst ds =>
    obtain ⟨h1, h2, vs, h3, h4⟩ := x
    exact ⟨hf h1, by rw [l.2.2.2]; exact h2, vs, hH _ h3, h4.le l⟩
/-- a new object that never changes -/
theorem Rel.fresh {g : G} {H : Hp} {S : Sto} (r : Rel K mg g H S) {p : Addr} (h : H p = none) (o : HO) : Rel K mg (g.known p o) (upd H p o) S := by
  have hf := r.fnone h
  have hz := r.znone h
  have l : g.le (g.known p o) := G.le_known hf
  have up : ∀ a u, H a = some u → upd H p o a = some u := fun a u e => by rw [upd_ne (ne_of_none e h)]; exact e
  refine ⟨fun a u e => ?_, fun a u e => up a u (r.zin a u e), fun a u e => ?_, r.len, r.nd, fun n a e => ?_, r.zr, fun n c a e1 e2 => ?_⟩
  · have e' : upd g.f p o a = some u := e
    by_cases q : a = p
    · subst q
      rw [upd_same] at e' ⊢
      exact e'
    · rw [upd_ne q] at e' ⊢
      exact r.fin a u e'
  · have e' : upd g.f p o a = some u := e
    by_cases q : a = p
    · subst q; exact hz
    · rw [upd_ne q] at e'
      exact r.fz a u e'
  · obtain ⟨u, q⟩ := r.rin n a e
    exact ⟨u, up a u q⟩
  · refine cellOk_up l (r.cell n c a e1 e2) (fun q => ?_) fun u q => up a u q
    obtain ⟨u, q2⟩ := r.rin n a e2
    show upd g.f p o a = none
    rw [upd_ne (ne_of_none q2 h)]
    exact q
/-- a new list of the store -/
def G.cellAt (g : G) (p : Addr) : G := { g with r := g.r ++ [p] }
theorem G.le_cell {g : G} {p : Addr} : g.le (g.cellAt p) := ⟨⟨[p], rfl⟩, fun _ _ h => h, rfl, rfl⟩
theorem Rel.newCell {g : G} {H : Hp} {S : Sto} (r : Rel K mg g H S) {p : Addr} {vs : List V} {ds : List D} (h : H p = none) (rl : RepL K mg g ds vs) : Rel K mg (g.cellAt p) (upd H p (.lst vs)) (S ++ [.lst ds]) := by
  have hf := r.fnone h
  have hz := r.znone h
  have up : ∀ a u, H a = some u → upd H p (.lst vs) a = some u := fun a u e => by rw [upd_ne (ne_of_none e h)]; exact e
  have ap : ∀ (n : Nat) (a : Addr), (g.r ++ [p])[n]? = some a → (g.r[n]? = some a) ∨ (n = S.length ∧ a = p) := fun n a e => by
    rcases Nat.lt_or_ge n g.r.length with q | q
    · rw [List.getElem?_append_left q] at e
      exact .inl e
    · rw [List.getElem?_append_right q] at e
      have e0 : n - g.r.length = 0 := by
        rcases Nat.eq_zero_or_pos (n - g.r.length) with z | z
        · exact z
        · rw [List.getElem?_eq_none (by rw [List.length_singleton]; exact z)] at e; cases e
      rw [e0] at e
      refine .inr ⟨by have := r.len; omega, ?_⟩
      simpa using e.symm
  refine ⟨fun a u e => up a u (r.fin a u e), fun a u e => up a u (r.zin a u e), r.fz, ?_, ?_, fun n a e => ?_, fun n a e => ?_, fun n c a e1 e2 => ?_⟩
  · show (g.r ++ [p]).length = (S ++ [Cell.lst ds]).length
    rw [List.length_append, List.length_append, r.len]
    rfl
  · show (g.r ++ [p]).Nodup
    rw [List.nodup_append]
    refine ⟨r.nd, List.nodup_cons.mpr ⟨by simp, List.nodup_nil⟩, fun a ha b hb => ?_⟩
    have hb' : b = p := by simpa using hb
    subst hb'
    obtain ⟨n, hn⟩ := List.getElem?_of_mem ha
    obtain ⟨u, q⟩ := r.rin n a hn
    exact ne_of_none q h
  · rcases ap n a e with e | ⟨_, rfl⟩
    · obtain ⟨u, q⟩ := r.rin n a e
      exact ⟨u, up a u q⟩
    · exact ⟨_, upd_same⟩
  · rcases ap n a e with e | ⟨_, rfl⟩
    · exact r.zr n a e
    · exact hz
  · rcases ap n a e2 with e2 | ⟨rfl, rfl⟩
    · have hn : n < S.length := by rw [← r.len]; exact (List.getElem?_eq_some_iff.mp e2).1
      rw [List.getElem?_append_left hn] at e1
      exact cellOk_up G.le_cell (r.cell n c a e1 e2) (fun q => q) fun u q => up a u q
    · rw [List.getElem?_append_right (Nat.le_refl _), Nat.sub_self] at e1
      have e1' : Cell.lst ds = c := by simpa using e1
      subst e1'
      exact ⟨hf, hz, vs, upd_same, rl.le G.le_cell⟩
theorem Rep.newCell {g : G} {H : Hp} {S : Sto} (r : Rel K mg g H S) (p : Addr) : Rep K mg (g.cellAt p) (.ref S.length) (.ref p) :=
  .ref (by
    show (g.r ++ [p])[S.length]? = some p
    rw [← r.len, List.getElem?_append_right (Nat.le_refl _), Nat.sub_self]
    rfl)
/-- a list of the store is changed -/
theorem Rel.setCell {g : G} {H : Hp} {S : Sto} (r : Rel K mg g H S) {n : Nat} {a : Addr} {ds ds' : List D} {vs' : List V} (e : S[n]? = some (.lst ds)) (ea : g.r[n]? = some a) (rl : RepL K mg g ds' vs') :
    Rel K mg g (upd H a (.lst vs')) (S.set n (.lst ds')) := by
  have hn : n < S.length := (List.getElem?_eq_some_iff.mp e).1
  obtain ⟨h1, h2, vs, h3, h4⟩ := r.cell n _ a e ea
  have up : ∀ b o, b ≠ a → H b = some o → upd H a (.lst vs') b = some o := fun b o q z => by rw [upd_ne q]; exact z
  refine ⟨fun b o q => up b o (fun z => by rw [z, h1] at q; cases q) (r.fin b o q), fun b o q => up b o (fun z => by rw [z, h2] at q; cases q) (r.zin b o q), r.fz, ?_, r.nd, fun m b q => ?_, r.zr, fun m c b q1 q2 => ?_⟩
  · rw [List.length_set]; exact r.len
  · obtain ⟨o, z⟩ := r.rin m b q
    by_cases hb : b = a
    · subst hb; exact ⟨_, upd_same⟩
    · exact ⟨o, up b o hb z⟩
  · by_cases hm : m = n
    · subst hm
      rw [List.getElem?_set_self hn] at q1
      have q1' : Cell.lst ds' = c := by simpa using q1
      rw [ea] at q2
      have hb : a = b := Option.some.inj q2
      subst q1'
      subst hb
      exact ⟨h1, h2, vs', upd_same, rl⟩
    · rw [List.getElem?_set_ne (Ne.symm hm)] at q1
      have hb : b ≠ a := fun z => by
        subst z
        obtain ⟨l1, w1⟩ := List.getElem?_eq_some_iff.mp q2
        obtain ⟨l2, w2⟩ := List.getElem?_eq_some_iff.mp ea
        exact hm ((List.getElem_inj r.nd).mp (w1.trans w2.symm))
      exact cellOk_up (G.le.refl g) (r.cell m c b q1 q2) (fun z => z) fun o z => up b o hb z
/-- a list of the store is changed no more -/
theorem Rel.freeze {g : G} {H : Hp} {S : Sto} (r : Rel K mg g H S) {n : Nat} {a : Addr} {ds : List D} {vs : List V} (e : S[n]? = some (.lst ds)) (ea : g.r[n]? = some a) (hv : H a = some (.lst vs)) :
    Rel K mg (g.known a (.lst vs)) H (S.set n .dead) ∧ g.le (g.known a (.lst vs)) := by
  have hn : n < S.length := (List.getElem?_eq_some_iff.mp e).1
  obtain ⟨h1, h2, _, _, _⟩ := r.cell n _ a e ea
  have l : g.le (g.known a (.lst vs)) := G.le_known h1
  have one : ∀ b o, upd g.f a (.lst vs) b = some o → (b = a ∧ o = .lst vs) ∨ g.f b = some o := fun b o q => by
    by_cases hb : b = a
    · subst hb
      rw [upd_same] at q
      exact .inl ⟨rfl, (Option.some.inj q).symm⟩
    · rw [upd_ne hb] at q
      exact .inr q
  refine ⟨⟨fun b o q => ?_, r.zin, fun b o q => ?_, ?_, r.nd, r.rin, r.zr, fun m c b q1 q2 => ?_⟩, l⟩
  · rcases one b o q with ⟨rfl, rfl⟩ | q
    · exact hv
    · exact r.fin b o q
  · rcases one b o q with ⟨rfl, rfl⟩ | q
    · exact h2
    · exact r.fz b o q
  · rw [List.length_set]; exact r.len
  · by_cases hm : m = n
    · subst hm
      rw [List.getElem?_set_self hn] at q1
      have q1' : Cell.dead = c := by simpa using q1
      subst q1'
      trivial
    · rw [List.getElem?_set_ne (Ne.symm hm)] at q1
      have hb : b ≠ a := fun z => by
        subst z
        obtain ⟨l1, w1⟩ := List.getElem?_eq_some_iff.mp q2
        obtain ⟨l2, w2⟩ := List.getElem?_eq_some_iff.mp ea
        exact hm ((List.getElem_inj r.nd).mp (w1.trans w2.symm))
      refine cellOk_up l (r.cell m c b q1 q2) (fun z => ?_) fun o z => z
      show upd g.f a (.lst vs) b = none
      rw [upd_ne hb]
      exact z
/-! ### one object under construction -/
def G.withZ (g : G) (z : Hp) : G := { g with z := z }
theorem G.ext_withZ {g : G} {z : Hp} : g.ext (g.withZ z) := ⟨⟨[], (List.append_nil _).symm⟩, fun _ _ h => h, rfl⟩
theorem cellOk_z {g : G} {z : Hp} {H H' : Hp} {a : Addr} {c : Cell} (x : CellOk K mg g H a c) (hz : z a = none) (hH : ∀ o, H a = some o → H' a = some o) : CellOk K mg (g.withZ z) H' a c := by
  cases c with
  | dead => trivial
  | lst ds =>
    obtain ⟨h1, h2, vs, h3, h4⟩ := x
    exact ⟨h1, hz, vs, hH _ h3, h4.ext G.ext_withZ⟩
/-- an object is taken under protection, and changed by its owner -/
theorem Rel.putZ {g : G} {H : Hp} {S : Sto} (r : Rel K mg g H S) {p : Addr} {o : HO} {z : Hp} (hz : ∀ a, a ≠ p → g.z a = z a) (hp : H p = none ∨ ∃ u, g.z p = some u) : Rel K mg (g.withZ (upd z p o)) (upd H p o) S := by
  have fp : g.f p = none := by
    rcases hp with hp | ⟨u, hp⟩
    · exact r.fnone hp
    · cases e : g.f p with
      | none => rfl
      | some w => rw [r.fz _ _ e] at hp; cases hp
  have rp : ∀ (n : Nat) (a : Addr), g.r[n]? = some a → a ≠ p := fun n a e q => by
    subst q
    rcases hp with hp | ⟨u, hp⟩
    · obtain ⟨u, q⟩ := r.rin n _ e
      rw [hp] at q; cases q
    · rw [r.zr n _ e] at hp; cases hp
  have up : ∀ a u, a ≠ p → H a = some u → upd H p o a = some u := fun a u q e => by rw [upd_ne q]; exact e
  refine ⟨fun a u e => ?_, fun a u e => ?_, fun a u e => ?_, r.len, r.nd, fun n a e => ?_, fun n a e => ?_, fun n c a e1 e2 => ?_⟩
  · have e' : g.f a = some u := e
    exact up a u (fun q => by rw [q, fp] at e'; cases e') (r.fin a u e')
  · have e' : upd z p o a = some u := e
    by_cases q : a = p
    · subst q; rw [upd_same] at e' ⊢; exact e'
    · rw [upd_ne q] at e'
      exact up a u q (r.zin a u (by rw [hz a q]; exact e'))
  · have e' : g.f a = some u := e
    show upd z p o a = none
    have q : a ≠ p := fun q => by rw [q, fp] at e'; cases e'
    rw [upd_ne q, ← hz a q]
    exact r.fz a u e'
  · obtain ⟨u, q⟩ := r.rin n a e
    exact ⟨u, up a u (rp n a e) q⟩
  · show upd z p o a = none
    rw [upd_ne (rp n a e), ← hz a (rp n a e)]
    exact r.zr n a e
  · have q := rp n a e2
    refine cellOk_z (r.cell n c a e1 e2) ?_ fun u w => up a u q w
    rw [upd_ne q, ← hz a q]
    exact r.zr n a e2
/-- its owner lets it go: known from now on -/
theorem Rel.closeF {g : G} {H : Hp} {S : Sto} {p : Addr} {o : HO} {z : Hp} (r : Rel K mg (g.withZ (upd z p o)) H S) (hz : z p = none) (gz : g.z = z) : Rel K mg (g.known p o) H S ∧ g.f p = none := by
  have zp : (g.withZ (upd z p o)).z p = some o := upd_same
  have fp : g.f p = none := by
    cases e : g.f p with
    | none => rfl
    | some w => rw [r.fz p w e] at zp; cases zp
  have rp : ∀ (n : Nat) (a : Addr), g.r[n]? = some a → a ≠ p := fun n a e q => by
    subst q
    rw [r.zr n _ e] at zp; cases zp
  have zo : ∀ a, a ≠ p → (g.withZ (upd z p o)).z a = z a := fun a q => upd_ne q
  refine ⟨⟨fun a u e => ?_, fun a u e => ?_, fun a u e => ?_, r.len, r.nd, r.rin, fun n a e => ?_, fun n c a e1 e2 => ?_⟩, fp⟩
  · have e' : upd g.f p o a = some u := e
    by_cases q : a = p
    · subst q; rw [upd_same] at e'; rw [← e']; exact r.zin _ _ zp
    · rw [upd_ne q] at e'; exact r.fin a u e'
  · have e' : g.z a = some u := e
    rw [gz] at e'
    have q : a ≠ p := fun q => by rw [q, hz] at e'; cases e'
    exact r.zin a u (by rw [zo a q]; exact e')
  · have e' : upd g.f p o a = some u := e
    show g.z a = none
    rw [gz]
    by_cases q : a = p
    · rw [q]; exact hz
    · rw [upd_ne q] at e'
      have w := r.fz a u e'
      rwa [zo a q] at w
  · have q := rp n a e
    have w := r.zr n a e
    rw [zo a q] at w
    show g.z a = none
    rw [gz]; exact w
  · have q := rp n a e2
    have x := r.cell n c a e1 e2
    have w := r.zr n a e2
    rw [zo a q] at w
    cases c with
    | dead => trivial
    | lst ds =>
      obtain ⟨h1, h2, vs, h3, h4⟩ := x
      refine ⟨?_, by show g.z a = none; rw [gz]; exact w, vs, h3, RepL.ext (g := g.withZ (upd z p o)) (g' := g.known p o) ⟨⟨[], (List.append_nil _).symm⟩, fun b u e => ?_, rfl⟩ h4⟩
      · show upd g.f p o a = none
        rw [upd_ne q]; exact h1
      · show upd g.f p o b = some u
        have e' : g.f b = some u := e
        have q2 : b ≠ p := fun q => by rw [q, fp] at e'; cases e'
        rw [upd_ne q2]; exact e'
/-- its owner lets it go: a list of the store -/
theorem Rel.closeC {g : G} {H : Hp} {S : Sto} {p : Addr} {ds : List D} {vs : List V} {z : Hp} (r : Rel K mg (g.withZ (upd z p (.lst vs))) H S) (hz : z p = none) (gz : g.z = z) (rl : RepL K mg g ds vs) : Rel K mg (g.cellAt p) H (S ++ [.lst ds]) := by
  have zp : (g.withZ (upd z p (.lst vs))).z p = some (.lst vs) := upd_same
  have hp := r.zin _ _ zp
  have fp : g.f p = none := by
    cases e : g.f p with
    | none => rfl
    | some w => rw [r.fz p w e] at zp; cases zp
  have rp : ∀ (n : Nat) (a : Addr), g.r[n]? = some a → a ≠ p := fun n a e q => by
    subst q
    rw [r.zr n _ e] at zp; cases zp
  have zo : ∀ a, a ≠ p → (g.withZ (upd z p (.lst vs))).z a = z a := fun a q => upd_ne q
  have len : g.r.length = S.length := r.len
  have ap : ∀ (n : Nat) (a : Addr), (g.r ++ [p])[n]? = some a → (g.r[n]? = some a) ∨ (n = S.length ∧ a = p) := fun n a e => by
    rcases Nat.lt_or_ge n g.r.length with q | q
    · rw [List.getElem?_append_left q] at e
      exact .inl e
    · rw [List.getElem?_append_right q] at e
      have e0 : n - g.r.length = 0 := by
        rcases Nat.eq_zero_or_pos (n - g.r.length) with z | z
        · exact z
        · rw [List.getElem?_eq_none (by rw [List.length_singleton]; exact z)] at e; cases e
      rw [e0] at e
      refine .inr ⟨by omega, ?_⟩
      simpa using e.symm
  have zz : ∀ a, a ≠ p → (g.withZ (upd z p (.lst vs))).z a = none → g.z a = none := fun a q w => by rw [zo a q] at w; rw [gz]; exact w
  refine ⟨r.fin, fun a u e => ?_, fun a u e => ?_, ?_, ?_, fun n a e => ?_, fun n a e => ?_, fun n c a e1 e2 => ?_⟩
  · have e' : g.z a = some u := e
    rw [gz] at e'
    have q : a ≠ p := fun q => by rw [q, hz] at e'; cases e'
    exact r.zin a u (by rw [zo a q]; exact e')
  · by_cases q : a = p
    · rw [q]; show g.z p = none; rw [gz]; exact hz
    · exact zz a q (r.fz a u e)
  · show (g.r ++ [p]).length = (S ++ [Cell.lst ds]).length
    rw [List.length_append, List.length_append, len]
    rfl
  · show (g.r ++ [p]).Nodup
    rw [List.nodup_append]
    refine ⟨r.nd, List.nodup_cons.mpr ⟨by simp, List.nodup_nil⟩, fun a ha b hb => ?_⟩
    have hb' : b = p := by simpa using hb
    subst hb'
    obtain ⟨n, hn⟩ := List.getElem?_of_mem ha
    exact rp n a hn
  · rcases ap n a e with e | ⟨_, rfl⟩
    · exact r.rin n a e
    · exact ⟨_, hp⟩
  · rcases ap n a e with e | ⟨_, rfl⟩
    · exact zz a (rp n a e) (r.zr n a e)
    · show g.z _ = none; rw [gz]; exact hz
  · rcases ap n a e2 with e2 | ⟨rfl, rfl⟩
    · have hn : n < S.length := by rw [← len]; exact (List.getElem?_eq_some_iff.mp e2).1
      rw [List.getElem?_append_left hn] at e1
      have x := r.cell n c a e1 e2
      cases c with
      | dead => trivial
      | lst es =>
        obtain ⟨h1, h2, us, h3, h4⟩ := x
        exact ⟨h1, zz a (rp n a e2) (r.zr n a e2), us, h3, RepL.ext (g := g.withZ (upd z p (.lst vs))) (g' := g.cellAt p) ⟨⟨[p], rfl⟩, fun _ _ h => h, rfl⟩ h4⟩
    · rw [List.getElem?_append_right (Nat.le_refl _), Nat.sub_self] at e1
      have e1' : Cell.lst ds = c := by simpa using e1
      subst e1'
      refine ⟨fp, by show g.z _ = none; rw [gz]; exact hz, vs, hp, rl.le G.le_cell⟩
end
end ML


set_option Elab.async false
set_option linter.all false
set_option maxRecDepth 100000
set_option autoImplicit false
set_option maxHeartbeats 4000000
namespace ML
open PySem PySem.Spec PyProof.Rows L2

abbrev Sl := List (Option V)
/-! ## the readings, at their weakest -/
def WE (X : Cx) (e : Expr) (σ : Sl) (H : Hp) (Q : VK) : Prop := ∀ (pins : List (Addr × Obj)) (s : Shared), Inv X pins σ H s → wpAny (model X.prog X.w) X.A (eval e X.env) (EP X pins σ Q) X.xe s
def WT (X : Cx) (e : Expr) (σ : Sl) (H : Hp) (Q : Bool → Hp → Prop) : Prop := ∀ (pins : List (Addr × Obj)) (s : Shared), Inv X pins σ H s → wpAny (model X.prog X.w) X.A (isTrue e X.env (eval e X.env)) (TP X pins σ Q) X.xe s
/-- a test whatever stands for its whole -/
def WW (X : Cx) (e : Expr) (σ : Sl) (H : Hp) (Q : Bool → Hp → Prop) : Prop := ∀ (whole : Sem Value) (pins : List (Addr × Obj)) (s : Shared), Inv X pins σ H s → wpAny (model X.prog X.w) X.A (isTrue e X.env whole) (TP X pins σ Q) X.xe s
def WA (X : Cx) (es : List Expr) (σ : Sl) (H : Hp) (Q : List V → Hp → Prop) : Prop := ∀ (pos : Pos) (pins : List (Addr × Obj)) (s : Shared), Inv X pins σ H s → wpAny (model X.prog X.w) X.A (spliced (backTo pos (starEach es X.env))) (AP X pins σ Q) X.xe s
def WS (X : Cx) (st : Stmt) (D : Ends) (σ : Sl) (H : Hp) : Prop := ∀ (pins : List (Addr × Obj)) (s : Shared), Inv X pins σ H s → wpAny (model X.prog X.w) X.A (exec st X.env) (SP X pins D) X.xe s
def WSs (X : Cx) (st : List Stmt) (D : Ends) (σ : Sl) (H : Hp) : Prop := ∀ (pins : List (Addr × Obj)) (s : Shared), Inv X pins σ H s → wpAny (model X.prog X.w) X.A (execs st X.env) (SP X pins D) X.xe s
section
variable {X : Cx} {e : Expr} {es : List Expr} {st : Stmt} {sts : List Stmt} {σ : Sl} {H : Hp}
theorem peW (X : Cx) (e : Expr) : PE X e (WE X e) := ⟨fun pins s σ H Q I h => h pins s I⟩
theorem ptW (X : Cx) (e : Expr) : PT X e (WT X e) := ⟨fun pins s σ H Q I h => h pins s I⟩
theorem pwW (X : Cx) (e : Expr) : PW X e (WW X e) := ⟨fun wh pins s σ H Q I h => h wh pins s I⟩
theorem paW (X : Cx) (es : List Expr) : PA X es (WA X es) := ⟨fun pos pins s σ H Q I h => h pos pins s I⟩
theorem psW (X : Cx) (st : Stmt) : PS X st (fun D σ H => WS X st D σ H) := ⟨fun pins s σ H D I h => h pins s I⟩
theorem pssW (X : Cx) (st : List Stmt) : PSs X st (fun D σ H => WSs X st D σ H) := ⟨fun pins s σ H D I h => h pins s I⟩
theorem wE {t : TE} {Q : VK} (p : PE X e t) (h : t σ H Q) : WE X e σ H Q := fun pins s I => p.run pins s σ H Q I h
theorem wT {t : TT} {Q : Bool → Hp → Prop} (p : PT X e t) (h : t σ H Q) : WT X e σ H Q := fun pins s I => p.run pins s σ H Q I h
theorem wW {t : TT} {Q : Bool → Hp → Prop} (p : PW X e t) (h : t σ H Q) : WW X e σ H Q := fun wh pins s I => p.run wh pins s σ H Q I h
theorem wA {t : TA} {Q : List V → Hp → Prop} (p : PA X es t) (h : t σ H Q) : WA X es σ H Q := fun pos pins s I => p.run pos pins s σ H Q I h
theorem wS {t : TS} {D : Ends} (p : PS X st t) (h : t D σ H) : WS X st D σ H := fun pins s I => p.run pins s σ H D I h
theorem wSs {t : TS} {D : Ends} (p : PSs X sts t) (h : t D σ H) : WSs X sts D σ H := fun pins s I => p.run pins s σ H D I h
theorem WE.imp {Q Q' : VK} (h : WE X e σ H Q) (k : ∀ v H', Q v H' → Q' v H') : WE X e σ H Q' := fun pins s I =>
  thn (h pins s I) fun _ _ ⟨v, H', I', r, q⟩ => ⟨v, H', I', r, k _ _ q⟩
theorem WW.wt {Q : Bool → Hp → Prop} (h : WW X e σ H Q) : WT X e σ H Q := fun pins s I => h _ pins s I
end

/-! ## what a mirror's result is good for -/
section
variable (K : PySem.W.Frag) (mg : Str → Option Value)
/-- a value, or the exception that an except suite holds (P: the pinned objects) -/
def RepE (P : List (Addr × Obj)) (g : G) (d : D) (v : V) : Prop :=
  match d with
  | .xo c ns ds => ∃ (a : Addr) (oe : Obj) (dd C : Addr) (vs : List V), v = .ref a ∧ (a, oe) ∈ P ∧ Zc (.ref C) (some dd) oe ∧ (∃ fv, oe.data = .fields fv) ∧ mg c = some (.ref C) ∧ g.f dd = some (.xd (ns.zip vs)) ∧ RepL K mg g ds vs
  | d => Rep K mg g d v
/-- the names of the frame -/
def EvR (P : List (Addr × Obj)) (g : G) (ev : Ev) (σ : Sl) : Prop := ev.length = σ.length ∧ ∀ (i : Nat) (d : D), ev[i]? = some (some d) → ∃ v, σ[i]? = some (some v) ∧ RepE K mg P g d v
/-- an exception in the air: its class, its own dict -/
def RepX (g : G) (x : Xn) (c : Value) (d : Option Addr) : Prop := ∃ (C dd : Addr) (vs : List V), mg x.cls = some (.ref C) ∧ c = .ref C ∧ d = some dd ∧ g.f dd = some (.xd (x.ns.zip vs)) ∧ RepL K mg g x.ds vs
def Post {α β : Type} (Rp : G → α → β → Prop) (W : WX) (σ : Sl) (g : G) (r : R α) (Q : β → Hp → Prop) : Prop :=
  match r with
  | .ok a S => ∀ (g' : G) (b : β) (H : Hp), g.le g' → Rel K mg g' H S → Rp g' a b → Q b H
  | .ex x S => ∀ (g' : G) (c : Value) (d : Option Addr) (H : Hp), g.le g' → Rel K mg g' H S → RepX K mg g' x c d → W c d σ H
  | .no => False
end
section
variable {K : PySem.W.Frag} {mg : Str → Option Value} {α β γ δ : Type} {Rp : G → α → β → Prop} {Rp' : G → γ → δ → Prop} {W : WX} {σ : Sl} {g g' : G} {r : R α} {Q : β → Hp → Prop} {Q' : δ → Hp → Prop} {P : List (Addr × Obj)}
theorem RepE.of {d : D} {v : V} (h : Rep K mg g d v) : RepE K mg P g d v := by
  cases d with
  | xo => cases h
  | _ => exact h
theorem RepE.ext {d : D} {v : V} (l : g.ext g') (h : RepE K mg P g d v) : RepE K mg P g' d v := by
  cases d with
  | xo c ns ds => obtain ⟨a, oe, dd, C, vs, h1, h2, h3, h4, h5, h6, h7⟩ := h; exact ⟨a, oe, dd, C, vs, h1, h2, h3, h4, h5, l.2.1 _ _ h6, h7.ext l⟩
  | _ => exact Rep.ext l h
theorem EvR.ext {ev : Ev} (l : g.ext g') (h : EvR K mg P g ev σ) : EvR K mg P g' ev σ := ⟨h.1, fun i d e => by
  obtain ⟨v, e1, e2⟩ := h.2 i d e
  exact ⟨v, e1, e2.ext l⟩⟩
theorem EvR.le {ev : Ev} (h : EvR K mg P g ev σ) (l : g.le g') : EvR K mg P g' ev σ := h.ext l.ext
theorem EvR.set {ev : Ev} (h : EvR K mg P g ev σ) {d : D} {v : V} (r : Rep K mg g d v) (i : Nat) : EvR K mg P g (ev.set i (some d)) (σ.set i (some v)) := by
  refine ⟨by rw [List.length_set, List.length_set]; exact h.1, fun j d' e => ?_⟩
  by_cases hj : i = j
  · subst hj
    have hi : i < ev.length := by
      have := (List.getElem?_eq_some_iff.mp e).1
      rwa [List.length_set] at this
    rw [List.getElem?_set_self hi] at e
    have e' : d = d' := by simpa using e
    subst e'
    exact ⟨v, by rw [List.getElem?_set_self (by rw [← h.1]; exact hi)], .of r⟩
  · rw [List.getElem?_set_ne hj] at e ⊢
    exact h.2 j d' e
theorem EvR.gone {ev : Ev} (h : EvR K mg P g ev σ) (i : Nat) : EvR K mg P g (ev.set i none) (σ.set i none) := by
  refine ⟨by rw [List.length_set, List.length_set]; exact h.1, fun j d' e => ?_⟩
  by_cases hj : i = j
  · subst hj
    have hi : i < ev.length := by
      have := (List.getElem?_eq_some_iff.mp e).1
      rwa [List.length_set] at this
    rw [List.getElem?_set_self hi] at e
    simp at e
  · rw [List.getElem?_set_ne hj] at e ⊢
    exact h.2 j d' e
theorem Post.up (l : g.le g') (h : Post K mg Rp W σ g r Q) : Post K mg Rp W σ g' r Q := by
  cases r with
  | ok a S => exact fun g2 b H k => h g2 b H (l.trans k)
  | ex x S => exact fun g2 c d H k => h g2 c d H (l.trans k)
  | no => exact h
/-- first this, then that -/
theorem Post.bind {f : α → Sto → R γ} (h : Post K mg Rp' W σ g (r.bind f) Q')
    (k : ∀ (g' : G) (a : α) (S : Sto) (b : β) (H : Hp), g.le g' → Rel K mg g' H S → Rp g' a b → Post K mg Rp' W σ g' (f a S) Q' → Q b H) : Post K mg Rp W σ g r Q := by
  cases r with
  | ok a S => exact fun g2 b H l rl rp => k g2 a S b H l rl rp (Post.up l h)
  | ex x S => exact h
  | no => exact h
end

/-! ## judgements -/
abbrev M (α : Type) := Ev → Sto → R α
section
variable (X : Cx) (W : WX)
/-- the expression runs as the mirror says -/
def EM (e : Expr) (m : M D) : Prop := ∀ (g : G) (σ : Sl) (H : Hp) (ev : Ev) (S : Sto) (Q : VK), Rel X.K X.mg g H S → EvR X.K X.mg X.pn g ev σ → Post X.K X.mg (Rep X.K X.mg) W σ g (m ev S) Q → WE X e σ H Q
abbrev RB : G → Bool → Bool → Prop := fun _ a b => a = b
def TM (e : Expr) (m : M Bool) : Prop := ∀ (g : G) (σ : Sl) (H : Hp) (ev : Ev) (S : Sto) (Q : Bool → Hp → Prop), Rel X.K X.mg g H S → EvR X.K X.mg X.pn g ev σ → Post X.K X.mg RB W σ g (m ev S) Q → WT X e σ H Q
def WM (e : Expr) (m : M Bool) : Prop := ∀ (g : G) (σ : Sl) (H : Hp) (ev : Ev) (S : Sto) (Q : Bool → Hp → Prop), Rel X.K X.mg g H S → EvR X.K X.mg X.pn g ev σ → Post X.K X.mg RB W σ g (m ev S) Q → WW X e σ H Q
def AM (es : List Expr) (m : M (List D)) : Prop := ∀ (g : G) (σ : Sl) (H : Hp) (ev : Ev) (S : Sto) (Q : List V → Hp → Prop), Rel X.K X.mg g H S → EvR X.K X.mg X.pn g ev σ → Post X.K X.mg (RepL X.K X.mg) W σ g (m ev S) Q → WA X es σ H Q
end
section
variable {X : Cx} {W : WX} {e a b c : Expr} {es : List Expr} {pos : Pos} {ma mb mc : M D} {ml : M (List D)} {mt mu : M Bool}

/-! ### names and constants -/
def asVal : Option (Option D) → Sto → R D
  | some (some (.xo _ _ _)), _ => .no
  | some (some d), S => .ok d S
  | _, _ => .no
def mVar (i : Nat) : M D := fun ev S => asVal ev[i]? S
def mC (d : D) : M D := fun _ S => .ok d S
theorem em_var (i : Nat) {x : Str} (hN : X.N[i]? = some x := by rfl) (hv : Vis X.env.scope x := by first | exact Or.inl rfl | exact Or.inr (Or.inl rfl) | exact Or.inr (Or.inr rfl)) (hd : (x == ("__debug__" : Str)) = false := by decide)
    (hcd : (x == ("__classdict__" : Str)) = false := by decide) : EM X W (.Name x pos) (mVar i) := by
  intro g σ H ev S Q rl er hP
  unfold mVar at hP
  cases e : ev[i]? with
  | none => rw [e] at hP; exact hP.elim
  | some o =>
    rw [e] at hP
    cases o with
    | none => exact hP.elim
    | some d =>
      obtain ⟨v, e1, e2⟩ := er.2 i d e
      cases d with
      | xo => exact hP.elim
      | _ => exact wE (pe_var hN hv hd hcd) ⟨v, e1, hP g v H (G.le.refl g) rl e2⟩
theorem em_int {i : Int} {j : Nat} : EM X W (.Constant (.int i) j pos) (mC (.int i)) := fun g σ H ev S Q rl er hP => wE pe_int (hP g _ H (G.le.refl g) rl (.int i))
theorem em_bl {i : Bool} {j : Nat} : EM X W (.Constant (.bool i) j pos) (mC (.bl i)) := fun g σ H ev S Q rl er hP => wE pe_bl (hP g _ H (G.le.refl g) rl (.bl i))
theorem em_non {j : Nat} : EM X W (.Constant .none j pos) (mC .non) := fun g σ H ev S Q rl er hP => wE pe_non (hP g _ H (G.le.refl g) rl .non)
theorem em_str {i : Str} {j : Nat} : EM X W (.Constant (.str i) j pos) (mC (.str i)) := fun g σ H ev S Q rl er hP => wE pe_str (hP g _ H (G.le.refl g) rl (.str i))
/-- a module's constant: an int, a text .. -/
theorem em_const {x : Str} {d : D} {u : Value} {v : V} (hm : X.mg x = some u) (hr : RelV v u) (hv : ∀ g, Rep X.K X.mg g d v) (hg : Gl X x := by rfl) (hd : (x == ("__debug__" : Str)) = false := by decide) : EM X W (.Name x pos) (mC d) :=
  fun g σ H ev S Q rl er hP => wE (pe_glob hg hm hr hd) (hP g _ H (G.le.refl g) rl (hv g))
/-- a def or a class as a value -/
theorem em_gl {x : Str} {f : Addr} (hm : X.mg x = some (.ref f)) (hg : Gl X x := by rfl) (hd : (x == ("__debug__" : Str)) = false := by decide) : EM X W (.Name x pos) (mC (.gl x)) :=
  em_const (v := .ref f) hm rfl (fun _ => .gl hm) hg hd

/-! ### operators -/
abbrev P1 := D → Sto → R D
abbrev P2 := D → D → Sto → R D
def m2 (p : P2) (ma mb : M D) : M D := fun ev S => (ma ev S).bind fun x S1 => (mb ev S1).bind fun y S2 => p x y S2
def m1 (p : P1) (ma : M D) : M D := fun ev S => (ma ev S).bind p
/-- an operation on two values does what p says -/
def OpM (X : Cx) (W : WX) (f : Value → Value → Sem Value) (p : P2) : Prop := ∀ (g : G) (σ : Sl) (H : Hp) (S : Sto) (x y : D) (v u : V) (Q : VK), Rel X.K X.mg g H S → Rep X.K X.mg g x v → Rep X.K X.mg g y u →
  Post X.K X.mg (Rep X.K X.mg) W σ g (p x y S) Q → ∀ (pins : List (Addr × Obj)) (s : Shared) (vv uu : Value), Inv X pins σ H s → RelV v vv → RelV u uu → wpAny (model X.prog X.w) X.A (f vv uu) (EP X pins σ Q) X.xe s
def UnM (X : Cx) (W : WX) (f : Value → Sem Value) (p : P1) : Prop := ∀ (g : G) (σ : Sl) (H : Hp) (S : Sto) (x : D) (v : V) (Q : VK), Rel X.K X.mg g H S → Rep X.K X.mg g x v →
  Post X.K X.mg (Rep X.K X.mg) W σ g (p x S) Q → ∀ (pins : List (Addr × Obj)) (s : Shared) (vv : Value), Inv X pins σ H s → RelV v vv → wpAny (model X.prog X.w) X.A (f vv) (EP X pins σ Q) X.xe s
theorem OpM.opR {f : Value → Value → Sem Value} {p : P2} {g : G} (o : OpM X W f p) : OpR X f (fun v u H Q => ∃ (g : G) (S : Sto) (x y : D), Rel X.K X.mg g H S ∧ Rep X.K X.mg g x v ∧ Rep X.K X.mg g y u ∧ ∀ σ, Post X.K X.mg (Rep X.K X.mg) W σ g (p x y S) Q) := by
  intro pins s σ H v u vv uu Q I rv ru h
  obtain ⟨g, S, x, y, h1, h2, h3, h4⟩ := h
  exact o g σ H S x y v u Q h1 h2 h3 (h4 σ) pins s vv uu I rv ru
theorem twoM {Q : VK} {g : G} {σ : Sl} {H : Hp} {ev : Ev} {S : Sto} {p : P2} (ha : EM X W a ma) (hb : EM X W b mb) (rl : Rel X.K X.mg g H S) (er : EvR X.K X.mg X.pn g ev σ) (hP : Post X.K X.mg (Rep X.K X.mg) W σ g (m2 p ma mb ev S) Q)
    {R : V → V → Hp → Prop} (k : ∀ (g' : G) (x y : D) (S' : Sto) (v u : V) (H' : Hp), g.le g' → Rel X.K X.mg g' H' S' → Rep X.K X.mg g' x v → Rep X.K X.mg g' y u → Post X.K X.mg (Rep X.K X.mg) W σ g' (p x y S') Q → R v u H') :
    WE X a σ H fun v H1 => WE X b σ H1 fun u H2 => R v u H2 := by
  refine ha g σ H ev S _ rl er (hP.bind fun g1 x S1 v H1 l1 rl1 rx hP1 => ?_)
  refine hb g1 σ H1 ev S1 _ rl1 (er.le l1) (hP1.bind fun g2 y S2 u H2 l2 rl2 ry hP2 => ?_)
  exact k g2 x y S2 v u H2 (l1.trans l2) rl2 (rx.le l2) ry hP2
theorem em_op {op : Operator} {p : P2} (o : OpM X W (binaryOp op) p) (ha : EM X W a ma) (hb : EM X W b mb) : EM X W (.BinOp a op b pos) (m2 p ma mb) := by
  intro g σ H ev S Q rl er hP pins s I
  refine wpAny_BinOp (binT (peW X a) (peW X b) I (twoM (R := fun v u H2 => ∃ (g' : G) (x y : D) (S' : Sto), Rel X.K X.mg g' H2 S' ∧ Rep X.K X.mg g' x v ∧ Rep X.K X.mg g' y u ∧ Post X.K X.mg (Rep X.K X.mg) W σ g' (p x y S') Q) ha hb rl er hP
    fun g' x y S' v u H' l h1 h2 h3 h4 => ⟨g', x, y, S', h1, h2, h3, h4⟩) fun vv uu s2 v u H2 I2 rv ru q => ?_)
  obtain ⟨g', x, y, S', h1, h2, h3, h4⟩ := q
  exact o g' σ H2 S' x y v u Q h1 h2 h3 h4 pins s2 vv uu I2 rv ru
theorem em_un {op : UnaryOp} {p : P1} (o : UnM X W (unaryOp op) p) (ha : EM X W a ma) : EM X W (.UnaryOp op a pos) (m1 p ma) := by
  intro g σ H ev S Q rl er hP pins s I
  refine UnaryOp_ (thn (ha g σ H ev S (fun v H1 => ∃ (g' : G) (x : D) (S' : Sto), Rel X.K X.mg g' H1 S' ∧ Rep X.K X.mg g' x v ∧ Post X.K X.mg (Rep X.K X.mg) W σ g' (p x S') Q) rl er (hP.bind fun g1 x S1 v H1 l1 rl1 rx hP1 => ⟨g1, x, S1, rl1, rx, hP1⟩) pins s I)
    fun vv s1 ⟨v, H1, I1, rv, g1, x, S1, h1, h2, h3⟩ => o g1 σ H1 S1 x v Q h1 h2 h3 pins s1 vv I1 rv)
/-- a comparison, as a value and as a test -/
theorem em_cmp {op : CmpOp} {p : P2} (o : OpM X W (compareOp op) p) (ha : EM X W a ma) (hb : EM X W b mb) (hm : behindInMarks op b = false := by first | exact nomark _ | rfl) : EM X W (.Compare a [op] [b] pos) (m2 p ma mb) := by
  intro g σ H ev S Q rl er hP pins s I
  refine wpAny_Compare1 (binT (peW X a) (peW X b) I (twoM (R := fun v u H2 => ∃ (g' : G) (x y : D) (S' : Sto), Rel X.K X.mg g' H2 S' ∧ Rep X.K X.mg g' x v ∧ Rep X.K X.mg g' y u ∧ Post X.K X.mg (Rep X.K X.mg) W σ g' (p x y S') Q) ha hb rl er hP
    fun g' x y S' v u H' l h1 h2 h3 h4 => ⟨g', x, y, S', h1, h2, h3, h4⟩) fun vv uu s2 v u H2 I2 rv ru q => ?_) hm
  obtain ⟨g', x, y, S', h1, h2, h3, h4⟩ := q
  exact o g' σ H2 S' x y v u Q h1 h2 h3 h4 pins s2 vv uu I2 rv ru
/-- a bool, nothing else -/
def asB : D → Sto → R Bool := fun d S => match d with
  | .bl b => .ok b S
  | _ => .no
def mT (ma : M D) : M Bool := fun ev S => (ma ev S).bind asB
theorem post_asB {g : G} {σ : Sl} {x : D} {S : Sto} {v : V} {H : Hp} {Q : Bool → Hp → Prop} (rl : Rel X.K X.mg g H S) (rx : Rep X.K X.mg g x v) (h : Post X.K X.mg RB W σ g (asB x S) Q) : ∃ k, v = .bl k ∧ Q k H := by
  cases x with
  | bl b => cases rx; exact ⟨b, rfl, h g b H (G.le.refl g) rl rfl⟩
  | _ => exact h.elim
theorem tm_cmp {op : CmpOp} {p : P2} (o : OpM X W (compareOp op) p) (ha : EM X W a ma) (hb : EM X W b mb) (hm : behindInMarks op b = false := by first | exact nomark _ | rfl) : TM X W (.Compare a [op] [b] pos) (mT (m2 p ma mb)) := by
  intro g σ H ev S Q rl er hP pins s I
  have hP' : Post X.K X.mg (Rep X.K X.mg) W σ g (m2 p ma mb ev S) (fun v H' => ∃ k, v = .bl k ∧ Q k H') := Post.bind hP fun g1 x S1 v H1 l1 rl1 rx hP1 => post_asB rl1 rx hP1
  refine wpAny_isTrue_Compare1 (binT (peW X a) (peW X b) I (twoM (R := fun v u H2 => ∃ (g' : G) (x y : D) (S' : Sto), Rel X.K X.mg g' H2 S' ∧ Rep X.K X.mg g' x v ∧ Rep X.K X.mg g' y u ∧ Post X.K X.mg (Rep X.K X.mg) W σ g' (p x y S') _) ha hb rl er hP'
    fun g' x y S' v u H' l h1 h2 h3 h4 => ⟨g', x, y, S', h1, h2, h3, h4⟩) fun vv uu s2 v u H2 I2 rv ru q => ?_) hm
  obtain ⟨g', x, y, S', h1, h2, h3, h4⟩ := q
  refine thn (o g' σ H2 S' x y v u _ h1 h2 h3 h4 pins s2 vv uu I2 rv ru) fun cc s3 ⟨z, H3, I3, r3, k, e, q3⟩ => ?_
  subst e
  cases r3
  exact wpAny_truthy_bool ⟨H3, I3, q3⟩
end
end ML


set_option Elab.async false
set_option linter.all false
set_option maxRecDepth 100000
set_option autoImplicit false
set_option maxHeartbeats 4000000
namespace ML
open PySem PySem.Spec PyProof.Rows L2

/-! ## lists wherever they stand -/
def seqOf (S : Sto) : D → Option (List D)
  | .lst ds => some ds
  | .rol ds => some ds
  | .ref n => match S[n]? with
    | some (.lst ds) => some ds
    | _ => none
  | _ => none
/-- .. but those that are only read -/
def seqM (S : Sto) : D → Option (List D)
  | .lst ds => some ds
  | .ref n => match S[n]? with
    | some (.lst ds) => some ds
    | _ => none
  | _ => none
section
variable {K : PySem.W.Frag} {mg : Str → Option Value} {g : G} {H : Hp} {S : Sto} {d : D} {v : V} {ds : List D}
theorem sqL_up {f H : Hp} {a : Addr} {vs : List V} (h : SqL K f a vs) (k : ∀ a o, f a = some o → H a = some o) : SqL K H a vs := sqL_le h k
theorem seqM_rep (rl : Rel K mg g H S) (r : Rep K mg g d v) (h : seqM S d = some ds) : ∃ a vs, v = .ref a ∧ H a = some (.lst vs) ∧ RepL K mg g ds vs := by
  cases d with
  | lst es =>
    cases r with
    | lst h1 h2 =>
      have e : es = ds := by simpa [seqM] using h
      subst e
      exact ⟨_, _, rfl, rl.fin _ _ h1, h2⟩
  | ref n =>
    cases r with
    | ref h1 =>
      simp only [seqM] at h
      split at h
      · rename_i es he
        have e : es = ds := by simpa using h
        subst e
        obtain ⟨_, _, vs, h3, h4⟩ := rl.cell n _ _ he h1
        exact ⟨_, vs, rfl, h3, h4⟩
      · cases h
  | _ => simp [seqM] at h
theorem seqOf_rep (rl : Rel K mg g H S) (r : Rep K mg g d v) (h : seqOf S d = some ds) : ∃ a vs, v = .ref a ∧ SqL K H a vs ∧ RepL K mg g ds vs := by
  cases d with
  | rol es =>
    cases r with
    | rol h1 h2 =>
      have e : es = ds := by simpa [seqOf] using h
      subst e
      exact ⟨_, _, rfl, sqL_up h1 rl.fin, h2⟩
  | lst es =>
    obtain ⟨a, vs, e1, e2, e3⟩ := seqM_rep rl r (ds := ds) (by simpa [seqM, seqOf] using h)
    exact ⟨a, vs, e1, SqL.of e2, e3⟩
  | ref n =>
    obtain ⟨a, vs, e1, e2, e3⟩ := seqM_rep rl r (ds := ds) (by simpa [seqM, seqOf] using h)
    exact ⟨a, vs, e1, SqL.of e2, e3⟩
  | _ => simp [seqOf] at h
theorem tup_rep (rl : Rel K mg g H S) (r : Rep K mg g (.tup ds) v) : ∃ a vs, v = .ref a ∧ SqT K H a vs ∧ RepL K mg g ds vs := by
  cases r with
  | tup h1 h2 => exact ⟨_, _, rfl, sqT_le h1 rl.fin, h2⟩
end

/-! ## new lists: nw = true where the list is to be changed later -/
def mkL (nw : Bool) (ds : List D) (S : Sto) : R D := if nw = true then .ok (.ref S.length) (S ++ [.lst ds]) else .ok (.lst ds) S
section
variable {K : PySem.W.Frag} {mg : Str → Option Value} {W : WX} {σ : Sl} {g : G} {H : Hp} {S : Sto} {ds : List D} {vs : List V} {Q : VK}
theorem post_mkL {nw : Bool} (rl : Rel K mg g H S) (r : RepL K mg g ds vs) (h : Post K mg (Rep K mg) W σ g (mkL nw ds S) Q) : ∀ p, H p = none → Q (.ref p) (upd H p (.lst vs)) := by
  intro p hp
  unfold mkL at h
  split at h
  · exact h _ _ _ G.le_cell (rl.newCell hp r) (Rep.newCell rl p)
  · have l : g.le (g.known p (.lst vs)) := G.le_known (rl.fnone hp)
    exact h _ _ _ l (rl.fresh hp _) (.lst upd_same (r.le l))
theorem post_mkT (rl : Rel K mg g H S) (r : RepL K mg g ds vs) (h : Post K mg (Rep K mg) W σ g (.ok (.tup ds) S) Q) : ∀ p, H p = none → Q (.ref p) (upd H p (.tup vs)) := by
  intro p hp
  have l : g.le (g.known p (.tup vs)) := G.le_known (rl.fnone hp)
  exact h _ _ _ l (rl.fresh hp _) (.tup (SqT.of upd_same) (r.le l))
theorem post_ok {x : D} {v : V} (rl : Rel K mg g H S) (r : Rep K mg g x v) (h : Post K mg (Rep K mg) W σ g (.ok x S) Q) : Q v H := h g v H (G.le.refl g) rl r
end

/-! ## arithmetic -/
def padd (nw : Bool) : P2 := fun x y S => match x, y with
  | .int i, .int j => .ok (.int (i + j)) S
  | .str a, .str b => if a.length + b.length ≤ 16777216 then .ok (.str (a ++ b)) S else .no
  | .tup a, .tup b => if a.length + b.length ≤ 16777216 then .ok (.tup (a ++ b)) S else .no
  | x, y => match seqM S x, seqM S y with
    | some a, some b => if a.length + b.length ≤ 16777216 then mkL nw (a ++ b) S else .no
    | _, _ => .no
def psub : P2 := fun x y S => match x, y with
  | .int i, .int j => .ok (.int (i - j)) S
  | _, _ => .no
def pmul (nw : Bool) : P2 := fun x y S => match x, y with
  | .int i, .int j => if (-(2 ^ 64) < i ∧ i < 2 ^ 64) ∨ (-(2 ^ 64) < j ∧ j < 2 ^ 64) then .ok (.int (i * j)) S else .no
  | x, .int k => match seqM S x with
    | some a => if -(2 ^ 63) ≤ k ∧ k < 2 ^ 63 ∧ a.length * k.toNat ≤ 16777216 then mkL nw (List.replicate k.toNat a).flatten S else .no
    | _ => .no
  | _, _ => .no
def pfdiv : P2 := fun x y S => match x, y with
  | .int i, .int j => if 0 < j ∧ j < 1073741824 then .ok (.int (i / j)) S else .no
  | _, _ => .no
def pmod : P2 := fun x y S => match x, y with
  | .int i, .int j => if 0 < j then .ok (.int (i % j)) S else .no
  | _, _ => .no
def ppow : P2 := fun x y S => match x, y with
  | .int i, .int j => if 0 ≤ j ∧ j ≤ 1000000 ∧ i.natAbs < 2 ^ 64 then .ok (.int (i ^ j.toNat)) S else .no
  | _, _ => .no
def pneg : P1 := fun x S => match x with
  | .int i => .ok (.int (-i)) S
  | _ => .no
section
variable {X : Cx} {W : WX}
theorem sizeL : sizeLine = 16777216 := sizeLine_eq
theorem RepL.rep {K : PySem.W.Frag} {mg : Str → Option Value} {g : G} {ds : List D} {vs : List V} (h : RepL K mg g ds vs) : ∀ n : Nat, RepL K mg g (List.replicate n ds).flatten (List.replicate n vs).flatten
  | 0 => .nil
  | n + 1 => by
    rw [List.replicate_succ, List.replicate_succ, List.flatten_cons, List.flatten_cons]
    exact h.append (RepL.rep h n)
theorem o_add (nw : Bool) : OpM X W (binaryOp .Add) (padd nw) := by
  intro g σ H S x y v u Q rl rx ry hP pins s vv uu I rv ru
  have sl := sizeL
  have gen : ∀ a b, seqM S x = some a → seqM S y = some b → Post X.K X.mg (Rep X.K X.mg) W σ g (if a.length + b.length ≤ 16777216 then mkL nw (a ++ b) S else .no) Q → wpAny (model X.prog X.w) X.A (binaryOp .Add vv uu) (EP X pins σ Q) X.xe s := by
    intro a b ha hb hP
    obtain ⟨p, vs, rfl, hp, r1⟩ := seqM_rep rl rx ha
    obtain ⟨q, us, rfl, hq, r2⟩ := seqM_rep rl ry hb
    split at hP
    · rename_i hz
      have e1 := r1.length
      have e2 := r2.length
      exact op_cat pins s σ H _ _ vv uu Q I rv ru ⟨p, q, vs, us, rfl, rfl, hp, hq, by omega, post_mkL rl (r1.append r2) hP⟩
    · exact hP.elim
  unfold padd at hP
  split at hP
  · cases rx; cases ry
    exact op_add pins s σ H _ _ vv uu Q I rv ru ⟨_, _, rfl, rfl, post_ok rl (.int _) hP⟩
  · rename_i a b
    split at hP
    · rename_i hz
      cases rx; cases ry
      exact op_add_str pins s σ H _ _ vv uu Q I rv ru ⟨_, _, rfl, rfl, by omega, post_ok rl (.str _) hP⟩
    · exact hP.elim
  · rename_i a b
    split at hP
    · rename_i hz
      obtain ⟨p, vs, rfl, hp, r1⟩ := tup_rep rl rx
      obtain ⟨q, us, rfl, hq, r2⟩ := tup_rep rl ry
      have e1 := r1.length
      have e2 := r2.length
      refine op_catA pins s σ H _ _ vv uu Q I rv ru ⟨p, q, vs, us, rfl, rfl, hp, hq, by omega, fun e => ?_, fun _ e => ?_, fun _ _ => post_mkT rl (r1.append r2) hP⟩
      · subst e
        cases r1
        rw [List.nil_append] at hP
        exact post_ok rl ry hP
      · subst e
        cases r2
        rw [List.append_nil] at hP
        exact post_ok rl rx hP
    · exact hP.elim
  · split at hP
    · rename_i a b ha hb
      exact gen a b ha hb hP
    · exact hP.elim
theorem o_sub : OpM X W (binaryOp .Sub) psub := by
  intro g σ H S x y v u Q rl rx ry hP pins s vv uu I rv ru
  unfold psub at hP
  split at hP
  · cases rx; cases ry
    exact op_sub pins s σ H _ _ vv uu Q I rv ru ⟨_, _, rfl, rfl, post_ok rl (.int _) hP⟩
  · exact hP.elim
theorem o_mul (nw : Bool) : OpM X W (binaryOp .Mult) (pmul nw) := by
  intro g σ H S x y v u Q rl rx ry hP pins s vv uu I rv ru
  have sl := sizeL
  unfold pmul at hP
  split at hP
  · split at hP
    · rename_i hz
      cases rx; cases ry
      exact op_mul pins s σ H _ _ vv uu Q I rv ru ⟨_, _, rfl, rfl, hz, post_ok rl (.int _) hP⟩
    · exact hP.elim
  · rename_i k _
    split at hP
    · rename_i a ha
      obtain ⟨p, vs, rfl, hp, r1⟩ := seqM_rep rl rx ha
      cases ry
      split at hP
      · rename_i hz
        have e1 := r1.length
        exact op_rep pins s σ H _ _ vv uu Q I rv ru ⟨p, _, vs, rfl, rfl, hp, hz.1, hz.2.1, by rw [← e1, sl]; exact hz.2.2, post_mkL rl (RepL.rep r1 _) hP⟩
      · exact hP.elim
    · exact hP.elim
  · exact hP.elim
theorem o_fdiv : OpM X W (binaryOp .FloorDiv) pfdiv := by
  intro g σ H S x y v u Q rl rx ry hP pins s vv uu I rv ru
  unfold pfdiv at hP
  split at hP
  · split at hP
    · rename_i hz
      cases rx; cases ry
      exact op_fdiv pins s σ H _ _ vv uu Q I rv ru ⟨_, _, rfl, rfl, hz, post_ok rl (.int _) hP⟩
    · exact hP.elim
  · exact hP.elim
theorem o_mod : OpM X W (binaryOp .Mod) pmod := by
  intro g σ H S x y v u Q rl rx ry hP pins s vv uu I rv ru
  unfold pmod at hP
  split at hP
  · split at hP
    · rename_i hz
      cases rx; cases ry
      exact op_mod pins s σ H _ _ vv uu Q I rv ru ⟨_, _, rfl, rfl, hz, post_ok rl (.int _) hP⟩
    · exact hP.elim
  · exact hP.elim
theorem o_pow : OpM X W (binaryOp .Pow) ppow := by
  intro g σ H S x y v u Q rl rx ry hP pins s vv uu I rv ru
  unfold ppow at hP
  split at hP
  · split at hP
    · rename_i hz
      cases rx; cases ry
      exact op_pow pins s σ H _ _ vv uu Q I rv ru ⟨_, _, rfl, rfl, hz, post_ok rl (.int _) hP⟩
    · exact hP.elim
  · exact hP.elim
theorem u_neg : UnM X W (unaryOp .USub) pneg := by
  intro g σ H S x v Q rl rx hP pins s vv I rv
  unfold pneg at hP
  split at hP
  · cases rx
    exact un_neg pins s σ H _ vv Q I rv ⟨_, rfl, post_ok rl (.int _) hP⟩
  · exact hP.elim
end

/-! ## comparisons -/
def pyL (f : D → Option PyData) : List D → Option (List PyData)
  | [] => some []
  | d :: ds => match f d, pyL f ds with
    | some x, some xs => some (x :: xs)
    | _, _ => none
/-- plain data: what == and in look at -/
def py : Nat → Sto → D → Option PyData
  | 0, _, _ => none
  | n + 1, S, d => match d with
    | .non => some .none
    | .bl b => some (.bool b)
    | .int i => some (.int i)
    | .str x => if PyData.strOk x = true then some (.str x) else none
    | .tup ds => match pyL (py n S) ds with
      | some xs => some (.tuple xs)
      | none => none
    | .lst ds => match pyL (py n S) ds with
      | some xs => some (.list xs)
      | none => none
    | .rol ds => match pyL (py n S) ds with
      | some xs => some (.list xs)
      | none => none
    | .ref k => match S[k]? with
      | some (.lst ds) => match pyL (py n S) ds with
        | some xs => some (.list xs)
        | none => none
      | _ => none
    | _ => none
section
variable {K : PySem.W.Frag} {mg : Str → Option Value} {g : G} {H : Hp} {S : Sto}
theorem pyL_dp {f : D → Option PyData} (hf : ∀ d v x, Rep K mg g d v → f d = some x → Dp K H v x) : ∀ (ds : List D) (vs : List V) (xs : List PyData), RepL K mg g ds vs → pyL f ds = some xs → DpAll K H vs xs
  | [], _, xs, h, e => by
    cases h
    have e' : [] = xs := by simpa [pyL] using e
    subst e'
    exact .nil
  | d :: ds, _, xs, h, e => by
    cases h with
    | cons h t =>
      simp only [pyL] at e
      split at e
      · rename_i x ys h1 h2
        have e' : x :: ys = xs := by simpa using e
        subst e'
        exact .cons (hf _ _ _ h h1) (pyL_dp hf ds _ _ t h2)
      · cases e
theorem py_dp (rl : Rel K mg g H S) : ∀ (n : Nat) (d : D) (v : V) (x : PyData), Rep K mg g d v → py n S d = some x → Dp K H v x
  | 0, _, _, _, _, e => by simp [py] at e
  | n + 1, d, v, x, r, e => by
    have ih : ∀ d v x, Rep K mg g d v → py n S d = some x → Dp K H v x := fun d v x => py_dp rl n d v x
    cases d with
    | non => cases r; simp only [py, Option.some.injEq] at e; subst e; exact .non
    | bl b => cases r; simp only [py, Option.some.injEq] at e; subst e; exact .bl _
    | int b => cases r; simp only [py, Option.some.injEq] at e; subst e; exact .int _
    | str b =>
      cases r
      simp only [py] at e
      split at e
      · simp only [Option.some.injEq] at e; subst e; exact .str _
      · cases e
    | tup ds =>
      obtain ⟨a, vs, rfl, h1, h2⟩ := tup_rep rl r
      simp only [py] at e
      split at e
      · rename_i xs hx
        simp only [Option.some.injEq] at e; subst e
        exact .tup h1 (pyL_dp ih ds vs xs h2 hx)
      · cases e
    | lst ds =>
      obtain ⟨a, vs, rfl, h1, h2⟩ := seqOf_rep (ds := ds) rl r rfl
      simp only [py] at e
      split at e
      · rename_i xs hx
        simp only [Option.some.injEq] at e; subst e
        exact .lst h1 (pyL_dp ih ds vs xs h2 hx)
      · cases e
    | rol ds =>
      obtain ⟨a, vs, rfl, h1, h2⟩ := seqOf_rep (ds := ds) rl r rfl
      simp only [py] at e
      split at e
      · rename_i xs hx
        simp only [Option.some.injEq] at e; subst e
        exact .lst h1 (pyL_dp ih ds vs xs h2 hx)
      · cases e
    | ref k =>
      simp only [py] at e
      split at e
      · rename_i ds hk
        obtain ⟨a, vs, rfl, h1, h2⟩ := seqOf_rep (ds := ds) rl r (by simp only [seqOf, hk])
        split at e
        · rename_i xs hx
          simp only [Option.some.injEq] at e; subst e
          exact .lst h1 (pyL_dp ih ds vs xs h2 hx)
        · cases e
      · cases e
    | _ => simp [py] at e
theorem pyL_shape {f : D → Option PyData} {n : Nat} (hf : ∀ d x, f d = some x → x.canLay0 = true ∧ x.depth ≤ n) : ∀ (ds : List D) (xs : List PyData), pyL f ds = some xs → PyData.canLayAll0 xs = true ∧ PyData.depthAll xs ≤ n
  | [], xs, e => by
    have e' : [] = xs := by simpa [pyL] using e
    subst e'
    exact ⟨rfl, by simp [PyData.depthAll]⟩
  | d :: ds, xs, e => by
    simp only [pyL] at e
    split at e
    · rename_i x ys h1 h2
      have e' : x :: ys = xs := by simpa using e
      subst e'
      obtain ⟨a1, a2⟩ := hf _ _ h1
      obtain ⟨b1, b2⟩ := pyL_shape hf ds ys h2
      exact ⟨by simp [PyData.canLayAll0, a1, b1], by simp only [PyData.depthAll]; omega⟩
    · cases e
theorem py_shape : ∀ (n : Nat) (d : D) (x : PyData), py n S d = some x → x.canLay0 = true ∧ x.depth ≤ n
  | 0, _, _, e => by simp [py] at e
  | n + 1, d, x, e => by
    have ih : ∀ d x, py n S d = some x → x.canLay0 = true ∧ x.depth ≤ n := fun d x => py_shape n d x
    cases d with
    | non => simp only [py, Option.some.injEq] at e; subst e; exact ⟨rfl, by simp [PyData.depth]⟩
    | bl b => simp only [py, Option.some.injEq] at e; subst e; exact ⟨rfl, by simp [PyData.depth]⟩
    | int b => simp only [py, Option.some.injEq] at e; subst e; exact ⟨rfl, by simp [PyData.depth]⟩
    | str b =>
      simp only [py] at e
      split at e
      · rename_i hz
        simp only [Option.some.injEq] at e; subst e; exact ⟨by simpa [PyData.canLay0] using hz, by simp [PyData.depth]⟩
      · cases e
    | tup ds =>
      simp only [py] at e
      split at e
      · rename_i xs hx
        simp only [Option.some.injEq] at e; subst e
        obtain ⟨a, b⟩ := pyL_shape ih ds xs hx
        exact ⟨by simpa [PyData.canLay0] using a, by simp only [PyData.depth]; omega⟩
      · cases e
    | lst ds =>
      simp only [py] at e
      split at e
      · rename_i xs hx
        simp only [Option.some.injEq] at e; subst e
        obtain ⟨a, b⟩ := pyL_shape ih ds xs hx
        exact ⟨by simpa [PyData.canLay0] using a, by simp only [PyData.depth]; omega⟩
      · cases e
    | rol ds =>
      simp only [py] at e
      split at e
      · rename_i xs hx
        simp only [Option.some.injEq] at e; subst e
        obtain ⟨a, b⟩ := pyL_shape ih ds xs hx
        exact ⟨by simpa [PyData.canLay0] using a, by simp only [PyData.depth]; omega⟩
      · cases e
    | ref k =>
      simp only [py] at e
      split at e
      · split at e
        · rename_i xs hx
          simp only [Option.some.injEq] at e; subst e
          obtain ⟨a, b⟩ := pyL_shape ih _ xs hx
          exact ⟨by simpa [PyData.canLay0] using a, by simp only [PyData.depth]; omega⟩
        · cases e
      · cases e
    | _ => simp [py] at e
theorem py_shaped {n : Nat} {d : D} {x : PyData} (hn : n ≤ 60) (e : py n S d = some x) : SeqAt.shaped x = true := by
  obtain ⟨a, b⟩ := py_shape n d x e
  unfold SeqAt.shaped
  rw [a, decide_eq_true (by omega)]
  rfl
end
def deep : Nat := 12
def peq : P2 := fun x y S => match x, y with
  | .str a, .str b => .ok (.bl (decide (a = b))) S
  | .int a, .int b => .ok (.bl (decide (a = b))) S
  | x, y => match py deep S x, py deep S y with
    | some a, some b => .ok (.bl (PyData.eqv a b)) S
    | _, _ => .no
def pne : P2 := fun x y S => match x, y with
  | .str a, .str b => .ok (.bl (!decide (a = b))) S
  | .int a, .int b => .ok (.bl (!decide (a = b))) S
  | x, y => match py deep S x, py deep S y with
    | some a, some b => .ok (.bl (!PyData.eqv a b)) S
    | _, _ => .no
def pcmp (f : Int → Int → Bool) : P2 := fun x y S => match x, y with
  | .int i, .int j => .ok (.bl (f i j)) S
  | _, _ => .no
/-- is it in the list, the tuple, the text -/
def isIn (S : Sto) (x y : D) : Option Bool := match y with
  | .str z => match x with
    | .str a => if a.length = 1 then some (decide (a.cps.getD 0 0 ∈ z.cps.toList)) else none
    | _ => none
  | y => match py deep S x, py deep S y with
    | some a, some (.tuple bs) => some (bs.any fun b => PyData.eqv b a)
    | some a, some (.list bs) => some (bs.any fun b => PyData.eqv b a)
    | _, _ => none
def pin : P2 := fun x y S => match isIn S x y with
  | some b => .ok (.bl b) S
  | none => .no
def pnin : P2 := fun x y S => match isIn S x y with
  | some b => .ok (.bl (!b)) S
  | none => .no
def pisN : P1 := fun x S => match x with
  | .non => .ok (.bl true) S
  | _ => .ok (.bl false) S
def pnotN : P1 := fun x S => match x with
  | .non => .ok (.bl false) S
  | _ => .ok (.bl true) S
section
variable {X : Cx} {W : WX}
theorem o_eq (hu : X.A.units + 64 < cLine) : OpM X W (compareOp .Eq) peq := by
  intro g σ H S x y v u Q rl rx ry hP pins s vv uu I rv ru
  unfold peq at hP
  split at hP
  · rename_i a b
    cases rx; cases ry
    refine op_eq pins s σ H _ _ vv uu Q I rv ru ⟨rfl, ?_⟩
    rw [show decide (V.str a = V.str b) = decide (a = b) from dec_str.trans (by rw [Bool.eq_iff_iff]; simp)]
    exact post_ok rl (.bl _) hP
  · rename_i a b
    cases rx; cases ry
    refine op_eq pins s σ H _ _ vv uu Q I rv ru ⟨rfl, ?_⟩
    rw [show decide (V.int a = V.int b) = decide (a = b) from dec_int.trans (by rw [Bool.eq_iff_iff]; simp)]
    exact post_ok rl (.bl _) hP
  · split at hP
    · rename_i a b h1 h2
      exact op_eqD hu pins s σ H _ _ vv uu Q I rv ru ⟨a, b, py_dp rl deep _ _ _ rx h1, py_dp rl deep _ _ _ ry h2, py_shaped (by decide) h1, py_shaped (by decide) h2, post_ok rl (.bl _) hP⟩
    · exact hP.elim
theorem o_ne (hu : X.A.units + 64 < cLine) : OpM X W (compareOp .NotEq) pne := by
  intro g σ H S x y v u Q rl rx ry hP pins s vv uu I rv ru
  unfold pne at hP
  split at hP
  · rename_i a b
    cases rx; cases ry
    refine op_ne pins s σ H _ _ vv uu Q I rv ru ⟨rfl, ?_⟩
    rw [show decide (V.str a = V.str b) = decide (a = b) from dec_str.trans (by rw [Bool.eq_iff_iff]; simp)]
    exact post_ok rl (.bl _) hP
  · rename_i a b
    cases rx; cases ry
    refine op_ne pins s σ H _ _ vv uu Q I rv ru ⟨rfl, ?_⟩
    rw [show decide (V.int a = V.int b) = decide (a = b) from dec_int.trans (by rw [Bool.eq_iff_iff]; simp)]
    exact post_ok rl (.bl _) hP
  · split at hP
    · rename_i a b h1 h2
      exact op_neD hu pins s σ H _ _ vv uu Q I rv ru ⟨a, b, py_dp rl deep _ _ _ rx h1, py_dp rl deep _ _ _ ry h2, py_shaped (by decide) h1, py_shaped (by decide) h2, post_ok rl (.bl _) hP⟩
    · exact hP.elim
theorem o_cmp {op : CmpOp} {f : Int → Int → Bool} (o : OpR X (compareOp op) (rI0 fun i j => .bl (f i j))) : OpM X W (compareOp op) (pcmp f) := by
  intro g σ H S x y v u Q rl rx ry hP pins s vv uu I rv ru
  unfold pcmp at hP
  split at hP
  · cases rx; cases ry
    exact o pins s σ H _ _ vv uu Q I rv ru ⟨_, _, rfl, rfl, post_ok rl (.bl _) hP⟩
  · exact hP.elim
theorem o_lt : OpM X W (compareOp .Lt) (pcmp fun i j => decide (i < j)) := o_cmp op_lt
theorem o_le : OpM X W (compareOp .LtE) (pcmp fun i j => decide (i ≤ j)) := o_cmp op_le
theorem o_gt : OpM X W (compareOp .Gt) (pcmp fun i j => decide (j < i)) := o_cmp op_gt
theorem o_ge : OpM X W (compareOp .GtE) (pcmp fun i j => decide (j ≤ i)) := o_cmp op_ge
theorem one_sign {a : Str} (h : a.length = 1) : a = ⟨#[a.cps.getD 0 0]⟩ := by
  obtain ⟨⟨l⟩⟩ := a
  have e : l.length = 1 := h
  match l, e with
  | [c], _ => rfl
theorem in_data (hu : X.A.units + 65 < cLine) {g : G} {H : Hp} {S : Sto} {x y : D} {v u : V} {a c : PyData} {bs : List PyData} {σ : Sl} {pins : List (Addr × Obj)} {s : Shared} {vv uu : Value} (rl : Rel X.K X.mg g H S) (rx : Rep X.K X.mg g x v) (ry : Rep X.K X.mg g y u) (I : Inv X pins σ H s)
    (rv : RelV v vv) (ru : RelV u uu) {Q : Value → Shared → Prop} {E : Value → Shared → Prop} (hc : c = .tuple bs ∨ c = .list bs) (h1 : py deep S x = some a) (h2 : py deep S y = some c) :
    (Q (.bool (bs.any fun z => PyData.eqv z a)) s → wpAny (model X.prog X.w) X.A (compareOp .In vv uu) Q E s) ∧ (Q (.bool (!(bs.any fun z => PyData.eqv z a))) s → wpAny (model X.prog X.w) X.A (compareOp .NotIn vv uu) Q E s) := by
  obtain ⟨as, r1⟩ := Dp.reads I a v vv (py_dp rl deep _ _ _ rx h1) rv
  obtain ⟨cs, r2⟩ := Dp.reads I c u uu (py_dp rl deep _ _ _ ry h2) ru
  have s1 : SeqAt.shaped a = true := py_shaped (by decide) h1
  have s2 : SeqAt.shaped c = true := py_shaped (by decide) h2
  rcases hc with rfl | rfl
  · exact ⟨fun q => SeqAt.in_tuple_reads r2 r1 (SeqAt.canLay_of_shaped s2) (SeqAt.canLay_of_shaped s1) (room_in_shaped s1 hu) q, fun q => SeqAt.notIn_tuple_reads r2 r1 (SeqAt.canLay_of_shaped s2) (SeqAt.canLay_of_shaped s1) (room_in_shaped s1 hu) q⟩
  · exact ⟨fun q => SeqAt.in_list_reads r2 r1 (SeqAt.canLay_of_shaped s2) (SeqAt.canLay_of_shaped s1) (room_in_shaped s1 hu) q, fun q => SeqAt.notIn_list_reads r2 r1 (SeqAt.canLay_of_shaped s2) (SeqAt.canLay_of_shaped s1) (room_in_shaped s1 hu) q⟩
theorem o_in (hu : X.A.units + 65 < cLine) : OpM X W (compareOp .In) pin := by
  intro g σ H S x y v u Q rl rx ry hP pins s vv uu I rv ru
  unfold pin at hP
  cases e : isIn S x y with
  | none => rw [e] at hP; exact hP.elim
  | some b =>
    rw [e] at hP
    have q : Q (.bl b) H := post_ok rl (.bl b) hP
    unfold isIn at e
    split at e
    · rename_i z
      split at e
      · rename_i a
        split at e
        · rename_i ha
          simp only [Option.some.injEq] at e
          subst e
          cases rx; cases ry
          rw [one_sign ha] at rv
          exact op_in_sign pins s σ H _ _ vv uu Q I rv ru ⟨_, _, rfl, rfl, q⟩
        · cases e
      · cases e
    · split at e
      · rename_i a bs h1 h2
        simp only [Option.some.injEq] at e
        exact (in_data hu rl rx ry I rv ru (.inl rfl) h1 h2).1 ⟨.bl b, H, I, congrArg Value.bool e, q⟩
      · rename_i a bs h1 h2
        simp only [Option.some.injEq] at e
        exact (in_data hu rl rx ry I rv ru (.inr rfl) h1 h2).1 ⟨.bl b, H, I, congrArg Value.bool e, q⟩
      · cases e
theorem o_nin (hu : X.A.units + 65 < cLine) : OpM X W (compareOp .NotIn) pnin := by
  intro g σ H S x y v u Q rl rx ry hP pins s vv uu I rv ru
  unfold pnin at hP
  cases e : isIn S x y with
  | none => rw [e] at hP; exact hP.elim
  | some b =>
    rw [e] at hP
    have q : Q (.bl (!b)) H := post_ok rl (.bl _) hP
    unfold isIn at e
    split at e
    · rename_i z
      split at e
      · rename_i a
        split at e
        · rename_i ha
          simp only [Option.some.injEq] at e
          subst e
          cases rx; cases ry
          rw [one_sign ha] at rv
          exact op_notIn_sign pins s σ H _ _ vv uu Q I rv ru ⟨_, _, rfl, rfl, q⟩
        · cases e
      · cases e
    · split at e
      · rename_i a bs h1 h2
        simp only [Option.some.injEq] at e
        exact (in_data hu rl rx ry I rv ru (.inl rfl) h1 h2).2 ⟨.bl (!b), H, I, congrArg (fun z => Value.bool (!z)) e, q⟩
      · rename_i a bs h1 h2
        simp only [Option.some.injEq] at e
        exact (in_data hu rl rx ry I rv ru (.inr rfl) h1 h2).2 ⟨.bl (!b), H, I, congrArg (fun z => Value.bool (!z)) e, q⟩
      · cases e
/-- is None -/
theorem em_isN {a : Expr} {ma : M D} {j : Nat} {p1 pos : Pos} (ha : EM X W a ma) : EM X W (.Compare a [.Is] [.Constant .none j p1] pos) (m1 pisN ma) := by
  intro g σ H ev S Q rl er hP
  refine wE (pe_cmp (pc_isN (peW X a)) (nomark _)) (ha g σ H ev S _ rl er (Post.bind hP fun g1 x S1 v H1 l1 rl1 rx hP1 => ?_))
  cases rx <;> exact post_ok rl1 (.bl _) hP1
theorem em_notN {a : Expr} {ma : M D} {j : Nat} {p1 pos : Pos} (ha : EM X W a ma) : EM X W (.Compare a [.IsNot] [.Constant .none j p1] pos) (m1 pnotN ma) := by
  intro g σ H ev S Q rl er hP
  refine wE (pe_cmp (pc_notN (peW X a)) (nomark _)) (ha g σ H ev S _ rl er (Post.bind hP fun g1 x S1 v H1 l1 rl1 rx hP1 => ?_))
  cases rx <;> exact post_ok rl1 (.bl _) hP1
theorem tm_isN {a : Expr} {ma : M D} {j : Nat} {p1 pos : Pos} (ha : EM X W a ma) : TM X W (.Compare a [.Is] [.Constant .none j p1] pos) (mT (m1 pisN ma)) := by
  intro g σ H ev S Q rl er hP
  refine wT (pt_cmp (pc_isN (peW X a)) (nomark _)) (ha g σ H ev S _ rl er (Post.bind (Post.bind (Rp := Rep X.K X.mg) (Q := fun v H' => ∃ k, v = .bl k ∧ Q k H') hP fun g1 x S1 v H1 l1 rl1 rx hP1 => post_asB rl1 rx hP1) fun g1 x S1 v H1 l1 rl1 rx hP1 => ?_))
  cases rx <;> exact post_ok rl1 (.bl _) hP1
theorem tm_notN {a : Expr} {ma : M D} {j : Nat} {p1 pos : Pos} (ha : EM X W a ma) : TM X W (.Compare a [.IsNot] [.Constant .none j p1] pos) (mT (m1 pnotN ma)) := by
  intro g σ H ev S Q rl er hP
  refine wT (pt_cmp (pc_notN (peW X a)) (nomark _)) (ha g σ H ev S _ rl er (Post.bind (Post.bind (Rp := Rep X.K X.mg) (Q := fun v H' => ∃ k, v = .bl k ∧ Q k H') hP fun g1 x S1 v H1 l1 rl1 rx hP1 => post_asB rl1 rx hP1) fun g1 x S1 v H1 l1 rl1 rx hP1 => ?_))
  cases rx <;> exact post_ok rl1 (.bl _) hP1
end
end ML


set_option Elab.async false
set_option linter.all false
set_option maxRecDepth 100000
set_option autoImplicit false
set_option maxHeartbeats 4000000
namespace ML
open PySem PySem.Spec PyProof.Rows L2

/-! ## and, or, not, if -/
def mAnd (ma mb : M D) : M D := fun ev S => (ma ev S).bind fun x S1 => match x with
  | .bl true => mb ev S1
  | .bl false => .ok (.bl false) S1
  | _ => .no
def mOr (ma mb : M D) : M D := fun ev S => (ma ev S).bind fun x S1 => match x with
  | .bl true => .ok (.bl true) S1
  | .bl false => mb ev S1
  | _ => .no
def pnot : P1 := fun x S => match x with
  | .bl b => .ok (.bl (!b)) S
  | _ => .no
def tAndM (ma mb : M Bool) : M Bool := fun ev S => (ma ev S).bind fun b S1 => if b = true then mb ev S1 else .ok false S1
def tOrM (ma mb : M Bool) : M Bool := fun ev S => (ma ev S).bind fun b S1 => if b = true then .ok true S1 else mb ev S1
def tNotM (ma : M Bool) : M Bool := fun ev S => (ma ev S).bind fun b S1 => .ok (!b) S1
def mIf {α : Type} (mt : M Bool) (ma mb : M α) : M α := fun ev S => (mt ev S).bind fun b S1 => if b = true then ma ev S1 else mb ev S1
/-- truth of a value -/
def asTr : D → Sto → R Bool := fun d S => match d with
  | .bl b => .ok b S
  | .non => .ok false S
  | .int i => .ok (i != 0) S
  | .str x => if x.length ≤ 16777216 then .ok ((x.length : Int) != 0) S else .no
  | .tup ds => .ok (!ds.isEmpty) S
  | d => match seqOf S d with
    | some ds => .ok (!ds.isEmpty) S
    | none => .no
def mTr (ma : M D) : M Bool := fun ev S => (ma ev S).bind asTr
section
variable {X : Cx} {W : WX} {e a b c : Expr} {es rest : List Expr} {pos : Pos} {ma mb mc : M D} {ml : M (List D)} {mt mu : M Bool}
theorem em_one {op : BoolOp} (ha : EM X W a ma) : EM X W (.BoolOp op [a] pos) ma := fun g σ H ev S Q rl er hP => wE (pe_one (peW X a)) (ha g σ H ev S Q rl er hP)
theorem em_and (ha : EM X W a ma) (hb : EM X W (.BoolOp .And (b :: rest) pos) mb) : EM X W (.BoolOp .And (a :: b :: rest) pos) (mAnd ma mb) := by
  intro g σ H ev S Q rl er hP
  refine wE (pe_and (peW X a) (peW X _)) (ha g σ H ev S _ rl er (Post.bind hP fun g1 x S1 v H1 l1 rl1 rx hP1 => ?_))
  split at hP1
  · cases rx; exact ⟨true, rfl, by rw [if_pos rfl]; exact hb g1 σ H1 ev S1 Q rl1 (er.le l1) hP1⟩
  · cases rx; exact ⟨false, rfl, by rw [if_neg Bool.false_ne_true]; exact post_ok rl1 (.bl _) hP1⟩
  · exact hP1.elim
theorem em_or (ha : EM X W a ma) (hb : EM X W (.BoolOp .Or (b :: rest) pos) mb) : EM X W (.BoolOp .Or (a :: b :: rest) pos) (mOr ma mb) := by
  intro g σ H ev S Q rl er hP
  refine wE (pe_or (peW X a) (peW X _)) (ha g σ H ev S _ rl er (Post.bind hP fun g1 x S1 v H1 l1 rl1 rx hP1 => ?_))
  split at hP1
  · cases rx; exact ⟨true, rfl, by rw [if_pos rfl]; exact post_ok rl1 (.bl _) hP1⟩
  · cases rx; exact ⟨false, rfl, by rw [if_neg Bool.false_ne_true]; exact hb g1 σ H1 ev S1 Q rl1 (er.le l1) hP1⟩
  · exact hP1.elim
theorem em_not (ha : EM X W a ma) : EM X W (.UnaryOp .Not a pos) (m1 pnot ma) := by
  intro g σ H ev S Q rl er hP
  refine wE (pe_not (peW X a)) (ha g σ H ev S _ rl er (Post.bind hP fun g1 x S1 v H1 l1 rl1 rx hP1 => ?_))
  unfold pnot at hP1
  split at hP1
  · cases rx; exact ⟨_, rfl, post_ok rl1 (.bl _) hP1⟩
  · exact hP1.elim
theorem em_if {c : Expr} (hc : TM X W c mt) (ha : EM X W a ma) (hb : EM X W b mb) : EM X W (.IfExp c a b pos) (mIf mt ma mb) := by
  intro g σ H ev S Q rl er hP
  refine wE (pe_ifExp (ptW X c) (peW X a) (peW X b)) (hc g σ H ev S _ rl er (Post.bind hP fun g1 x S1 v H1 l1 rl1 rx hP1 => ?_))
  have rx' : x = v := rx
  subst rx'
  cases x with
  | true => rw [if_pos rfl] at hP1 ⊢; exact ha g1 σ H1 ev S1 Q rl1 (er.le l1) hP1
  | false => rw [if_neg Bool.false_ne_true] at hP1 ⊢; exact hb g1 σ H1 ev S1 Q rl1 (er.le l1) hP1
theorem post_b {g : G} {σ : Sl} {x : Bool} {S : Sto} {H : Hp} {Q : Bool → Hp → Prop} (rl : Rel X.K X.mg g H S) (h : Post X.K X.mg RB W σ g (.ok x S) Q) : Q x H := h g x H (G.le.refl g) rl rfl
theorem tm_not (ha : TM X W a mt) : TM X W (.UnaryOp .Not a pos) (tNotM mt) := by
  intro g σ H ev S Q rl er hP
  refine wT (pt_not (ptW X a)) (ha g σ H ev S _ rl er (Post.bind hP fun g1 x S1 v H1 l1 rl1 rx hP1 => ?_))
  have rx' : x = v := rx
  subst rx'
  exact post_b rl1 hP1
theorem wm_and1 (ha : TM X W a mt) : WM X W (.BoolOp .And [a] pos) mt := fun g σ H ev S Q rl er hP => wW (pw_and1 (ptW X a)) (ha g σ H ev S Q rl er hP)
theorem wm_or1 (ha : TM X W a mt) : WM X W (.BoolOp .Or [a] pos) mt := fun g σ H ev S Q rl er hP => wW (pw_or1 (ptW X a)) (ha g σ H ev S Q rl er hP)
theorem wm_and (ha : TM X W a mt) (hb : WM X W (.BoolOp .And (b :: rest) pos) mu) : WM X W (.BoolOp .And (a :: b :: rest) pos) (tAndM mt mu) := by
  intro g σ H ev S Q rl er hP
  refine wW (pw_and (ptW X a) (pwW X _)) (ha g σ H ev S _ rl er (Post.bind hP fun g1 x S1 v H1 l1 rl1 rx hP1 => ?_))
  have rx' : x = v := rx
  subst rx'
  cases x with
  | true => rw [if_pos rfl] at hP1 ⊢; exact hb g1 σ H1 ev S1 Q rl1 (er.le l1) hP1
  | false => rw [if_neg Bool.false_ne_true] at hP1 ⊢; exact post_b rl1 hP1
theorem wm_or (ha : TM X W a mt) (hb : WM X W (.BoolOp .Or (b :: rest) pos) mu) : WM X W (.BoolOp .Or (a :: b :: rest) pos) (tOrM mt mu) := by
  intro g σ H ev S Q rl er hP
  refine wW (pw_or (ptW X a) (pwW X _)) (ha g σ H ev S _ rl er (Post.bind hP fun g1 x S1 v H1 l1 rl1 rx hP1 => ?_))
  have rx' : x = v := rx
  subst rx'
  cases x with
  | true => rw [if_pos rfl] at hP1 ⊢; exact post_b rl1 hP1
  | false => rw [if_neg Bool.false_ne_true] at hP1 ⊢; exact hb g1 σ H1 ev S1 Q rl1 (er.le l1) hP1
theorem tm_w (h : WM X W e mt) : TM X W e mt := fun g σ H ev S Q rl er hP => (h g σ H ev S Q rl er hP).wt
/-- any other expression as a test: by its truth -/
theorem tm_val (ha : EM X W a ma) (he : ∀ whole, isTrue a X.env whole = (do let v ← whole; standAt a.pos; holding [v] (truthy v)) := by intro _; rfl) : TM X W a (mTr ma) := by
  intro g σ H ev S Q rl er hP
  have sl := sizeL
  refine wT (pt_truth (peW X a) he) (ha g σ H ev S _ rl er (Post.bind hP fun g1 x S1 v H1 l1 rl1 rx hP1 => ?_))
  have lst : ∀ ds, seqOf S1 x = some ds → Post X.K X.mg RB W σ g1 (.ok (!ds.isEmpty) S1) Q → ∃ k, TruV X.K v H1 k ∧ Q k H1 := by
    intro ds h hq
    obtain ⟨p, vs, rfl, hp, r1⟩ := seqOf_rep rl1 rx h
    refine ⟨!vs.isEmpty, .inl ⟨vs, hp, rfl⟩, ?_⟩
    have e : vs.isEmpty = ds.isEmpty := by cases r1 <;> rfl
    rw [e]
    exact post_b rl1 hq
  unfold asTr at hP1
  split at hP1
  · cases rx; exact ⟨_, rfl, post_b rl1 hP1⟩
  · cases rx; exact ⟨_, rfl, post_b rl1 hP1⟩
  · cases rx; exact ⟨_, rfl, post_b rl1 hP1⟩
  · cases rx
    split at hP1
    · rename_i hz
      exact ⟨_, ⟨by omega, rfl⟩, post_b rl1 hP1⟩
    · exact hP1.elim
  · rename_i ds
    obtain ⟨p, vs, rfl, hp, r1⟩ := tup_rep rl1 rx
    refine ⟨!vs.isEmpty, .inr (.inl ⟨vs, hp, rfl⟩), ?_⟩
    have e : vs.isEmpty = ds.isEmpty := by cases r1 <;> rfl
    rw [e]
    exact post_b rl1 hP1
  · split at hP1
    · rename_i ds h
      exact lst ds h hP1
    · exact hP1.elim

/-! ## argument lists, displays -/
def mNil : M (List D) := fun _ S => .ok [] S
def mCons (ma : M D) (ml : M (List D)) : M (List D) := fun ev S => (ma ev S).bind fun x S1 => (ml ev S1).bind fun xs S2 => .ok (x :: xs) S2
theorem am_nil : AM X W [] mNil := fun g σ H ev S Q rl er hP => wA pa_nil (hP g [] H (G.le.refl g) rl .nil)
theorem am_cons (ha : EM X W e ma) (hr : AM X W es ml) (hs : starEach (e :: es) X.env = (false, eval e X.env) :: starEach es X.env := by rfl) : AM X W (e :: es) (mCons ma ml) := by
  intro g σ H ev S Q rl er hP
  refine wA (pa_cons (peW X e) (paW X es) hs) (ha g σ H ev S _ rl er (Post.bind hP fun g1 x S1 v H1 l1 rl1 rx hP1 => ?_))
  refine hr g1 σ H1 ev S1 _ rl1 (er.le l1) (Post.bind hP1 fun g2 xs S2 vs H2 l2 rl2 rxs hP2 => ?_)
  exact hP2 g2 (v :: vs) H2 (G.le.refl g2) rl2 (.cons (rx.le l2) rxs)
def ptup : List D → Sto → R D := fun xs S => if xs.length ≤ 16777216 then .ok (.tup xs) S else .no
def plst (nw : Bool) : List D → Sto → R D := fun xs S => if xs.length ≤ 16777216 then mkL nw xs S else .no
def mL (p : List D → Sto → R D) (ml : M (List D)) : M D := fun ev S => (ml ev S).bind p
theorem em_tup {k : Nat} (h : AM X W es ml) : EM X W (.Tuple es k pos) (mL ptup ml) := by
  intro g σ H ev S Q rl er hP
  have sl := sizeL
  refine wE (pe_tup (paW X es)) (h g σ H ev S _ rl er (Post.bind hP fun g1 xs S1 vs H1 l1 rl1 rx hP1 => ?_))
  unfold ptup at hP1
  split at hP1
  · rename_i hz
    exact ⟨by rw [← rx.length]; omega, post_mkT rl1 rx hP1⟩
  · exact hP1.elim
theorem em_lst (nw : Bool) (h : AM X W es ml) : EM X W (.List es pos) (mL (plst nw) ml) := by
  intro g σ H ev S Q rl er hP
  have sl := sizeL
  refine wE (pe_lst (paW X es)) (h g σ H ev S _ rl er (Post.bind hP fun g1 xs S1 vs H1 l1 rl1 rx hP1 => ?_))
  unfold plst at hP1
  split at hP1
  · rename_i hz
    exact ⟨by rw [← rx.length]; omega, post_mkL rl1 rx hP1⟩
  · exact hP1.elim
theorem em_dc0 : EM X W (.Dict [] [] pos) (mC .dc0) := by
  intro g σ H ev S Q rl er hP
  refine wE pe_dnewK fun p hp => ?_
  have l : g.le (g.known p (.dK [])) := G.le_known (rl.fnone hp)
  exact hP _ _ _ l (rl.fresh hp _) (.dc0 upd_same)

/-! ## subscripts, slices -/
def atD (ds : List D) (i : Int) : Option D := (ixN ds.length i).bind fun j => ds[j]?
def pix : P2 := fun x y S => match y with
  | .int i => match x with
    | .tup ds => match atD ds i with
      | some d => .ok d S
      | none => .no
    | .str z => if z.length ≤ 16777216 then (match atI z.cps.toList i with
      | some c => .ok (.str ⟨#[c]⟩) S
      | none => .no) else .no
    | x => match seqOf S x with
      | some ds => (match atD ds i with
        | some d => .ok d S
        | none => .no)
      | none => .no
  | _ => .no
theorem atD_rep {K : PySem.W.Frag} {mg : Str → Option Value} {g : G} {ds : List D} {vs : List V} {i : Int} {d : D} (r : RepL K mg g ds vs) (h : atD ds i = some d) : ∃ v, atI vs i = some v ∧ Rep K mg g d v := by
  unfold atD at h
  rw [r.length] at h
  cases e : ixN vs.length i with
  | none => rw [e] at h; cases h
  | some j =>
    rw [e] at h
    obtain ⟨v, h1, h2⟩ := r.get h
    exact ⟨v, by unfold atI; rw [e]; exact h1, h2⟩
theorem em_ix (ha : EM X W a ma) (hb : EM X W b mb) (hs : PlainIx b := by exact fun _ _ => rfl) : EM X W (.Subscript a b pos) (m2 pix ma mb) := by
  intro g σ H ev S Q rl er hP
  have sl := sizeL
  refine wE (pe_ix ix_seq (peW X a) (peW X b) hs) ?_
  refine twoM ha hb rl er hP fun g' x y S' v u H' l rl' rx ry hP' => ?_
  unfold pix at hP'
  split at hP'
  · rename_i i
    cases ry
    split at hP'
    · rename_i ds
      obtain ⟨p, vs, rfl, hp, r1⟩ := tup_rep rl' rx
      split at hP'
      · rename_i d hd
        obtain ⟨w, h1, h2⟩ := atD_rep r1 hd
        exact .inr (.inl ⟨p, vs, i, w, rfl, rfl, hp, h1, post_ok rl' h2 hP'⟩)
      · exact hP'.elim
    · rename_i z
      cases rx
      split at hP'
      · rename_i hz
        split at hP'
        · rename_i c hc
          exact .inr (.inr ⟨z, i, c, rfl, rfl, by omega, hc, post_ok rl' (.str _) hP'⟩)
        · exact hP'.elim
      · exact hP'.elim
    · split at hP'
      · rename_i ds hds
        obtain ⟨p, vs, rfl, hp, r1⟩ := seqOf_rep rl' rx hds
        split at hP'
        · rename_i d hd
          obtain ⟨w, h1, h2⟩ := atD_rep r1 hd
          exact .inl ⟨p, vs, i, w, rfl, rfl, hp, h1, post_ok rl' h2 hP'⟩
        · exact hP'.elim
      · exact hP'.elim
  · exact hP'.elim
/-- a part of a slice -/
def OM (X : Cx) (W : WX) (e : Option Expr) (m : M (Option Int)) : Prop := ∀ (g : G) (σ : Sl) (H : Hp) (ev : Ev) (S : Sto) (Q : Option Int → Hp → Prop), Rel X.K X.mg g H S → EvR X.K X.mg X.pn g ev σ → Post X.K X.mg (fun _ a b => a = b) W σ g (m ev S) Q →
  ∀ (pins : List (Addr × Obj)) (s : Shared), Inv X pins σ H s → wpAny (model X.prog X.w) X.A (evalPart e X.env) (fun u s' => ∃ o H', Inv X pins σ H' s' ∧ IsPart u o ∧ Q o H') X.xe s
def oNone : M (Option Int) := fun _ S => .ok none S
def asI : D → Sto → R (Option Int) := fun d S => match d with
  | .int i => .ok (some i) S
  | _ => .no
def oSome (ma : M D) : M (Option Int) := fun ev S => (ma ev S).bind asI
theorem om_none : OM X W none oNone := fun g σ H ev S Q rl er hP pins s I => po_none.run pins s σ H Q I (hP g none H (G.le.refl g) rl rfl)
theorem om_some (ha : EM X W a ma) : OM X W (some a) (oSome ma) := by
  intro g σ H ev S Q rl er hP pins s I
  refine (po_some (peW X a)).run pins s σ H Q I (ha g σ H ev S _ rl er (Post.bind hP fun g1 x S1 v H1 l1 rl1 rx hP1 => ?_))
  unfold asI at hP1
  split at hP1
  · cases rx; exact ⟨_, rfl, hP1 g1 _ H1 (G.le.refl g1) rl1 rfl⟩
  · exact hP1.elim
def cutD {α : Type} (xs : List α) (lo hi : Option Int) : List α := (xs.drop (HT.sIx xs.length 0 lo)).take (HT.sIx xs.length xs.length hi - HT.sIx xs.length 0 lo)
def pslice (nw : Bool) (x : D) (lo hi : Option Int) (S : Sto) : R D := match x with
  | .str z => if z.length ≤ 16777216 then .ok (.str (cutS z lo hi)) S else .no
  | .tup ds => .ok (.tup (cutD ds lo hi)) S
  | x => match seqOf S x with
    | some ds => mkL nw (cutD ds lo hi) S
    | none => .no
def mSl (nw : Bool) (ma : M D) (ol oh : M (Option Int)) : M D := fun ev S => (ma ev S).bind fun x S1 => (ol ev S1).bind fun lo S2 => (oh ev S2).bind fun hi S3 => pslice nw x lo hi S3
theorem cutD_rep {K : PySem.W.Frag} {mg : Str → Option Value} {g : G} {ds : List D} {vs : List V} (r : RepL K mg g ds vs) (lo hi : Option Int) : RepL K mg g (cutD ds lo hi) (cutV vs lo hi) := by
  unfold cutD cutV
  rw [r.length]
  exact (r.drop _).take _
theorem cutD_all {α : Type} {ds : List α} {lo hi : Option Int} (h1 : HT.sIx ds.length 0 lo = 0) (h2 : HT.sIx ds.length ds.length hi = ds.length) : cutD ds lo hi = ds := by
  unfold cutD
  rw [h1, h2, List.drop_zero, Nat.sub_zero, List.take_length]
theorem em_slice (nw : Bool) {lo hi : Option Expr} {p2 : Pos} {ol oh : M (Option Int)} (ha : EM X W a ma) (hl : OM X W lo ol) (hh : OM X W hi oh) : EM X W (.Subscript a (.Slice lo hi none p2) pos) (mSl nw ma ol oh) := by
  intro g σ H ev S Q rl er hP
  have sl := sizeL
  have po : ∀ o, PO X o (fun σ H Q => ∀ (pins : List (Addr × Obj)) (s : Shared), Inv X pins σ H s → wpAny (model X.prog X.w) X.A (evalPart o X.env) (fun u s' => ∃ o H', Inv X pins σ H' s' ∧ IsPart u o ∧ Q o H') X.xe s) := fun o => ⟨fun pins s σ H Q I h => h pins s I⟩
  refine wE (pe_slice ((sl_str.or sl_tupA).or sl_list) (peW X a) (po lo) (po hi)) ?_
  refine ha g σ H ev S _ rl er (Post.bind hP fun g1 x S1 v H1 l1 rl1 rx hP1 => ?_)
  refine hl g1 σ H1 ev S1 _ rl1 (er.le l1) (Post.bind hP1 fun g2 lo' S2 lo2 H2 l2 rl2 ro hP2 => ?_)
  have ro' : lo' = lo2 := ro
  subst ro'
  refine hh g2 σ H2 ev S2 _ rl2 (er.le (l1.trans l2)) (Post.bind hP2 fun g3 hi' S3 hi2 H3 l3 rl3 rh hP3 => ?_)
  have rh' : hi' = hi2 := rh
  subst rh'
  have rx3 := rx.le (l2.trans l3)
  unfold pslice at hP3
  split at hP3
  · cases rx
    split at hP3
    · rename_i hz
      exact .inl (.inl ⟨_, rfl, by omega, post_ok rl3 (.str _) hP3⟩)
    · exact hP3.elim
  · rename_i ds
    obtain ⟨p, vs, rfl, hp, r1⟩ := tup_rep rl3 rx3
    refine .inl (.inr ⟨p, vs, rfl, hp, fun h => ?_, fun _ => post_mkT rl3 (cutD_rep r1 _ _) hP3⟩)
    rw [← r1.length] at h
    rw [cutD_all h.1 h.2] at hP3
    exact post_ok rl3 rx3 hP3
  · split at hP3
    · rename_i ds hds
      obtain ⟨p, vs, rfl, hp, r1⟩ := seqOf_rep rl3 rx3 hds
      exact .inr ⟨p, vs, rfl, hp, post_mkL rl3 (cutD_rep r1 _ _) hP3⟩
    · exact hP3.elim
end
end ML


set_option Elab.async false
set_option linter.all false
set_option maxRecDepth 100000
set_option autoImplicit false
set_option maxHeartbeats 4000000
namespace ML
open PySem PySem.Spec PyProof.Rows L2

/-! ## calls of built-ins -/
abbrev PL := List D → Sto → R D
def rM (X : Cx) (p : PL) : List V → Hp → VK → Prop := fun vs H Q => ∃ (g : G) (S : Sto) (xs : List D) (W : WX) (σ : Sl), Rel X.K X.mg g H S ∧ RepL X.K X.mg g xs vs ∧ Post X.K X.mg (Rep X.K X.mg) W σ g (p xs S) Q
theorem callR_imp {X : Cx} {f : Value} {r r' : List V → Hp → VK → Prop} (h : CallR X f r) (k : ∀ xs H Q, r' xs H Q → r xs H Q) : CallR X f r' := fun pins s σ H xs us Q I rv q => h pins s σ H xs us Q I rv (k _ _ _ q)
section
variable {X : Cx} {W : WX} {e a b c : Expr} {es rest : List Expr} {pos p0 : Pos} {ma mb mc : M D} {ml : M (List D)} {mt mu : M Bool} {x : Str} {id T : String} {p : PL}
theorem em_callB (hc : CallR X (.builtin id) (rM X p)) (hm : X.mg x = none) (hv : bootBuiltins x = some (.builtin id)) (ha : AM X W (e :: es) ml) (hg : Gl X x := by rfl) (hn : x ≠ "__name__" := by decide) (hdb : (x == ("__debug__" : Str)) = false := by decide)
    (he : starEach (e :: es) X.env = (false, eval e X.env) :: starEach es X.env := by rfl) (hpl : (backTo pos (starEach es X.env)).any (·.1) = false := by rfl) : EM X W (.Call (.Name x p0) (e :: es) [] pos) (mL p ml) := by
  intro g σ H ev S Q rl er hP
  refine wE (pe_callB hc hg hm hv (paW X _) hn hdb he hpl) (ha g σ H ev S _ rl er (Post.bind hP fun g1 xs S1 vs H1 l1 rl1 rx hP1 => ?_))
  exact ⟨g1, S1, xs, W, σ, rl1, rx, hP1⟩
theorem em_callTy (hc : CallR X (.type T) (rM X p)) (hm : X.mg x = none) (hv : bootBuiltins x = some (.type T)) (ha : AM X W (e :: es) ml) (hg : Gl X x := by rfl) (hn : x ≠ "__name__" := by decide) (hdb : (x == ("__debug__" : Str)) = false := by decide)
    (he : starEach (e :: es) X.env = (false, eval e X.env) :: starEach es X.env := by rfl) (hpl : (backTo pos (starEach es X.env)).any (·.1) = false := by rfl) : EM X W (.Call (.Name x p0) (e :: es) [] pos) (mL p ml) := by
  intro g σ H ev S Q rl er hP
  refine wE (pe_callTy hc hg hm hv (paW X _) hn hdb he hpl) (ha g σ H ev S _ rl er (Post.bind hP fun g1 xs S1 vs H1 l1 rl1 rx hP1 => ?_))
  exact ⟨g1, S1, xs, W, σ, rl1, rx, hP1⟩

def plen : PL := fun xs S => match xs with
  | [.str z] => if z.length ≤ 16777216 then .ok (.int z.length) S else .no
  | [.tup ds] => .ok (.int ds.length) S
  | [x] => match seqOf S x with
    | some ds => .ok (.int ds.length) S
    | none => .no
  | _ => .no
def pabs : PL := fun xs S => match xs with
  | [.int i] => .ok (.int (if i < 0 then -i else i)) S
  | _ => .no
def pmax2 : PL := fun xs S => match xs with
  | [.int i, .int j] => .ok (.int (if j > i then j else i)) S
  | _ => .no
def pmin2 : PL := fun xs S => match xs with
  | [.int i, .int j] => .ok (.int (if j < i then j else i)) S
  | _ => .no
def pint : PL := fun xs S => match xs with
  | [.int i] => .ok (.int i) S
  | [.bl k] => .ok (.int (if k then 1 else 0)) S
  | [.str z] => match intText? z with
    | some n => if z.length ≤ 640 then .ok (.int n) S else .no
    | none => .no
  | _ => .no
def pstr : PL := fun xs S => match xs with
  | [.int i] => if i.natAbs.log2 < 1920 then .ok (.str (toString i)) S else .no
  | _ => .no
def asBs : List D → Option (List Bool)
  | [] => some []
  | .bl b :: r => (asBs r).map (b :: ·)
  | _ => none
def asIs : List D → Option (List Int)
  | [] => some []
  | .int b :: r => (asIs r).map (b :: ·)
  | _ => none
def asSs : List D → Option (List Str)
  | [] => some []
  | .str b :: r => (asSs r).map (b :: ·)
  | _ => none
def pall : PL := fun xs S => match xs with
  | [x] => match (seqOf S x).bind asBs with
    | some bs => .ok (.bl (bs.all fun b => b)) S
    | none => .no
  | _ => .no
def pany : PL := fun xs S => match xs with
  | [x] => match (seqOf S x).bind asBs with
    | some bs => .ok (.bl (bs.any fun b => b)) S
    | none => .no
  | _ => .no
def psum : PL := fun xs S => match xs with
  | [x] => match (seqOf S x).bind asIs with
    | some bs => .ok (.int bs.sum) S
    | none => .no
  | _ => .no
def ptuple : PL := fun xs S => match xs with
  | [.tup ds] => .ok (.tup ds) S
  | [x] => match seqOf S x with
    | some ds => .ok (.tup ds) S
    | none => .no
  | _ => .no
def plist (nw : Bool) : PL := fun xs S => match xs with
  | [.tup ds] => mkL nw ds S
  | [x] => match seqOf S x with
    | some ds => mkL nw ds S
    | none => .no
  | _ => .no
section
variable {K : PySem.W.Frag} {mg : Str → Option Value} {g : G}
theorem rep1 {x : D} {vs : List V} (h : RepL K mg g [x] vs) : ∃ v, vs = [v] ∧ Rep K mg g x v := by
  cases h with
  | cons h t => cases t; exact ⟨_, rfl, h⟩
theorem rep2 {x y : D} {vs : List V} (h : RepL K mg g [x, y] vs) : ∃ v u, vs = [v, u] ∧ Rep K mg g x v ∧ Rep K mg g y u := by
  cases h with
  | cons h t =>
    cases t with
    | cons h2 t2 => cases t2; exact ⟨_, _, rfl, h, h2⟩
theorem asBs_rep : ∀ {ds : List D} {vs : List V} {bs : List Bool}, RepL K mg g ds vs → asBs ds = some bs → vs = bs.map V.bl
  | [], _, bs, h, e => by
    cases h
    have e' : [] = bs := by simpa [asBs] using e
    subst e'
    rfl
  | d :: ds, _, bs, h, e => by
    cases h with
    | cons h t =>
      cases d with
      | bl b =>
        simp only [asBs, Option.map_eq_some_iff] at e
        obtain ⟨r, e1, e2⟩ := e
        subst e2
        cases h
        rw [asBs_rep t e1]
        rfl
      | _ => simp [asBs] at e
theorem asIs_rep : ∀ {ds : List D} {vs : List V} {bs : List Int}, RepL K mg g ds vs → asIs ds = some bs → vs = bs.map V.int
  | [], _, bs, h, e => by
    cases h
    have e' : [] = bs := by simpa [asIs] using e
    subst e'
    rfl
  | d :: ds, _, bs, h, e => by
    cases h with
    | cons h t =>
      cases d with
      | int b =>
        simp only [asIs, Option.map_eq_some_iff] at e
        obtain ⟨r, e1, e2⟩ := e
        subst e2
        cases h
        rw [asIs_rep t e1]
        rfl
      | _ => simp [asIs] at e
theorem asSs_rep : ∀ {ds : List D} {vs : List V} {bs : List Str}, RepL K mg g ds vs → asSs ds = some bs → vs = bs.map V.str
  | [], _, bs, h, e => by
    cases h
    have e' : [] = bs := by simpa [asSs] using e
    subst e'
    rfl
  | d :: ds, _, bs, h, e => by
    cases h with
    | cons h t =>
      cases d with
      | str b =>
        simp only [asSs, Option.map_eq_some_iff] at e
        obtain ⟨r, e1, e2⟩ := e
        subst e2
        cases h
        rw [asSs_rep t e1]
        rfl
      | _ => simp [asSs] at e
theorem seqAs {α : Type} {f : List D → Option (List α)} {S : Sto} {x : D} {bs : List α} (h : (seqOf S x).bind f = some bs) : ∃ ds, seqOf S x = some ds ∧ f ds = some bs := by
  cases e : seqOf S x with
  | none => rw [e] at h; cases h
  | some ds => rw [e] at h; exact ⟨ds, rfl, h⟩
end
theorem c_len : CallR X (.builtin "len") (rM X plen) := callR_imp call_len fun vs H Q ⟨g, S, xs, W, σ, rl, rx, hP⟩ => by
  have sl := sizeL
  unfold plen at hP
  split at hP
  · obtain ⟨v, rfl, r⟩ := rep1 rx
    cases r
    split at hP
    · rename_i hz
      exact ⟨_, _, rfl, ⟨by omega, rfl⟩, post_ok rl (.int _) hP⟩
    · exact hP.elim
  · obtain ⟨v, rfl, r⟩ := rep1 rx
    obtain ⟨q, us, rfl, hq, r1⟩ := tup_rep rl r
    exact ⟨_, _, rfl, .inr ⟨us, hq, rfl⟩, by rw [← r1.length]; exact post_ok rl (.int _) hP⟩
  · obtain ⟨v, rfl, r⟩ := rep1 rx
    split at hP
    · rename_i ds h
      obtain ⟨q, us, rfl, hq, r1⟩ := seqOf_rep rl r h
      exact ⟨_, _, rfl, .inl ⟨us, hq, rfl⟩, by rw [← r1.length]; exact post_ok rl (.int _) hP⟩
    · exact hP.elim
  · exact hP.elim
theorem c_abs : CallR X (.builtin "abs") (rM X pabs) := callR_imp call_abs fun vs H Q ⟨g, S, xs, W, σ, rl, rx, hP⟩ => by
  unfold pabs at hP
  split at hP
  · obtain ⟨v, rfl, r⟩ := rep1 rx
    cases r
    exact ⟨_, rfl, post_ok rl (.int _) hP⟩
  · exact hP.elim
theorem c_max2 (hc : X.calm = true) : CallR X (.builtin "max") (rM X pmax2) := callR_imp (call_max2 hc) fun vs H Q ⟨g, S, xs, W, σ, rl, rx, hP⟩ => by
  unfold pmax2 at hP
  split at hP
  · obtain ⟨v, u, rfl, r, r'⟩ := rep2 rx
    cases r
    cases r'
    exact ⟨_, _, rfl, post_ok rl (.int _) hP⟩
  · exact hP.elim
theorem c_min2 (hc : X.calm = true) : CallR X (.builtin "min") (rM X pmin2) := callR_imp (call_min2 hc) fun vs H Q ⟨g, S, xs, W, σ, rl, rx, hP⟩ => by
  unfold pmin2 at hP
  split at hP
  · obtain ⟨v, u, rfl, r, r'⟩ := rep2 rx
    cases r
    cases r'
    exact ⟨_, _, rfl, post_ok rl (.int _) hP⟩
  · exact hP.elim
theorem c_int : CallR X (.type "int") (rM X pint) := callR_imp (call_int1.or call_int_str) fun vs H Q ⟨g, S, xs, W, σ, rl, rx, hP⟩ => by
  unfold pint at hP
  split at hP
  · obtain ⟨v, rfl, r⟩ := rep1 rx
    cases r
    exact .inl (.inl ⟨_, rfl, post_ok rl (.int _) hP⟩)
  · obtain ⟨v, rfl, r⟩ := rep1 rx
    cases r
    exact .inl (.inr ⟨_, rfl, post_ok rl (.int _) hP⟩)
  · obtain ⟨v, rfl, r⟩ := rep1 rx
    cases r
    split at hP
    · rename_i n hn
      split at hP
      · rename_i hz
        exact .inr ⟨_, n, rfl, hn, hz, post_ok rl (.int _) hP⟩
      · exact hP.elim
    · exact hP.elim
  · exact hP.elim
theorem c_str : CallR X (.type "str") (rM X pstr) := callR_imp call_str_int fun vs H Q ⟨g, S, xs, W, σ, rl, rx, hP⟩ => by
  unfold pstr at hP
  split at hP
  · obtain ⟨v, rfl, r⟩ := rep1 rx
    cases r
    split at hP
    · rename_i hz
      exact ⟨_, rfl, hz, post_ok rl (.str _) hP⟩
    · exact hP.elim
  · exact hP.elim
theorem c_all (hc : X.calm = true) : CallR X (.builtin "all") (rM X pall) := callR_imp (cr_all hc) fun vs H Q ⟨g, S, xs, W, σ, rl, rx, hP⟩ => by
  unfold pall at hP
  split at hP
  · obtain ⟨v, rfl, r⟩ := rep1 rx
    split at hP
    · rename_i bs h
      obtain ⟨ds, h1, h2⟩ := seqAs h
      obtain ⟨q, us, rfl, hq, r1⟩ := seqOf_rep rl r h1
      rw [asBs_rep r1 h2] at hq
      exact ⟨q, bs, rfl, hq, post_ok rl (.bl _) hP⟩
    · exact hP.elim
  · exact hP.elim
theorem c_any (hc : X.calm = true) : CallR X (.builtin "any") (rM X pany) := callR_imp (cr_any hc) fun vs H Q ⟨g, S, xs, W, σ, rl, rx, hP⟩ => by
  unfold pany at hP
  split at hP
  · obtain ⟨v, rfl, r⟩ := rep1 rx
    split at hP
    · rename_i bs h
      obtain ⟨ds, h1, h2⟩ := seqAs h
      obtain ⟨q, us, rfl, hq, r1⟩ := seqOf_rep rl r h1
      rw [asBs_rep r1 h2] at hq
      exact ⟨q, bs, rfl, hq, post_ok rl (.bl _) hP⟩
    · exact hP.elim
  · exact hP.elim
theorem c_sum (hc : X.calm = true) : CallR X (.builtin "sum") (rM X psum) := callR_imp (cr_sum hc) fun vs H Q ⟨g, S, xs, W, σ, rl, rx, hP⟩ => by
  unfold psum at hP
  split at hP
  · obtain ⟨v, rfl, r⟩ := rep1 rx
    split at hP
    · rename_i bs h
      obtain ⟨ds, h1, h2⟩ := seqAs h
      obtain ⟨q, us, rfl, hq, r1⟩ := seqOf_rep rl r h1
      rw [asIs_rep r1 h2] at hq
      exact ⟨q, bs, rfl, hq, post_ok rl (.int _) hP⟩
    · exact hP.elim
  · exact hP.elim
theorem c_tuple : CallR X (.type "tuple") (rM X ptuple) := callR_imp call_tuple_of fun vs H Q ⟨g, S, xs, W, σ, rl, rx, hP⟩ => by
  unfold ptuple at hP
  split at hP
  · obtain ⟨v, rfl, r⟩ := rep1 rx
    obtain ⟨q, us, rfl, hq, r1⟩ := tup_rep rl r
    exact ⟨q, us, rfl, .inr ⟨hq, post_ok rl r hP⟩⟩
  · obtain ⟨v, rfl, r⟩ := rep1 rx
    split at hP
    · rename_i ds h
      obtain ⟨q, us, rfl, hq, r1⟩ := seqOf_rep rl r h
      exact ⟨q, us, rfl, .inl ⟨hq, post_mkT rl r1 hP⟩⟩
    · exact hP.elim
  · exact hP.elim
theorem c_list (nw : Bool) : CallR X (.type "list") (rM X (plist nw)) := callR_imp call_list_of fun vs H Q ⟨g, S, xs, W, σ, rl, rx, hP⟩ => by
  unfold plist at hP
  split at hP
  · obtain ⟨v, rfl, r⟩ := rep1 rx
    obtain ⟨q, us, rfl, hq, r1⟩ := tup_rep rl r
    exact ⟨q, us, rfl, .inr hq, post_mkL rl r1 hP⟩
  · obtain ⟨v, rfl, r⟩ := rep1 rx
    split at hP
    · rename_i ds h
      obtain ⟨q, us, rfl, hq, r1⟩ := seqOf_rep rl r h
      exact ⟨q, us, rfl, .inl hq, post_mkL rl r1 hP⟩
    · exact hP.elim
  · exact hP.elim

/-! ### isinstance with built-in classes -/
inductive Ki where
  | non | bool | int | str | tup | lst | dct
  deriving DecidableEq
def Ki.name : Ki → String
  | .non => "NoneType" | .bool => "bool" | .int => "int" | .str => "str" | .tup => "tuple" | .lst => "list" | .dct => "dict"
def Ki.isA (a b : Ki) : Bool := decide (a = b) || (decide (a = .bool) && decide (b = .int))
def kiN (n : String) : Option Ki := if n = "int" then some .int else if n = "bool" then some .bool else if n = "str" then some .str else if n = "tuple" then some .tup else if n = "list" then some .lst else if n = "dict" then some .dct else none
def kindOf (S : Sto) : D → Option Ki
  | .non => some .non
  | .bl _ => some .bool
  | .int _ => some .int
  | .str _ => some .str
  | .tup _ => some .tup
  | .lst _ => some .lst
  | .rol _ => some .lst
  | .ref n => match S[n]? with
    | some (.lst _) => some .lst
    | _ => none
  | .dc0 => some .dct
  | _ => none
def kisOf : List D → Option (List Ki)
  | [] => some []
  | .ty n :: r => match kiN n, kisOf r with
    | some t, some ts => some (t :: ts)
    | _, _ => none
  | _ => none
def pisi : PL := fun xs S => match xs with
  | [x, .ty n] => match kindOf S x, kiN n with
    | some k, some t => .ok (.bl (k.isA t)) S
    | _, _ => .no
  | [x, .tup ts] => match kindOf S x with
    | some k => match kisOf ts with
      | some ks => .ok (.bl (ks.any fun t => k.isA t)) S
      | none => .no
    | none => .no
  | _ => .no
theorem kit_isA (a b : Ki) : kitB a.name b.name = some (a.isA b) := by
  cases a <;> cases b <;> decide +kernel
theorem kiN_name {n : String} {t : Ki} (h : kiN n = some t) : n = t.name := by
  unfold kiN at h
  repeat (split at h; · rename_i e; simp only [Option.some.injEq] at h; subst h; exact e)
  cases h
theorem kind_ty {g : G} {H : Hp} {S : Sto} {d : D} {v : V} {k : Ki} (rl : Rel X.K X.mg g H S) (r : Rep X.K X.mg g d v) (h : kindOf S d = some k) : TyX X.K H v (.type k.name) := by
  have lst : ∀ {a : Addr} {vs : List V}, SqL X.K H a vs → TyX X.K H (.ref a) (.type "list") := fun {a vs} hs => by
    rcases hs with (hs | ⟨o, hs⟩) | ⟨o, its, n, h1, h2, _⟩
    · exact .base (.lst hs)
    · exact .base (.frz hs)
    · exact .kList h1 h2
  cases d with
  | non => cases r; cases h; exact .base .non
  | bl b => cases r; cases h; exact .base (.bl _)
  | int b => cases r; cases h; exact .base (.int _)
  | str b => cases r; cases h; exact .base (.str _)
  | tup ds =>
    cases h
    obtain ⟨a, vs, rfl, hs, _⟩ := tup_rep rl r
    rcases hs with (hs | ⟨o, hs⟩) | ⟨o, its, n, h1, h2, _⟩
    · exact .base (.tup hs)
    · exact .fTuple hs
    · exact .kTuple h1 h2
  | lst ds =>
    cases h
    obtain ⟨a, vs, rfl, hs, _⟩ := seqOf_rep (ds := ds) rl r rfl
    exact lst hs
  | rol ds =>
    cases h
    obtain ⟨a, vs, rfl, hs, _⟩ := seqOf_rep (ds := ds) rl r rfl
    exact lst hs
  | ref n =>
    simp only [kindOf] at h
    split at h
    · rename_i ds hk
      cases h
      obtain ⟨a, vs, rfl, hs, _⟩ := seqOf_rep (ds := ds) rl r (by simp only [seqOf, hk])
      exact lst hs
    · cases h
  | dc0 =>
    cases h
    cases r with
    | dc0 h => exact .base (.dK (rl.fin _ _ h))
  | _ => cases h
theorem kisOf_rep {K : PySem.W.Frag} {mg : Str → Option Value} {g : G} : ∀ {ts : List D} {cs : List V} {ks : List Ki}, RepL K mg g ts cs → kisOf ts = some ks → Paired ClsV cs (ks.map fun k => Value.type k.name)
  | [], _, ks, r, h => by
    cases r
    simp only [kisOf, Option.some.injEq] at h
    subst h
    exact .nil
  | d :: ts, _, ks, r, h => by
    cases r with
    | cons r t =>
      cases d with
      | ty n =>
        cases r
        simp only [kisOf] at h
        split at h
        · rename_i t' ts' h1 h2
          simp only [Option.some.injEq] at h
          subst h
          refine .cons ?_ (kisOf_rep t h2)
          rw [kiN_name h1]
          exact .ty _
        · cases h
      | _ => simp [kisOf] at h
theorem kitAny_is {K : PySem.W.Frag} (k : Ki) : ∀ ks : List Ki, PySem.W.kitAny K (.type k.name) (ks.map fun k => Value.type k.name) = some (ks.any fun t => k.isA t)
  | [] => rfl
  | t :: ks => by
    have hk : PySem.W.kitOne K (.type k.name) (.type t.name) = some (k.isA t) := kit_ty (kit_isA k t)
    refine kitAny_cons hk (fun e => ?_) fun e => ?_
    · rw [List.any_cons, e, Bool.false_or]
      exact kitAny_is k ks
    · rw [List.any_cons, e, Bool.true_or]
/-- a tuple of classes, wherever it stands -/
theorem call_isiS : CallR X (.builtin "isinstance") (fun xs H Q => ∃ (x : V) (tp : Addr) (cs : List V) (t : Value) (us : List Value) (b : Bool), xs = [x, .ref tp] ∧ SqT X.K H tp cs ∧ Paired ClsV cs us ∧ TyX X.K H x t ∧ PySem.W.kitAny X.K t us = some b ∧ Q (.bl b) H) := by
  intro pins s σ H xs us Q I r h
  obtain ⟨x, tp, cs, t, ws, b, rfl, hT, k, ty, e, q⟩ := h
  obtain ⟨u1, u2, rfl, r1, r2⟩ := vals2 r
  cases (show u2 = Value.ref tp from r2)
  obtain ⟨P, Z, p, hx⟩ := kit_of I r1 ty
  obtain ⟨its, rv, ⟨o, h1, h2, n, h3⟩, _⟩ := I.tuple hT
  cases ClsV.all k rv
  obtain ⟨oc, od, dt, sl⟩ := o
  cases h2
  cases h3
  exact PySem.W.kia_tup Z I.kIn p h1 e hx fun tk => ⟨.bl b, H, I.tok tk, rfl, q⟩
theorem c_isi : CallR X (.builtin "isinstance") (rM X pisi) := callR_imp (call_isi.or call_isiS) fun vs H Q ⟨g, S, xs, W, σ, rl, rx, hP⟩ => by
  unfold pisi at hP
  split at hP
  · obtain ⟨v, u, rfl, r, r'⟩ := rep2 rx
    cases r'
    split at hP
    · rename_i k t h1 h2
      refine .inl ⟨v, _, _, _, k.isA t, rfl, .ty _, kind_ty rl r h1, ?_, post_ok rl (.bl _) hP⟩
      rw [kiN_name h2]
      exact kit_ty (kit_isA k t)
    · exact hP.elim
  · obtain ⟨v, u, rfl, r, r'⟩ := rep2 rx
    split at hP
    · rename_i k h1
      split at hP
      · rename_i ks h2
        obtain ⟨q, us, rfl, hq, r1⟩ := tup_rep rl r'
        exact .inr ⟨v, q, us, _, _, _, rfl, hq, kisOf_rep r1 h2, kind_ty rl r h1, kitAny_is k ks, post_ok rl (.bl _) hP⟩
      · exact hP.elim
    · exact hP.elim
  · exact hP.elim
/-- a built-in class as a value -/
theorem em_ty {x : Str} {n : String} {pos : Pos} (hm : X.mg x = none) (hv : bootBuiltins x = some (.type n)) (hg : Gl X x := by rfl) (hn : x ≠ "__name__" := by decide) (hdb : (x == ("__debug__" : Str)) = false := by decide) : EM X W (.Name x pos) (mC (.ty n)) :=
  fun g σ H ev S Q rl er hP => wE (pe_bltn (v := .ty n) hg hm hv rfl hn hdb) (hP g _ H (G.le.refl g) rl (.ty n))
end
end ML


set_option Elab.async false
set_option linter.all false
set_option maxRecDepth 100000
set_option autoImplicit false
set_option maxHeartbeats 4000000
namespace ML
open PySem PySem.Spec PyProof.Rows L2

/-! ## methods of lists and texts -/
abbrev PM := D → List D → Sto → R D
def rMm (X : Cx) (p : PM) : V → List V → Hp → VK → Prop := fun v vs H Q => ∃ (g : G) (S : Sto) (x : D) (xs : List D) (W : WX) (σ : Sl), Rel X.K X.mg g H S ∧ Rep X.K X.mg g x v ∧ RepL X.K X.mg g xs vs ∧ Post X.K X.mg (Rep X.K X.mg) W σ g (p x xs S) Q
theorem mtR_imp {X : Cx} {id : String} {r r' : V → List V → Hp → VK → Prop} (h : MtR X id r) (k : ∀ x xs H Q, r' x xs H Q → r x xs H Q) : MtR X id r' := fun pins s σ H x xs v us Q I rv rs q => h pins s σ H x xs v us Q I rv rs (k _ _ _ _ q)
def isSeq (S : Sto) (d : D) : Bool := (seqOf S d).isSome
def isStr (_ : Sto) : D → Bool
  | .str _ => true
  | _ => false
def mMe (isT : Sto → D → Bool) (p : PM) (mo : M D) (ml : M (List D)) : M D := fun ev S => (mo ev S).bind fun x S1 => if isT S1 x = true then (ml ev S1).bind fun ys S2 => p x ys S2 else .no
def IsTy (X : Cx) (T : String) (isT : Sto → D → Bool) : Prop := ∀ (g : G) (H : Hp) (S : Sto) (d : D) (v : V), Rel X.K X.mg g H S → Rep X.K X.mg g d v → isT S d = true → tyV X.K T v H
section
variable {X : Cx} {W : WX} {o e a b c : Expr} {es rest : List Expr} {pos cpos apos : Pos} {mo ma mb mc : M D} {ml : M (List D)} {x name : Str} {id T : String} {p : PM} {isT : Sto → D → Bool}
theorem isSeq_ty : IsTy X "list" isSeq := fun g H S d v rl r h => by
  unfold isSeq at h
  cases e : seqOf S d with
  | none => rw [e] at h; cases h
  | some ds =>
    obtain ⟨q, us, rfl, hq, _⟩ := seqOf_rep rl r e
    exact .inl ⟨rfl, us, hq⟩
theorem isStr_ty : IsTy X "str" isStr := fun g H S d v rl r h => by
  cases d with
  | str z => cases r; exact rfl
  | _ => cases h
theorem em_bm (hT : IsTy X T isT) (pa : PlainAttrs T) (slot : Slot T name id) (hty : typeOf (.builtin id) = pure (.type "method_descriptor")) (hm : MtR X id (rMm X p)) (ho : EM X W o mo) (ha : AM X W (e :: es) ml)
    (hbase : attributeBase o name X.env (eval o X.env) = eval o X.env := by rfl)
    (hfew : ((backTo cpos (starEach (e :: es) X.env)).all (fun x => !x.1) && (backToKw cpos (keywordEach [] X.env)).all (fun x => x.1.isSome)
      && decide ((e :: es).length + ([] : List Keyword).length + (if ([] : List Keyword).isEmpty then 0 else 1) < 30)) = true := by rfl)
    (hline : (apos.endLine == cpos.line) = true := by rfl) (hs : starEach (e :: es) X.env = (false, eval e X.env) :: starEach es X.env := by rfl) (hplain : (backTo cpos (starEach es X.env)).any (·.1) = false := by rfl) :
    EM X W (.Call (.Attribute o name apos) (e :: es) [] cpos) (mMe isT p mo ml) := by
  intro g σ H ev S Q rl er hP
  refine wE (pe_bm pa slot hty hm (peW X o) (paW X _) hbase hfew hline hs hplain) (ho g σ H ev S _ rl er (Post.bind hP fun g1 x S1 v H1 l1 rl1 rx hP1 => ?_))
  split at hP1
  · rename_i ht
    refine ⟨hT g1 H1 S1 x v rl1 rx ht, ha g1 σ H1 ev S1 _ rl1 (er.le l1) (Post.bind hP1 fun g2 ys S2 us H2 l2 rl2 ry hP2 => ?_)⟩
    exact ⟨g2, S2, x, ys, W, σ, rl2, rx.le l2, ry, hP2⟩
  · exact hP1.elim
theorem em_bm0 (hT : IsTy X T isT) (pa : PlainAttrs T) (slot : Slot T name id) (hty : typeOf (.builtin id) = pure (.type "method_descriptor")) (hm : MtR X id (rMm X p)) (ho : EM X W o mo)
    (hbase : attributeBase o name X.env (eval o X.env) = eval o X.env := by rfl) (hline : (apos.endLine == cpos.line) = true := by rfl) : EM X W (.Call (.Attribute o name apos) [] [] cpos) (mMe isT p mo mNil) := by
  intro g σ H ev S Q rl er hP
  refine wE (pe_bm0 pa slot hty hm (peW X o) hbase hline) (ho g σ H ev S _ rl er (Post.bind hP fun g1 x S1 v H1 l1 rl1 rx hP1 => ?_))
  split at hP1
  · rename_i ht
    exact ⟨hT g1 H1 S1 x v rl1 rx ht, g1, S1, x, [], W, σ, rl1, rx, .nil, hP1⟩
  · exact hP1.elim

def pappend : PM := fun x ys S => match x, ys with
  | .ref n, [y] => match S[n]? with
    | some (.lst ds) => if ds.length < 16777216 then .ok .non (S.set n (.lst (ds ++ [y]))) else .no
    | _ => .no
  | _, _ => .no
def pextend : PM := fun x ys S => match x, ys with
  | .ref n, [y] => match S[n]?, seqM S y with
    | some (.lst ds), some es => if ds.length + es.length ≤ 16777216 then .ok .non (S.set n (.lst (ds ++ es))) else .no
    | _, _ => .no
  | _, _ => .no
def ppop : PM := fun x ys S => match x, ys with
  | .ref n, [] => match S[n]? with
    | some (.lst ds) => match ds.getLast? with
      | some y => .ok y (S.set n (.lst ds.dropLast))
      | none => .no
    | _ => .no
  | _, _ => .no
/-- the first place -/
def firstAt (f : PyData → Bool) : List PyData → Nat → Option Nat
  | [], _ => none
  | d :: ds, n => if f d = true then some n else firstAt f ds (n + 1)
def pindex : PM := fun x ys S => match ys with
  | [y] => match py deep S x, py deep S y with
    | some (.list ds), some d => match firstAt (fun z => PyData.eqv z d) ds 0 with
      | some n => .ok (.int n) S
      | none => .no
    | _, _ => .no
  | _ => .no
def pjoin : PM := fun x ys S => match x, ys with
  | .str a, [.tup ds] => match asSs ds with
    | some zs => if (zs.map (·.length)).sum + zs.length * a.length ≤ 16777216 then .ok (.str (Txt.join a zs)) S else .no
    | none => .no
  | .str a, [y] => match (seqOf S y).bind asSs with
    | some zs => if (zs.map (·.length)).sum + zs.length * a.length ≤ 16777216 then .ok (.str (Txt.join a zs)) S else .no
    | none => .no
  | _, _ => .no
def psplit (nw : Bool) : PM := fun x ys S => match x, ys with
  | .str a, [.str b] => if (b.length == 0) = false ∧ a.length + 2 ≤ 16777216 then mkL nw ((Txt.split a b).map D.str) S else .no
  | .str a, [.str b, .int k] => if (b.length == 0) = false ∧ -(2 ^ 63) ≤ k ∧ k < 2 ^ 63 ∧ a.length + 2 ≤ 16777216 then mkL nw ((Txt.splitMax a b k).map D.str) S else .no
  | _, _ => .no
def pupper : PM := fun x ys S => match x, ys with
  | .str a, [] => if a.length ≤ 5592405 then .ok (.str (Txt.upper a)) S else .no
  | _, _ => .no
theorem cell_ref {K : PySem.W.Frag} {mg : Str → Option Value} {g : G} {H : Hp} {S : Sto} {n : Nat} {v : V} {ds : List D} (rl : Rel K mg g H S) (r : Rep K mg g (.ref n) v) (e : S[n]? = some (.lst ds)) : ∃ (a : Addr) (vs : List V), v = .ref a ∧ g.r[n]? = some a ∧ H a = some (.lst vs) ∧ RepL K mg g ds vs := by
  cases r with
  | ref h1 =>
    obtain ⟨_, _, vs, h3, h4⟩ := rl.cell n _ _ e h1
    exact ⟨_, vs, rfl, h1, h3, h4⟩
theorem m_append : MtR X "list.append" (rMm X pappend) := mtR_imp (r := rAppend) mt_append fun v vs H Q ⟨g, S, x, xs, W, σ, rl, rx, rxs, hP⟩ => by
  have sl := sizeL
  unfold pappend at hP
  split at hP
  · split at hP
    · rename_i n y ds he
      split at hP
      · rename_i hz
        obtain ⟨u, rfl, ry⟩ := rep1 rxs
        obtain ⟨a, ws, rfl, h1, h2, h3⟩ := cell_ref rl rx he
        refine ⟨a, ws, u, rfl, rfl, h2, by rw [← h3.length]; omega, ?_⟩
        exact hP g .non _ (G.le.refl g) (rl.setCell he h1 (h3.append (.cons ry .nil))) .non
      · exact hP.elim
    · exact hP.elim
  · exact hP.elim
theorem m_extend : MtR X "list.extend" (rMm X pextend) := mtR_imp (r := rExtend) mt_extend fun v vs H Q ⟨g, S, x, xs, W, σ, rl, rx, rxs, hP⟩ => by
  have sl := sizeL
  unfold pextend at hP
  split at hP
  · split at hP
    · rename_i n y ds es he hy
      split at hP
      · rename_i hz
        obtain ⟨u, rfl, ry⟩ := rep1 rxs
        obtain ⟨a, ws, rfl, h1, h2, h3⟩ := cell_ref rl rx he
        obtain ⟨b, us, rfl, h4, h5⟩ := seqM_rep rl ry hy
        refine ⟨a, b, ws, us, rfl, rfl, h2, h4, by rw [← h3.length, ← h5.length]; omega, ?_⟩
        exact hP g .non _ (G.le.refl g) (rl.setCell he h1 (h3.append h5)) .non
      · exact hP.elim
    · exact hP.elim
  · exact hP.elim
theorem m_pop : MtR X "list.pop" (rMm X ppop) := mtR_imp (r := rPop) mt_pop fun v vs H Q ⟨g, S, x, xs, W, σ, rl, rx, rxs, hP⟩ => by
  unfold ppop at hP
  split at hP
  · split at hP
    · rename_i n ds he
      split at hP
      · rename_i y hy
        cases rxs
        obtain ⟨a, ws, rfl, h1, h2, h3⟩ := cell_ref rl rx he
        have hy' : ds[ds.length - 1]? = some y := by rw [← List.getLast?_eq_getElem?]; exact hy
        obtain ⟨u, e1, e2⟩ := h3.get hy'
        refine ⟨a, ws, u, rfl, rfl, h2, by rw [← h3.length]; exact e1, ?_⟩
        have hd : RepL X.K X.mg g ds.dropLast ws.dropLast := by
          rw [List.dropLast_eq_take, List.dropLast_eq_take, h3.length]
          exact h3.take _
        exact hP g u _ (G.le.refl g) (rl.setCell he h1 hd) e2
      · exact hP.elim
    · exact hP.elim
  · exact hP.elim
theorem firstAt_is {f : PyData → Bool} : ∀ {ds : List PyData} {n m : Nat}, firstAt f ds n = some m → ∃ (j : Nat) (z : PyData), m = n + j ∧ ds[j]? = some z ∧ f z = true ∧ ∀ (i : Nat) (z' : PyData), i < j → ds[i]? = some z' → f z' = false
  | [], _, _, h => by cases h
  | d :: ds, n, m, h => by
    unfold firstAt at h
    split at h
    · rename_i hd
      cases h
      exact ⟨0, d, rfl, rfl, hd, fun i z' hi => absurd hi (Nat.not_lt_zero i)⟩
    · rename_i hd
      obtain ⟨j, z, e1, e2, e3, e4⟩ := firstAt_is h
      refine ⟨j + 1, z, by omega, by simpa using e2, e3, fun i z' hi hz => ?_⟩
      cases i with
      | zero =>
        have : d = z' := by simpa using hz
        subst this
        simpa using hd
      | succ i => exact e4 i z' (by omega) (by simpa using hz)
theorem m_index (hu : X.A.units + 65 < cLine) : MtR X "list.index" (rMm X pindex) := mtR_imp (mt_indexD hu) fun v vs H Q ⟨g, S, x, xs, W, σ, rl, rx, rxs, hP⟩ => by
  unfold pindex at hP
  split at hP
  · split at hP
    · rename_i y ds d h1 h2
      split at hP
      · rename_i n hn
        obtain ⟨u, rfl, ry⟩ := rep1 rxs
        obtain ⟨j, z, e1, e2, e3, e4⟩ := firstAt_is hn
        have hd := py_dp rl deep _ _ _ rx h1
        obtain ⟨a, rfl⟩ : ∃ a, v = .ref a := by cases hd; exact ⟨_, rfl⟩
        have ej : n = j := by omega
        subst ej
        exact ⟨a, u, d, ds, n, z, rfl, rfl, hd, py_dp rl deep _ _ _ ry h2, py_shaped (by decide) h1, py_shaped (by decide) h2, e2, e3, e4, post_ok rl (.int _) hP⟩
      · exact hP.elim
    · exact hP.elim
  · exact hP.elim
theorem m_join : MtR X "str.join" (rMm X pjoin) := mtR_imp mt_join fun v vs H Q ⟨g, S, x, xs, W, σ, rl, rx, rxs, hP⟩ => by
  unfold pjoin at hP
  split at hP
  · split at hP
    · rename_i a ds zs hz
      split at hP
      · rename_i hl
        cases rx
        obtain ⟨u, rfl, ry⟩ := rep1 rxs
        obtain ⟨q, us, rfl, hq, r1⟩ := tup_rep rl ry
        rw [asSs_rep r1 hz] at hq
        exact ⟨_, q, zs, rfl, rfl, .inr hq, hl, post_ok rl (.str _) hP⟩
      · exact hP.elim
    · exact hP.elim
  · split at hP
    · rename_i a y _ zs hz
      split at hP
      · rename_i hl
        cases rx
        obtain ⟨u, rfl, ry⟩ := rep1 rxs
        obtain ⟨ds, h1, h2⟩ := seqAs hz
        obtain ⟨q, us, rfl, hq, r1⟩ := seqOf_rep rl ry h1
        rw [asSs_rep r1 h2] at hq
        exact ⟨_, q, zs, rfl, rfl, .inl hq, hl, post_ok rl (.str _) hP⟩
      · exact hP.elim
    · exact hP.elim
  · exact hP.elim
theorem repStrs {K : PySem.W.Frag} {mg : Str → Option Value} {g : G} : ∀ zs : List Str, RepL K mg g (zs.map D.str) (zs.map V.str)
  | [] => .nil
  | z :: zs => .cons (.str z) (repStrs zs)
theorem m_split (nw : Bool) : MtR X "str.split" (rMm X (psplit nw)) := mtR_imp (mt_split.or mt_splitMax) fun v vs H Q ⟨g, S, x, xs, W, σ, rl, rx, rxs, hP⟩ => by
  have sl := sizeL
  unfold psplit at hP
  split at hP
  · split at hP
    · rename_i hz
      cases rx
      obtain ⟨u, rfl, ry⟩ := rep1 rxs
      cases ry
      exact .inl ⟨_, _, rfl, rfl, hz.1, by omega, post_mkL rl (repStrs _) hP⟩
    · exact hP.elim
  · split at hP
    · rename_i hz
      cases rx
      obtain ⟨u, u', rfl, ry, ry'⟩ := rep2 rxs
      cases ry
      cases ry'
      exact .inr ⟨_, _, _, rfl, rfl, hz.1, hz.2.1, hz.2.2.1, by omega, post_mkL rl (repStrs _) hP⟩
    · exact hP.elim
  · exact hP.elim
theorem m_upper : MtR X "str.upper" (rMm X pupper) := mtR_imp mt_upper fun v vs H Q ⟨g, S, x, xs, W, σ, rl, rx, rxs, hP⟩ => by
  unfold pupper at hP
  split at hP
  · split at hP
    · rename_i hz
      cases rx
      cases rxs
      exact ⟨_, rfl, rfl, hz, post_ok rl (.str _) hP⟩
    · exact hP.elim
  · exact hP.elim
end
end ML


set_option Elab.async false
set_option linter.all false
set_option maxRecDepth 100000
set_option autoImplicit false
set_option maxHeartbeats 4000000
namespace ML
open PySem PySem.Spec PyProof.Rows L2

/-! ## what enumerate and zip draw from: a list, a tuple, a text -/
inductive SK where
  | l | t | s
def SrcV (K : PySem.W.Frag) (H : Hp) : SK → V → List V → Prop
  | .l, v, vs => ∃ a, v = .ref a ∧ SqL K H a vs
  | .t, v, vs => ∃ a, v = .ref a ∧ SqT K H a vs
  | .s, v, vs => ∃ z : Str, v = .str z ∧ vs = z.cps.toList.map fun c => V.str ⟨#[c]⟩
def ItAt : SK → Value → Addr → Nat → Heap → Prop
  | .l, u, it, i, h => ∃ a, u = .ref a ∧ h.IsListIter it a i
  | .t, u, it, i, h => ∃ a, u = .ref a ∧ h.IsTupleIter it a i
  | .s, u, it, i, h => ∃ x t, u = .str x t ∧ h.IsStrIter it (strIterType x) x t i
def fpS : SK → Value → List Addr
  | .l, .ref a => [a]
  | .t, .ref a => [a]
  | _, _ => []
theorem itAt_at {k : SK} {u : Value} {it : Addr} {i : Nat} {h h' : Heap} (x : ItAt k u it i h) (e : ∀ o, h.get? it = some o → h'.get? it = some o) : ItAt k u it i h' := by
  cases k with
  | l => obtain ⟨a, e1, e2⟩ := x; exact ⟨a, e1, e2.at e⟩
  | t => obtain ⟨a, e1, e2⟩ := x; exact ⟨a, e1, e2.at e⟩
  | s => obtain ⟨a, t, e1, o, e2, r⟩ := x; exact ⟨a, t, e1, o, e _ e2, r⟩
theorem itAt_obj {k : SK} {u : Value} {it : Addr} {i : Nat} {h : Heap} (x : ItAt k u it i h) : ∃ o, h.get? it = some o ∧ ∀ v, o.data ≠ .cell v := by
  cases k with
  | l => obtain ⟨a, e1, o, e2, c, d⟩ := x; exact ⟨o, e2, fun v z => by rw [d] at z; cases z⟩
  | t => obtain ⟨a, e1, o, e2, c, d⟩ := x; exact ⟨o, e2, fun v z => by rw [d] at z; cases z⟩
  | s => obtain ⟨a, t, e1, o, e2, c, d⟩ := x; exact ⟨o, e2, fun v z => by rw [d] at z; cases z⟩
section
variable {X : Cx} {pins : List (Addr × Obj)} {σ : Sl} {H : Hp} {s : Shared}
theorem srcV_inj (I : Inv X pins σ H s) {k : SK} {v : V} {vs us : List V} (a : SrcV X.K H k v vs) (b : SrcV X.K H k v us) : vs = us := by
  cases k with
  | l => obtain ⟨p, rfl, h1⟩ := a; obtain ⟨q, e, h2⟩ := b; cases e; exact I.list_inj h1 h2
  | t => obtain ⟨p, rfl, h1⟩ := a; obtain ⟨q, e, h2⟩ := b; cases e; exact I.tuple_inj h1 h2
  | s => obtain ⟨p, rfl, h1⟩ := a; obtain ⟨q, e, h2⟩ := b; cases e; rw [h1, h2]
theorem draws_of {P : Program} {w : World} {A : Around} (hA : A.handled = none) (I : Inv X pins σ H s) {k : SK} {v : V} {u : Value} {vs : List V} (rv : RelV v u) (hs : SrcV X.K H k v vs) {it : Addr} (hit : it ∉ fpS k u) :
    ∃ (Pd : Nat → Value → Prop) (St : Nat → Heap → Prop), Draws P w A it (it :: fpS k u) vs.length Pd St ∧ (∀ i, ItAt k u it i s.heap → St i s.heap) ∧ (∀ i h, St i h → ItAt k u it i h) ∧ ∀ i x, Pd i x → ∃ y, vs[i]? = some y ∧ RelV y x := by
  cases k with
  | l =>
    obtain ⟨a, rfl, hq⟩ := hs
    cases rv
    obtain ⟨its, r, pl, _⟩ := I.list hq
    have hne : a ≠ it := fun e => hit (by subst e; exact List.mem_singleton.mpr rfl)
    have hl : vs.length = its.toArray.size := by rw [List.size_toArray]; exact r.length
    rw [hl]
    refine ⟨_, _, Draws.list hA it a hne its.toArray, fun i x => ?_, fun i h x => ⟨a, rfl, x.1⟩, fun i x hx => ?_⟩
    · obtain ⟨b, e, x⟩ := x
      cases e
      exact ⟨x, pl.isList⟩
    · have hx' : its[i]? = some x := by simpa using hx
      have hi : i < vs.length := by rw [r.length]; exact (List.getElem?_eq_some_iff.mp hx').1
      obtain ⟨u, e1, e2⟩ := r.get (List.getElem?_eq_getElem hi)
      rw [hx'] at e1
      cases e1
      exact ⟨_, List.getElem?_eq_getElem hi, e2⟩
  | t =>
    obtain ⟨a, rfl, hq⟩ := hs
    cases rv
    obtain ⟨its, r, pl, _⟩ := I.tuple hq
    have hne : a ≠ it := fun e => hit (by subst e; exact List.mem_singleton.mpr rfl)
    have hl : vs.length = its.toArray.size := by rw [List.size_toArray]; exact r.length
    rw [hl]
    refine ⟨_, _, Draws.tuple hA it a hne its.toArray, fun i x => ?_, fun i h x => ⟨a, rfl, x.1⟩, fun i x hx => ?_⟩
    · obtain ⟨b, e, x⟩ := x
      cases e
      exact ⟨x, pl⟩
    · have hx' : its[i]? = some x := by simpa using hx
      have hi : i < vs.length := by rw [r.length]; exact (List.getElem?_eq_some_iff.mp hx').1
      obtain ⟨u, e1, e2⟩ := r.get (List.getElem?_eq_getElem hi)
      rw [hx'] at e1
      cases e1
      exact ⟨_, List.getElem?_eq_getElem hi, e2⟩
  | s =>
    obtain ⟨z, rfl, rfl⟩ := hs
    obtain ⟨t, rfl⟩ := rv
    have hl : (z.cps.toList.map fun c => V.str ⟨#[c]⟩).length = z.cps.size := by rw [List.length_map, Array.length_toList]
    rw [hl]
    refine ⟨_, _, Draws.text hA it z t, fun i x => ?_, fun i h x => ⟨z, t, rfl, x⟩, fun i x hx => ?_⟩
    · obtain ⟨b, t', e, x⟩ := x
      cases e
      exact x
    · obtain ⟨c, u, e1, rfl⟩ := hx
      exact ⟨.str ⟨#[c]⟩, by rw [List.getElem?_map, Array.getElem?_toList, e1]; rfl, _, rfl⟩
end
/-- how iter(u) begins -/
def kO : SK → Value → Obj
  | .l, u => { cls := .type "list_iterator", data := .fields #[u, .int 0 0] }
  | .t, u => { cls := .type "tuple_iterator", data := .fields #[u, .int 0 0] }
  | .s, .str x t => { cls := .type (strIterType x), data := .fields #[.str x t, .int 0 0] }
  | .s, u => { cls := .type "tuple_iterator", data := .fields #[u, .int 0 0] }
section
variable {X : Cx} {pins : List (Addr × Obj)} {σ : Sl} {H : Hp} {s : Shared}
theorem begins_of (I : Inv X pins σ H s) {k : SK} {v : V} {u : Value} {vs : List V} (rv : RelV v u) (hs : SrcV X.K H k v vs) : ∃ C : Heap → Prop, Begins u (kO k u) C ∧ C s.heap ∧ (∀ (h : Heap) (it : Addr), h.get? it = some (kO k u) → ItAt k u it 0 h) ∧ ∀ b ∈ fpS k u, b < s.heap.objs.size := by
  cases k with
  | l =>
    obtain ⟨a, rfl, hq⟩ := hs
    cases rv
    obtain ⟨its, r, pl, _⟩ := I.list hq
    refine ⟨_, begins_list a its.toArray, pl.isList, fun h it e => ⟨a, rfl, _, e, rfl, rfl⟩, fun b hb => ?_⟩
    have e : b = a := by simpa [fpS] using hb
    subst e
    exact pl.lt
  | t =>
    obtain ⟨a, rfl, hq⟩ := hs
    cases rv
    obtain ⟨its, r, pl, _⟩ := I.tuple hq
    refine ⟨_, begins_tuple a its.toArray, pl, fun h it e => ⟨a, rfl, _, e, rfl, rfl⟩, fun b hb => ?_⟩
    have e : b = a := by simpa [fpS] using hb
    subst e
    obtain ⟨o, e, _⟩ := pl
    exact Heap.lt_size e
  | s =>
    obtain ⟨z, rfl, rfl⟩ := hs
    obtain ⟨t, rfl⟩ := rv
    exact ⟨_, begins_text z t, trivial, fun h it e => ⟨z, t, rfl, _, e, rfl, rfl⟩, fun b hb => by simp [fpS] at hb⟩
end

/-! ### enumerate -/
def Itn (K : PySem.W.Frag) (k : SK) (v : V) : It :=
  ⟨fun i H => ∃ vs, SrcV K H k v vs ∧ i < vs.length, fun i H x H' => ∃ T y, x = .ref T ∧ H T = none ∧ H' = upd H T (.tup [.int (i : Nat), y]) ∧ ∀ vs, SrcV K H k v vs → vs[i]? = some y, fun i H => ∃ vs, SrcV K H k v vs ∧ i = vs.length⟩
theorem turn_enumS {P : Program} {w : World} {K : PySem.W.Frag} {elts : List Expr} {kk : Nat} {tpos : Pos} {k : SK} {v : V} {u : Value} {e it : Addr} (rv : RelV v u) (hei : e ≠ it) (hfe : e ∉ fpS k u) (hfi : it ∉ fpS k u) :
    Turn P w K (.Tuple elts kk tpos) (Itn K k v) [e, it] e (fun i h => (∃ old, IsEnum h e it (0 + (i : Int)) old) ∧ ItAt k u it i h) where
  mem := by simp
  obj := fun i h st b hb => by
    obtain ⟨⟨old, h1⟩, h2⟩ := st
    have e' : b = e ∨ b = it := by simpa using hb
    rcases e' with rfl | rfl
    · exact ⟨_, h1, fun v z => nomatch z⟩
    · exact itAt_obj h2
  keep := fun i h h' st kp => by
    obtain ⟨⟨old, h1⟩, h2⟩ := st
    exact ⟨⟨old, kp e (by simp) _ h1⟩, itAt_at h2 fun o q => kp it (by simp) o q⟩
  item := by
    intro X hP hw hK hc i pins s σ H E I hf st hg
    subst hP hw hK
    obtain ⟨vs, hs, hlt⟩ := hg
    obtain ⟨⟨old, he⟩, hit⟩ := st
    obtain ⟨Pd, St, D, st0, st1, pd⟩ := draws_of (P := X.prog) (w := X.w) (A := X.A.in1) (I.ok.hd hc) I rv hs hfi
    have Gn := GoesN.enumFrom (elts := elts) (x1 := kk) (pos := tpos) 0 D e hei (by simp only [List.mem_cons, not_or]; exact ⟨hei, hfe⟩) (by simp)
    refine thn (Gn.goes i s (fun x s2 => ∃ y H', Inv X pins σ H' s2 ∧ RelV y x ∧ (Itn X.K k v).yld i H y H' ∧ ((∃ old, IsEnum s2.heap e it (0 + ((i + 1 : Nat) : Int)) old) ∧ ItAt k u it (i + 1) s2.heap) ∧ ∀ b ∈ [e, it], H' b = none) E hlt ⟨⟨old, he⟩, st0 i hit⟩ fun x h' tk hY hSt hk htk => ?_) fun r s1 hr => hr
    obtain ⟨T, t, z, rfl, hT, hz, hT2⟩ := hY
    obtain ⟨y, hy, ry⟩ := pd i z hz
    have new : ObjOk X.prog X.w (upd H T (.tup [.int (i : Nat), y])) h' T (.tup [.int (i : Nat), y]) :=
      ⟨by show 2 ≤ sizeLine; decide, [.int (0 + (i : Int)) t, z], .cons ⟨t, by rw [Int.zero_add]⟩ (.cons ry .nil), hT2⟩
    have I1 := I.turnedNew (t' := tk) (ch := [e, it]) (fun b o hb q => hk b o hb q) hf hT new
    refine ⟨.ref T, _, I1, rfl, ⟨T, y, rfl, I.hok.fresh hT, rfl, fun us hu => ?_⟩, ⟨hSt.1, st1 _ _ hSt.2⟩, fun b hb => ?_⟩
    · rw [srcV_inj I hu hs]
      exact hy
    · have hl : b < s.heap.objs.size := by
        have e' : b = e ∨ b = it := by simpa using hb
        rcases e' with rfl | rfl
        · exact Heap.lt_size he
        · obtain ⟨o, q, _⟩ := itAt_obj hit
          exact Heap.lt_size q
      rw [upd_ne (Nat.ne_of_lt (Nat.lt_of_lt_of_le hl hT))]
      exact (hf b hb).1
  done := by
    intro X hP hw hK hc i pins s σ H E I hf st hg
    subst hP hw hK
    obtain ⟨vs, hs, rfl⟩ := hg
    obtain ⟨⟨old, he⟩, hit⟩ := st
    obtain ⟨Pd, St, D, st0, st1, pd⟩ := draws_of (P := X.prog) (w := X.w) (A := X.A.in1) (I.ok.hd hc) I rv hs hfi
    have Gn := GoesN.enumFrom (elts := elts) (x1 := kk) (pos := tpos) 0 D e hei (by simp only [List.mem_cons, not_or]; exact ⟨hei, hfe⟩) (by simp)
    exact Gn.stops s (fun s1 => Inv X pins σ H s1) E ⟨⟨old, he⟩, st0 _ hit⟩ fun h' tk hk htk => I.turnedL (t' := tk) (ch := [e, it]) (fun b o hb q => hk b o hb q) hf
  self := fun A i s Q E st h => wpAny_pyIter_enum st.1.choose_spec h

theorem meets_enum1 {v : Value} {o : Obj} {H : Heap → Prop} (B : Begins v o H) :
    Meets (Builtin.«enumerate.__new__» ⟨[.type "enumerate", v], []⟩) (fun _ R s => H s.heap ∧
      R (.ok (.ret (.ref (s.heap.push o).objs.size))) { s with heap := (s.heap.push o).push { cls := .type "enumerate", data := .fields #[.none, .bool false, .ref s.heap.objs.size, rawInt 0, .none, .none] } }) :=
  .of_wp fun prog w A R s h => by
    obtain ⟨hp, g, d, tk, os⟩ := s
    obtain ⟨h1, h⟩ := h
    have hsub := sub_enumerate
    have q1 : ∀ {A' : Around} {E : Value → Shared → Prop} {Q : Value → Shared → Prop}, Q (.ref hp.objs.size) ⟨hp.push o, g, d, tk, os⟩ → wpAny (model prog w) A' (pyIter v) Q E ⟨hp, g, d, tk, os⟩ :=
      fun q => B.iter prog w _ _ ⟨hp, g, d, tk, os⟩ _ h1 q
    wp_walk using q1
    refine wpAny_stack_any fun st => wpAny_pure ?_
    split
    · rename_i c _ _ _ _ _
      cases (c == Value.type "enumerate")
      · wp_walk using q1
        exact ⟨_, rfl, h⟩
      · wp_walk using q1
        exact ⟨_, rfl, h⟩
    · wp_walk using q1
      exact ⟨_, rfl, h⟩
theorem enum_begins1 {prog : Program} {w : World} {A : Around} {E : Value → Shared → Prop} {s : Shared} {v : Value} {o : Obj} {H : Heap → Prop} {Q : Value → Shared → Prop} (B : Begins v o H) (h1 : H s.heap)
    (h : ∀ h', IsEnum h' (s.heap.objs.size + 1) s.heap.objs.size 0 .none → h'.get? s.heap.objs.size = some o → (∀ b o, s.heap.get? b = some o → h'.get? b = some o) → Q (.ref (s.heap.objs.size + 1)) { s with heap := h' }) :
    wpAny (model prog w) A (call (.type "enumerate") [v]) Q E s := by
  refine callType_new F.called_enumerate (by decide) (F.typeCall_enumerate_1 _) (F.newCall_enumerate_1 _) (fun obj => F.args_object_init_2 obj _) F.entry_enumerate_new (meets_enum1 B) ⟨h1, ?_⟩
  have hz : (s.heap.push o).objs.size = s.heap.objs.size + 1 := Heap.size_push ..
  show _ ∧ _
  rw [hz]
  have he : IsEnum ((s.heap.push o).push { cls := .type "enumerate", data := .fields #[.none, .bool false, .ref s.heap.objs.size, rawInt 0, .none, .none] }) (s.heap.objs.size + 1) s.heap.objs.size 0 .none := by
    have q := Heap.get?_push_size (s.heap.push o) (o := { cls := .type "enumerate", data := .fields #[.none, .bool false, .ref s.heap.objs.size, rawInt 0, .none, .none] }) rfl
    rw [hz] at q
    exact q
  exact ⟨⟨_, he, rfl⟩, h _ he (Heap.get?_push_of_some _ (Heap.get?_push_size _ B.free)) fun b o x => Heap.get?_push_of_some _ (Heap.get?_push_of_some _ x)⟩
def iEnumS (K : PySem.W.Frag) (ta : TA) : TI := fun σ H R => ta σ H fun vs H1 => ∃ v k us, vs = [v] ∧ SrcV K H1 k v us ∧ R (Itn K k v) H1
theorem pi_enumS {X : Cx} {e : Expr} {ta : TA} {p pos tpos : Pos} {elts : List Expr} {kk : Nat} (hm : X.mg "enumerate" = none) (ha : PA X [e] ta) (hg : Gl X "enumerate" := by rfl)
    (hs : starEach [e] X.env = (false, eval e X.env) :: starEach [] X.env := by rfl) (hpl : (backTo pos (starEach [] X.env)).any (·.1) = false := by rfl) :
    PI X (.Tuple elts kk tpos) (.Call (.Name "enumerate" p) [e] [] pos) (iEnumS X.K ta) := by
  refine ⟨fun pins s σ H R I h => ?_⟩
  refine Call_ (ld_blt I hg hm (by decide +kernel) (PyProof.Rows.callWith_type1 (T := "enumerate") (thn (ha.run pos pins s σ H _ I h) fun us s1 ⟨vs, H1, I1, r1, q1⟩ => ?_) hs hpl))
  obtain ⟨v, k, ys, ex, hsrc, q1⟩ := q1
  subst ex
  obtain ⟨u, rfl, rv⟩ := vals1 r1
  obtain ⟨C, B, hC, hAt, hlt⟩ := begins_of I1 rv hsrc
  refine enum_begins1 B hC fun h' he hio hk => ?_
  have I2 : Inv X pins σ H1 { s1 with heap := h' } := I1.kept (t' := s1.toks) hk
  refine wpAny_pyIter_enum he ?_
  have nin : ∀ j, s1.heap.objs.size + j ∉ fpS k u := fun j hm => absurd (hlt _ hm) (Nat.not_lt.mpr (Nat.le_add_right _ _))
  refine ⟨s1.heap.objs.size + 1, [s1.heap.objs.size + 1, s1.heap.objs.size], _, _, H1, rfl, I2, turn_enumS rv (Nat.succ_ne_self _) (nin 1) (nin 0), ⟨⟨_, by rw [show (0 : Int) + ((0 : Nat) : Int) = 0 from rfl]; exact he⟩, hAt _ _ hio⟩, fun b hb => ?_, q1⟩
  have e' : b = s1.heap.objs.size + 1 ∨ b = s1.heap.objs.size := by simpa using hb
  have hle : s1.heap.objs.size ≤ b := by
    rcases e' with rfl | rfl
    · exact Nat.le_succ _
    · exact Nat.le_refl _
  exact I1.fpOk hle (I1.hok.fresh hle)

/-! ### zip of two -/
def Itz2 (K : PySem.W.Frag) (k k' : SK) (v v' : V) : It :=
  ⟨fun i H => ∃ vs us, SrcV K H k v vs ∧ SrcV K H k' v' us ∧ i < vs.length ∧ i < us.length,
    fun i H x H' => ∃ T y z, x = .ref T ∧ H T = none ∧ H' = upd H T (.tup [y, z]) ∧ (∀ vs, SrcV K H k v vs → vs[i]? = some y) ∧ ∀ us, SrcV K H k' v' us → us[i]? = some z,
    fun i H => ∃ vs us, SrcV K H k v vs ∧ SrcV K H k' v' us ∧ i = min vs.length us.length⟩
theorem turn_zipS {P : Program} {w : World} {K : PySem.W.Frag} {elts : List Expr} {kk : Nat} {tpos : Pos} {k k' : SK} {v v' : V} {u u' : Value} {N : Addr} (rv : RelV v u) (rv' : RelV v' u') (h1 : ∀ b ∈ fpS k u, b < N) (h2 : ∀ b ∈ fpS k' u', b < N) :
    Turn P w K (.Tuple elts kk tpos) (Itz2 K k k' v v') [N + 4, N + 2, N + 3, N, N + 1] (N + 4) (fun i h => IsZip h (N + 4) (N + 2) (N + 3) .none ∧ IsTupOf2 h (N + 2) (.ref N) (.ref (N + 1)) ∧ (∃ a1 a2, IsTupOf2 h (N + 3) a1 a2) ∧ ItAt k u N i h ∧ ItAt k' u' (N + 1) i h) where
  mem := by simp
  obj := fun i h st b hb => by
    obtain ⟨hz, hTI, ⟨x, y, hTO⟩, ha, hb'⟩ := st
    have e' : b = N + 4 ∨ b = N + 2 ∨ b = N + 3 ∨ b = N ∨ b = N + 1 := by simpa using hb
    rcases e' with q | q | q | q | q
    · rw [q]; exact ⟨_, hz, fun v z => nomatch z⟩
    · rw [q]; exact ⟨_, hTI, fun v z => nomatch z⟩
    · rw [q]; exact ⟨_, hTO, fun v z => nomatch z⟩
    · rw [q]; exact itAt_obj ha
    · rw [q]; exact itAt_obj hb'
  keep := fun i h h' st kp => by
    obtain ⟨hz, hTI, ⟨x, y, hTO⟩, ha, hb⟩ := st
    exact ⟨kp _ (by simp) _ hz, kp _ (by simp) _ hTI, ⟨x, y, kp _ (by simp) _ hTO⟩, itAt_at ha fun o q => kp _ (by simp) o q, itAt_at hb fun o q => kp _ (by simp) o q⟩
  item := by
    intro X hP hw hK hc i pins s σ H E I hf st hg
    subst hP hw hK
    obtain ⟨vs, us, hs, hs', hlt, hlt'⟩ := hg
    obtain ⟨hz, hTI, hTO, ha, hb⟩ := st
    obtain ⟨Pd, St, D, st0, st1, pd⟩ := draws_of (P := X.prog) (w := X.w) (A := X.A.in1) (it := N) (I.ok.hd hc) I rv hs (fun z => absurd (h1 _ z) (Nat.lt_irrefl _))
    obtain ⟨Pd', St', D', st0', st1', pd'⟩ := draws_of (P := X.prog) (w := X.w) (A := X.A.in1) (it := N + 1) (I.ok.hd hc) I rv' hs' (fun z => absurd (Nat.lt_of_succ_lt (h2 _ z)) (Nat.lt_irrefl _))
    have Gn := GoesN.zip2 (elts := elts) (x1 := kk) (pos := tpos) (zip_sep2 h1 h2) D D'
    refine thn (Gn.goes i s (fun x s2 => ∃ y H', Inv X pins σ H' s2 ∧ RelV y x ∧ (Itz2 X.K k k' v v').yld i H y H' ∧ (IsZip s2.heap (N + 4) (N + 2) (N + 3) .none ∧ IsTupOf2 s2.heap (N + 2) (.ref N) (.ref (N + 1)) ∧ (∃ a1 a2, IsTupOf2 s2.heap (N + 3) a1 a2) ∧ ItAt k u N (i + 1) s2.heap ∧ ItAt k' u' (N + 1) (i + 1) s2.heap) ∧ ∀ b ∈ [N + 4, N + 2, N + 3, N, N + 1], H' b = none) E (by omega) ⟨hz, hTI, hTO, st0 i ha, st0' i hb⟩ fun x h' tk hY hSt hk htk => ?_) fun r s1 hr => hr
    obtain ⟨T, x1, x2, rfl, hT, hx1, hx2, hT2⟩ := hY
    obtain ⟨y1, hy1, ry1⟩ := pd i x1 hx1
    obtain ⟨y2, hy2, ry2⟩ := pd' i x2 hx2
    have new : ObjOk X.prog X.w (upd H T (.tup [y1, y2])) h' T (.tup [y1, y2]) := ⟨by show 2 ≤ sizeLine; decide, [x1, x2], .cons ry1 (.cons ry2 .nil), hT2⟩
    have I1 := I.turnedNew (t' := tk) (ch := [N + 4, N + 3, N, N + 1]) (fun b o hb q => hk b o hb q) (fun b hb => hf b (by
      have e' : b = N + 4 ∨ b = N + 3 ∨ b = N ∨ b = N + 1 := by simpa using hb
      rcases e' with q | q | q | q <;> simp [q])) hT new
    refine ⟨.ref T, _, I1, rfl, ⟨T, y1, y2, rfl, I.hok.fresh hT, rfl, fun ws hw => ?_, fun ws hw => ?_⟩, ⟨hSt.1, hSt.2.1, hSt.2.2.1, st1 _ _ hSt.2.2.2.1, st1' _ _ hSt.2.2.2.2⟩, fun b hb => ?_⟩
    · rw [srcV_inj I hw hs]
      exact hy1
    · rw [srcV_inj I hw hs']
      exact hy2
    · have hl : b < s.heap.objs.size := by
        have e' : b = N + 4 ∨ b = N + 2 ∨ b = N + 3 ∨ b = N ∨ b = N + 1 := by simpa using hb
        have h4 : N + 4 < s.heap.objs.size := Heap.lt_size hz
        rcases e' with rfl | rfl | rfl | rfl | rfl
        · exact h4
        · exact Nat.lt_trans (Nat.add_lt_add_left (by decide) N) h4
        · exact Nat.lt_trans (Nat.add_lt_add_left (by decide) N) h4
        · exact Nat.lt_of_le_of_lt (Nat.le_add_right _ 4) h4
        · exact Nat.lt_trans (Nat.add_lt_add_left (by decide) N) h4
      rw [upd_ne (Nat.ne_of_lt (Nat.lt_of_lt_of_le hl hT))]
      exact (hf b hb).1
  done := by
    intro X hP hw hK hc i pins s σ H E I hf st hg
    subst hP hw hK
    obtain ⟨vs, us, hs, hs', rfl⟩ := hg
    obtain ⟨hz, hTI, hTO, ha, hb⟩ := st
    obtain ⟨Pd, St, D, st0, st1, pd⟩ := draws_of (P := X.prog) (w := X.w) (A := X.A.in1) (it := N) (I.ok.hd hc) I rv hs (fun z => absurd (h1 _ z) (Nat.lt_irrefl _))
    obtain ⟨Pd', St', D', st0', st1', pd'⟩ := draws_of (P := X.prog) (w := X.w) (A := X.A.in1) (it := N + 1) (I.ok.hd hc) I rv' hs' (fun z => absurd (Nat.lt_of_succ_lt (h2 _ z)) (Nat.lt_irrefl _))
    have Gn := GoesN.zip2 (elts := elts) (x1 := kk) (pos := tpos) (zip_sep2 h1 h2) D D'
    exact Gn.stops s (fun s1 => Inv X pins σ H s1) E ⟨hz, hTI, hTO, st0 _ ha, st0' _ hb⟩ fun h' tk hk htk => I.turnedL (t' := tk) (ch := [N + 4, N + 3, N, N + 1]) (fun b o hb q => hk b o hb q) (fun b hb => hf b (by
      have e' : b = N + 4 ∨ b = N + 3 ∨ b = N ∨ b = N + 1 := by simpa using hb
      rcases e' with q | q | q | q <;> simp [q]))
  self := fun A i s Q E st h => wpAny_pyIter_zip st.1 h
def iZipS (K : PySem.W.Frag) (ta : TA) : TI := fun σ H R => ta σ H fun vs H1 => ∃ v v' k k' us us', vs = [v, v'] ∧ SrcV K H1 k v us ∧ SrcV K H1 k' v' us' ∧ R (Itz2 K k k' v v') H1
theorem pi_zipS {X : Cx} {e e2 : Expr} {ta : TA} {p pos tpos : Pos} {elts : List Expr} {kk : Nat} (hm : X.mg "zip" = none) (ha : PA X [e, e2] ta) (hg : Gl X "zip" := by rfl)
    (hs : starEach [e, e2] X.env = (false, eval e X.env) :: starEach [e2] X.env := by rfl) (hpl : (backTo pos (starEach [e2] X.env)).any (·.1) = false := by rfl) :
    PI X (.Tuple elts kk tpos) (.Call (.Name "zip" p) [e, e2] [] pos) (iZipS X.K ta) := by
  refine ⟨fun pins s σ H R I h => ?_⟩
  refine Call_ (ld_blt I hg hm PyProof.Rows.boot_zip (PyProof.Rows.callWith_type1 (thn (ha.run pos pins s σ H _ I h) fun us s1 ⟨vs, H1, I1, r1, q1⟩ => ?_) hs hpl))
  obtain ⟨v, v', k, k', ys, ys', ex, hsrc, hsrc', q1⟩ := q1
  subst ex
  obtain ⟨u, u', rfl, rv, rv'⟩ := vals2 r1
  obtain ⟨C, B, hC, hAt, hlt⟩ := begins_of I1 rv hsrc
  obtain ⟨C', B', hC', hAt', hlt'⟩ := begins_of I1 rv' hsrc'
  refine zip_begins2 B B' hC hC' fun h' hz hTI hTO ho1 ho2 hsz hk => wpAny_pyIter_zip hz ?_
  have I2 : Inv X pins σ H1 { s1 with heap := h' } := I1.kept (t' := s1.toks) hk
  refine ⟨s1.heap.objs.size + 4, [s1.heap.objs.size + 4, s1.heap.objs.size + 2, s1.heap.objs.size + 3, s1.heap.objs.size, s1.heap.objs.size + 1], _, _, H1, rfl, I2, turn_zipS rv rv' hlt hlt', ⟨hz, hTI, ⟨_, _, hTO⟩, hAt _ _ ho1, hAt' _ _ ho2⟩, fun c hcm => ?_, q1⟩
  have e' : c = s1.heap.objs.size + 4 ∨ c = s1.heap.objs.size + 2 ∨ c = s1.heap.objs.size + 3 ∨ c = s1.heap.objs.size ∨ c = s1.heap.objs.size + 1 := by simpa using hcm
  have hle : s1.heap.objs.size ≤ c := by
    rcases e' with z | z | z | z | z
    · rw [z]; exact Nat.le_add_right _ _
    · rw [z]; exact Nat.le_add_right _ _
    · rw [z]; exact Nat.le_add_right _ _
    · rw [z]; exact Nat.le_refl _
    · rw [z]; exact Nat.le_add_right _ _
  exact I1.fpOk hle (I1.hok.fresh hle)
end ML


set_option Elab.async false
set_option linter.all false
set_option maxRecDepth 100000
set_option autoImplicit false
set_option maxHeartbeats 4000000
namespace ML
open PySem PySem.Spec PyProof.Rows L2

/-! ## what a loop walks: its items, and the lists of the store that must stay meanwhile -/
structure Src where
  items : List D
  deps : List (Nat × List D)
def Src.live (c : Src) (S : Sto) : Bool := c.deps.all fun p => match S[p.1]? with
  | some (.lst ds) => beqL ds p.2
  | _ => false
structure SrcOk (K : PySem.W.Frag) (mg : Str → Option Value) (g0 : G) (c : Src) (J : It) : Prop where
  goes : ∀ (i : Nat) (H : Hp) (S : Sto) (g : G), g0.ext g → Rel K mg g H S → c.live S = true → i < c.items.length → J.go i H
  stops : ∀ (H : Hp) (S : Sto) (g : G), g0.ext g → Rel K mg g H S → c.live S = true → J.stop c.items.length H
  yields : ∀ (i : Nat) (H : Hp) (v : V) (H' : Hp) (S : Sto) (g : G) (d : D), g0.ext g → Rel K mg g H S → c.live S = true → c.items[i]? = some d → J.yld i H v H' → ∃ g', g.le g' ∧ Rel K mg g' H' S ∧ Rep K mg g' d v
section
variable {K : PySem.W.Frag} {mg : Str → Option Value} {g0 g : G} {H : Hp} {S : Sto}
theorem SrcOk.le {g1 : G} {c : Src} {J : It} (h : SrcOk K mg g0 c J) (l : g0.le g1) : SrcOk K mg g1 c J :=
  ⟨fun i H S g k => h.goes i H S g (l.ext.trans k), fun H S g k => h.stops H S g (l.ext.trans k), fun i H v H' S g d k => h.yields i H v H' S g d (l.ext.trans k)⟩
/-- where a value is drawn from, and what must stay -/
def drawn (S : Sto) : D → Option Src
  | .tup ds => some ⟨ds, []⟩
  | .str z => some ⟨z.cps.toList.map fun c => .str ⟨#[c]⟩, []⟩
  | .lst ds => some ⟨ds, []⟩
  | .rol ds => some ⟨ds, []⟩
  | .ref n => match S[n]? with
    | some (.lst ds) => some ⟨ds, [(n, ds)]⟩
    | _ => none
  | _ => none
theorem live_dep {n : Nat} {ds : List D} {c : Src} (h : c.live S = true) (m : (n, ds) ∈ c.deps) : S[n]? = some (.lst ds) := by
  unfold Src.live at h
  rw [List.all_eq_true] at h
  have q := h _ m
  split at q
  · rename_i es he
    rw [he, of_beqL q]
  · cases q
theorem repChars {g : G} : ∀ l : List Nat, RepL K mg g (l.map fun c => D.str ⟨#[c]⟩) (l.map fun c => V.str ⟨#[c]⟩)
  | [] => .nil
  | _ :: l => .cons (.str _) (repChars l)
/-- the items of a drawn value stand at every later moment at which the deps stand -/
theorem drawn_src {d : D} {v : V} {c : Src} (rl : Rel K mg g0 H S) (r : Rep K mg g0 d v) (h : drawn S d = some c) :
    ∃ k, ∀ (g : G) (H' : Hp) (S' : Sto), g0.ext g → Rel K mg g H' S' → c.deps.all (fun p => match S'[p.1]? with | some (.lst ds) => beqL ds p.2 | _ => false) = true → ∃ vs, SrcV K H' k v vs ∧ RepL K mg g c.items vs := by
  cases d with
  | tup ds =>
    simp only [drawn, Option.some.injEq] at h
    subst h
    refine ⟨.t, fun g H' S' l rl' _ => ?_⟩
    obtain ⟨a, vs, rfl, h1, h2⟩ := tup_rep rl' (r.ext l)
    exact ⟨vs, ⟨a, rfl, h1⟩, h2⟩
  | str z =>
    simp only [drawn, Option.some.injEq] at h
    subst h
    cases r
    exact ⟨.s, fun g H' S' l rl' _ => ⟨_, ⟨z, rfl, rfl⟩, repChars _⟩⟩
  | lst ds =>
    simp only [drawn, Option.some.injEq] at h
    subst h
    refine ⟨.l, fun g H' S' l rl' _ => ?_⟩
    obtain ⟨a, vs, rfl, h1, h2⟩ := seqOf_rep (ds := ds) rl' (r.ext l) rfl
    exact ⟨vs, ⟨a, rfl, h1⟩, h2⟩
  | rol ds =>
    simp only [drawn, Option.some.injEq] at h
    subst h
    refine ⟨.l, fun g H' S' l rl' _ => ?_⟩
    obtain ⟨a, vs, rfl, h1, h2⟩ := seqOf_rep (ds := ds) rl' (r.ext l) rfl
    exact ⟨vs, ⟨a, rfl, h1⟩, h2⟩
  | ref n =>
    simp only [drawn] at h
    split at h
    · rename_i ds hn
      simp only [Option.some.injEq] at h
      subst h
      refine ⟨.l, fun g H' S' l rl' hl => ?_⟩
      have e : S'[n]? = some (.lst ds) := live_dep (c := ⟨ds, [(n, ds)]⟩) hl (by simp)
      obtain ⟨a, vs, rfl, h1, h2⟩ := seqOf_rep (ds := ds) rl' (r.ext l) (by simp only [seqOf, e])
      exact ⟨vs, ⟨a, rfl, h1⟩, h2⟩
    · cases h
  | _ => simp [drawn] at h
theorem drawn_live {S : Sto} {d : D} {c : Src} (h : drawn S d = some c) : c.live S = true := by
  cases d with
  | tup ds => simp only [drawn, Option.some.injEq] at h; subst h; rfl
  | str ds => simp only [drawn, Option.some.injEq] at h; subst h; rfl
  | lst ds => simp only [drawn, Option.some.injEq] at h; subst h; rfl
  | rol ds => simp only [drawn, Option.some.injEq] at h; subst h; rfl
  | ref n =>
    simp only [drawn] at h
    split at h
    · rename_i ds hn
      simp only [Option.some.injEq] at h
      subst h
      simp only [Src.live, List.all_cons, List.all_nil, Bool.and_true, hn]
      exact beqL_self ds
    · cases h
  | _ => simp [drawn] at h
/-- the judgement: what is walked -/
def IM (X : Cx) (W : WX) (tg iter : Expr) (m : M Src) : Prop := ∀ (g : G) (σ : Sl) (H : Hp) (ev : Ev) (S : Sto) (R : It → Hp → Prop), Rel X.K X.mg g H S → EvR X.K X.mg X.pn g ev σ → Post X.K X.mg (fun g c J => SrcOk X.K X.mg g c J) W σ g (m ev S) R →
  ∀ (pins : List (Addr × Obj)) (s : Shared), Inv X pins σ H s → wpAny (model X.prog X.w) X.A (eval iter X.env) (fun v s1 => wpAny (model X.prog X.w) X.A (pyIter v) (PIE X pins σ tg R) X.xe s1) X.xe s
theorem imP {X : Cx} {W : WX} {tg iter : Expr} {m : M Src} (h : IM X W tg iter m) : ∀ (g : G) (ev : Ev) (S : Sto), PI X tg iter (fun σ H R => Rel X.K X.mg g H S ∧ EvR X.K X.mg X.pn g ev σ ∧ Post X.K X.mg (fun g c J => SrcOk X.K X.mg g c J) W σ g (m ev S) R) :=
  fun g ev S => ⟨fun pins s σ H R I q => h g σ H ev S R q.1 q.2.1 q.2.2 pins s I⟩
end
def asSrc : D → Sto → R Src := fun d S => match drawn S d with
  | some c => .ok c S
  | none => .no
def mSrc (ma : M D) : M Src := fun ev S => (ma ev S).bind asSrc
section
variable {X : Cx} {W : WX} {tg iter a b : Expr} {ma mb mc : M D} {pos p0 tpos : Pos} {ml : M (List D)}
theorem pi_or {w1 w2 : TI} (h1 : PI X tg iter w1) (h2 : PI X tg iter w2) : PI X tg iter (fun σ H R => w1 σ H R ∨ w2 σ H R) := ⟨fun pins s σ H R I q => by
  rcases q with q | q
  · exact h1.run pins s σ H R I q
  · exact h2.run pins s σ H R I q⟩
theorem srcOk_list {g : G} {c : Src} {a : Addr} (hk : ∀ (g' : G) (H' : Hp) (S' : Sto), g.ext g' → Rel X.K X.mg g' H' S' → c.live S' = true → ∃ vs, SqL X.K H' a vs ∧ RepL X.K X.mg g' c.items vs) : SrcOk X.K X.mg g c (Itl X.K a) := by
  refine ⟨fun i H' S' g' l rl hl hi => ?_, fun H' S' g' l rl hl => ?_, fun i H' w H2 S' g' d l rl hl hi hy => ?_⟩
  · obtain ⟨vs, h1, h2⟩ := hk g' H' S' l rl hl
    exact walk_list.goes i H' (by rw [← h2.length]; exact hi) h1
  · obtain ⟨vs, h1, h2⟩ := hk g' H' S' l rl hl
    rw [h2.length]
    exact walk_list.stops H' h1
  · obtain ⟨vs, h1, h2⟩ := hk g' H' S' l rl hl
    obtain ⟨w', e1, e2⟩ := h2.get hi
    have hlt : i < vs.length := (List.getElem?_eq_some_iff.mp e1).1
    obtain ⟨rfl, e3⟩ := walk_list.yields i H' w H2 hlt h1 hy
    rw [e1] at e3
    cases e3
    exact ⟨g', G.le.refl g', rl, e2⟩
theorem srcOk_tup {g : G} {c : Src} {a : Addr} (hk : ∀ (g' : G) (H' : Hp) (S' : Sto), g.ext g' → Rel X.K X.mg g' H' S' → c.live S' = true → ∃ vs, SqT X.K H' a vs ∧ RepL X.K X.mg g' c.items vs) : SrcOk X.K X.mg g c (Itt X.K a) := by
  refine ⟨fun i H' S' g' l rl hl hi => ?_, fun H' S' g' l rl hl => ?_, fun i H' w H2 S' g' d l rl hl hi hy => ?_⟩
  · obtain ⟨vs, h1, h2⟩ := hk g' H' S' l rl hl
    exact walk_tup.goes i H' (by rw [← h2.length]; exact hi) h1
  · obtain ⟨vs, h1, h2⟩ := hk g' H' S' l rl hl
    rw [h2.length]
    exact walk_tup.stops H' h1
  · obtain ⟨vs, h1, h2⟩ := hk g' H' S' l rl hl
    obtain ⟨w', e1, e2⟩ := h2.get hi
    have hlt : i < vs.length := (List.getElem?_eq_some_iff.mp e1).1
    obtain ⟨rfl, e3⟩ := walk_tup.yields i H' w H2 hlt h1 hy
    rw [e1] at e3
    cases e3
    exact ⟨g', G.le.refl g', rl, e2⟩
/-- any list, tuple or text -/
theorem im_seq (ha : EM X W a ma) : IM X W tg a (mSrc ma) := by
  intro g σ H ev S R rl er hP pins s I
  have ho := PI.run (pi_or (pi_or (pi_list (tg := tg) (peW X a)) (pi_tup (tg := tg) (peW X a))) (pi_str (tg := tg) (peW X a))) pins s σ H R I
  cases e : ma ev S with
  | ok d S1 =>
    have hP2 : Post X.K X.mg (fun g c J => SrcOk X.K X.mg g c J) W σ g (asSrc d S1) R := by
      have q : Post X.K X.mg (fun g c J => SrcOk X.K X.mg g c J) W σ g ((ma ev S).bind asSrc) R := hP
      rw [e] at q
      exact q
    have ee := ha g σ H ev S
    rw [e] at ee
    unfold asSrc at hP2
    cases ed : drawn S1 d with
    | none => rw [ed] at hP2; exact hP2.elim
    | some c =>
      rw [ed] at hP2
      have lst : (∀ (g1 : G) (v : V) (H1 : Hp), g.le g1 → Rel X.K X.mg g1 H1 S1 → Rep X.K X.mg g1 d v → ∃ a, v = .ref a ∧ (∃ vs, SqL X.K H1 a vs) ∧ R (Itl X.K a) H1) → wpAny (model X.prog X.w) X.A (eval a X.env) (fun v s1 => wpAny (model X.prog X.w) X.A (pyIter v) (PIE X pins σ tg R) X.xe s1) X.xe s :=
        fun q => ho (.inl (.inl (ee _ rl er fun g1 v H1 l1 rl1 rx => q g1 v H1 l1 rl1 rx)))
      have tup : (∀ (g1 : G) (v : V) (H1 : Hp), g.le g1 → Rel X.K X.mg g1 H1 S1 → Rep X.K X.mg g1 d v → ∃ a, v = .ref a ∧ (∃ vs, SqT X.K H1 a vs) ∧ R (Itt X.K a) H1) → wpAny (model X.prog X.w) X.A (eval a X.env) (fun v s1 => wpAny (model X.prog X.w) X.A (pyIter v) (PIE X pins σ tg R) X.xe s1) X.xe s :=
        fun q => ho (.inl (.inr (ee _ rl er fun g1 v H1 l1 rl1 rx => q g1 v H1 l1 rl1 rx)))
      have isL : (∃ ds, seqOf S1 d = some ds) → (∀ ds, seqOf S1 d = some ds → ∀ S', c.live S' = true → seqOf S' d = some ds ∧ c.items = ds) → wpAny (model X.prog X.w) X.A (eval a X.env) (fun v s1 => wpAny (model X.prog X.w) X.A (pyIter v) (PIE X pins σ tg R) X.xe s1) X.xe s := by
        rintro ⟨ds, hd⟩ hs
        refine lst fun g1 v H1 l1 rl1 rx => ?_
        obtain ⟨p, vs, rfl, h1, h2⟩ := seqOf_rep rl1 rx hd
        refine ⟨p, rfl, ⟨vs, h1⟩, hP2 g1 _ H1 l1 rl1 (srcOk_list fun g' H' S' l' rl' hl' => ?_)⟩
        obtain ⟨e1, e2⟩ := hs ds hd S' hl'
        obtain ⟨p', vs', e3, h3, h4⟩ := seqOf_rep rl' (rx.ext l') e1
        cases e3
        rw [e2]
        exact ⟨vs', h3, h4⟩
      cases d with
      | tup ds =>
        simp only [drawn, Option.some.injEq] at ed
        subst ed
        refine tup fun g1 v H1 l1 rl1 rx => ?_
        obtain ⟨p, vs, rfl, h1, h2⟩ := tup_rep rl1 rx
        refine ⟨p, rfl, ⟨vs, h1⟩, hP2 g1 _ H1 l1 rl1 (srcOk_tup fun g' H' S' l' rl' hl' => ?_)⟩
        obtain ⟨p', vs', e3, h3, h4⟩ := tup_rep rl' (rx.ext l')
        cases e3
        exact ⟨vs', h3, h4⟩
      | str z =>
        simp only [drawn, Option.some.injEq] at ed
        subst ed
        refine ho (.inr (ee _ rl er fun g1 v H1 l1 rl1 rx => ?_))
        cases rx
        refine ⟨z, rfl, hP2 g1 _ H1 l1 rl1 ⟨fun i H' S' g' l rl hl hi => ?_, fun H' S' g' l rl hl => ?_, fun i H' w H2 S' g' d l rl hl hi hy => ?_⟩⟩
        · exact walk_str.goes i H' (by simpa using hi) trivial
        · have e : (z.cps.toList.map fun c => D.str ⟨#[c]⟩).length = z.cps.size := by rw [List.length_map, Array.length_toList]
          show (Its z).stop (z.cps.toList.map fun c => D.str ⟨#[c]⟩).length H'
          rw [e]
          exact walk_str.stops H' trivial
        · have hi' : (z.cps.toList.map fun c => D.str ⟨#[c]⟩)[i]? = some d := hi
          rw [List.getElem?_map, Array.getElem?_toList] at hi'
          cases e0 : z.cps[i]? with
          | none => rw [e0] at hi'; cases hi'
          | some c =>
            rw [e0] at hi'
            simp only [Option.map_some, Option.some.injEq] at hi'
            subst hi'
            have hlt : i < z.cps.size := (Array.getElem?_eq_some_iff.mp e0).1
            obtain ⟨rfl, c', e3, rfl⟩ := walk_str.yields i H' w H2 hlt trivial hy
            rw [e0] at e3
            cases e3
            exact ⟨g', G.le.refl g', rl, .str _⟩
      | lst ds =>
        simp only [drawn, Option.some.injEq] at ed
        subst ed
        exact isL ⟨ds, rfl⟩ (fun es he S' _ => ⟨he, by simpa [seqOf] using he⟩)
      | rol ds =>
        simp only [drawn, Option.some.injEq] at ed
        subst ed
        exact isL ⟨ds, rfl⟩ (fun es he S' _ => ⟨he, by simpa [seqOf] using he⟩)
      | ref n =>
        simp only [drawn] at ed
        split at ed
        · rename_i ds hn
          simp only [Option.some.injEq] at ed
          subst ed
          refine isL ⟨ds, by simp only [seqOf, hn]⟩ (fun es he S' hl' => ?_)
          have e1 : S'[n]? = some (.lst ds) := live_dep hl' (by simp)
          simp only [seqOf, hn, Option.some.injEq] at he
          subst he
          exact ⟨by simp only [seqOf, e1], rfl⟩
        · cases ed
      | _ => simp [drawn] at ed
  | ex x S1 =>
    have hx := ha g σ H ev S
    rw [e] at hx
    have hP2 : Post X.K X.mg (fun g c J => SrcOk X.K X.mg g c J) W σ g ((ma ev S).bind asSrc) R := hP
    rw [e] at hP2
    refine ho (.inl (.inl (hx _ rl er hP2)))
  | no =>
    have hP2 : Post X.K X.mg (fun g c J => SrcOk X.K X.mg g c J) W σ g ((ma ev S).bind asSrc) R := hP
    rw [e] at hP2
    exact hP2.elim

/-! ### ranges -/
def rangeD (lo : Int) (n : Nat) : List D := (List.range n).map fun (i : Nat) => D.int (lo + i)
def inR (i : Int) : Prop := -(2 ^ 62) ≤ i ∧ i < 2 ^ 62
instance (i : Int) : Decidable (inR i) := by unfold inR; infer_instance
def asRange1 : List D → Sto → R Src := fun xs S => match xs with
  | [.int j] => if inR j then .ok ⟨rangeD 0 j.toNat, []⟩ S else .no
  | _ => .no
def asRange2 : List D → Sto → R Src := fun xs S => match xs with
  | [.int i, .int j] => if inR i ∧ inR j then .ok ⟨rangeD i (j - i).toNat, []⟩ S else .no
  | _ => .no
def mRange1 (ml : M (List D)) : M Src := fun ev S => (ml ev S).bind asRange1
def mRange2 (ml : M (List D)) : M Src := fun ev S => (ml ev S).bind asRange2
theorem srcOk_range {g : G} {lo : Int} {n : Nat} : SrcOk X.K X.mg g ⟨rangeD lo n, []⟩ (Itr lo n) := by
  have e : (rangeD lo n).length = n := by unfold rangeD; rw [List.length_map, List.length_range]
  refine ⟨fun i H' S' g' l rl hl hi => walk_range.goes i H' (by rw [← e]; exact hi) trivial, fun H' S' g' l rl hl => ?_, fun i H' w H2 S' g' d l rl hl hi hy => ?_⟩
  · show (Itr lo n).stop (rangeD lo n).length H'
    rw [e]
    exact walk_range.stops H' trivial
  · have hi' : (rangeD lo n)[i]? = some d := hi
    have hlt : i < n := by
      have := (List.getElem?_eq_some_iff.mp hi').1
      rwa [e] at this
    obtain ⟨rfl, rfl⟩ := walk_range.yields i H' w H2 hlt trivial hy
    unfold rangeD at hi'
    rw [List.getElem?_map, List.getElem?_range hlt] at hi'
    simp only [Option.map_some, Option.some.injEq] at hi'
    subst hi'
    exact ⟨g', G.le.refl g', rl, .int _⟩
theorem im_range1 (hm : X.mg "range" = none) (ha : AM X W [a] ml) (hg : Gl X "range" := by rfl) (hs : starEach [a] X.env = [(false, eval a X.env)] := by rfl) : IM X W tg (.Call (.Name "range" p0) [a] [] pos) (mRange1 ml) := by
  intro g σ H ev S R rl er hP pins s I
  refine (pi_range1 hg hm (paW X [a]) hs).run pins s σ H R I (ha g σ H ev S _ rl er (Post.bind hP fun g1 xs S1 vs H1 l1 rl1 rx hP1 => ?_))
  unfold asRange1 at hP1
  split at hP1
  · split at hP1
    · rename_i j hz
      obtain ⟨v, rfl, r⟩ := rep1 rx
      cases r
      exact ⟨_, rfl, hz.1, hz.2, hP1 g1 _ H1 (G.le.refl g1) rl1 srcOk_range⟩
    · exact hP1.elim
  · exact hP1.elim
theorem im_range2 (hm : X.mg "range" = none) (ha : AM X W [a, b] ml) (hg : Gl X "range" := by rfl) (hs : starEach [a, b] X.env = [(false, eval a X.env), (false, eval b X.env)] := by rfl) (hs2 : starEach [b] X.env = [(false, eval b X.env)] := by rfl) :
    IM X W tg (.Call (.Name "range" p0) [a, b] [] pos) (mRange2 ml) := by
  intro g σ H ev S R rl er hP pins s I
  refine (pi_range2 hg hm (paW X [a, b]) hs hs2).run pins s σ H R I (ha g σ H ev S _ rl er (Post.bind hP fun g1 xs S1 vs H1 l1 rl1 rx hP1 => ?_))
  unfold asRange2 at hP1
  split at hP1
  · split at hP1
    · rename_i j hz
      obtain ⟨v, u, rfl, r, r'⟩ := rep2 rx
      cases r
      cases r'
      exact ⟨_, _, rfl, ⟨hz.1.1, hz.1.2, hz.2.1, hz.2.2⟩, hP1 g1 _ H1 (G.le.refl g1) rl1 srcOk_range⟩
    · exact hP1.elim
  · exact hP1.elim

/-! ### enumerate, zip -/
def enumD : Nat → List D → List D
  | _, [] => []
  | n, d :: ds => .tup [.int n, d] :: enumD (n + 1) ds
def zipD : List D → List D → List D
  | a :: as, b :: bs => .tup [a, b] :: zipD as bs
  | _, _ => []
def asEnum : List D → Sto → R Src := fun xs S => match xs with
  | [d] => match drawn S d with
    | some c => .ok ⟨enumD 0 c.items, c.deps⟩ S
    | none => .no
  | _ => .no
def asZip : List D → Sto → R Src := fun xs S => match xs with
  | [d, e] => match drawn S d, drawn S e with
    | some c, some c' => .ok ⟨zipD c.items c'.items, c.deps ++ c'.deps⟩ S
    | _, _ => .no
  | _ => .no
def mEnum (ml : M (List D)) : M Src := fun ev S => (ml ev S).bind asEnum
def mZip (ml : M (List D)) : M Src := fun ev S => (ml ev S).bind asZip
theorem enumD_len : ∀ (ds : List D) (n : Nat), (enumD n ds).length = ds.length
  | [], _ => rfl
  | d :: ds, n => by show (enumD (n + 1) ds).length + 1 = ds.length + 1; rw [enumD_len ds]
theorem enumD_get : ∀ (ds : List D) (n i : Nat) (d : D), (enumD n ds)[i]? = some d → ∃ e, ds[i]? = some e ∧ d = .tup [.int ((n + i : Nat) : Int), e]
  | [], _, _, _, h => by simp [enumD] at h
  | x :: ds, n, 0, d, h => by simp [enumD] at h; exact ⟨x, rfl, h.symm⟩
  | x :: ds, n, i + 1, d, h => by
    obtain ⟨e, e1, e2⟩ := enumD_get ds (n + 1) i d (by simpa [enumD] using h)
    exact ⟨e, by simpa using e1, by rw [e2, Nat.add_assoc, Nat.add_comm 1 i]⟩
theorem zipD_len : ∀ (as bs : List D), (zipD as bs).length = min as.length bs.length
  | [], _ => by simp [zipD]
  | _ :: _, [] => by simp [zipD]
  | a :: as, b :: bs => by show (zipD as bs).length + 1 = _; rw [zipD_len as bs]; simp only [List.length_cons]; omega
theorem zipD_get : ∀ (as bs : List D) (i : Nat) (d : D), (zipD as bs)[i]? = some d → ∃ x y, as[i]? = some x ∧ bs[i]? = some y ∧ d = .tup [x, y]
  | [], _, _, _, h => by simp [zipD] at h
  | _ :: _, [], _, _, h => by simp [zipD] at h
  | a :: as, b :: bs, 0, d, h => by simp [zipD] at h; exact ⟨a, b, rfl, rfl, h.symm⟩
  | a :: as, b :: bs, i + 1, d, h => by
    obtain ⟨x, y, e1, e2, e3⟩ := zipD_get as bs i d (by simpa [zipD] using h)
    exact ⟨x, y, by simpa using e1, by simpa using e2, e3⟩
theorem rep_pair {K : PySem.W.Frag} {mg : Str → Option Value} {g : G} {H : Hp} {S : Sto} {x y : D} {v u : V} {T : Addr} (rl : Rel K mg g H S) (rx : Rep K mg g x v) (ry : Rep K mg g y u) (hT : H T = none) :
    ∃ g', g.le g' ∧ Rel K mg g' (upd H T (.tup [v, u])) S ∧ Rep K mg g' (.tup [x, y]) (.ref T) := by
  have l : g.le (g.known T (.tup [v, u])) := G.le_known (rl.fnone hT)
  exact ⟨_, l, rl.fresh hT _, .tup (SqT.of upd_same) (.cons (rx.le l) (.cons (ry.le l) .nil))⟩
theorem im_enum {elts : List Expr} {kk : Nat} (hm : X.mg "enumerate" = none) (ha : AM X W [a] ml) (hg : Gl X "enumerate" := by rfl)
    (hs : starEach [a] X.env = (false, eval a X.env) :: starEach [] X.env := by rfl) (hpl : (backTo pos (starEach [] X.env)).any (·.1) = false := by rfl) :
    IM X W (.Tuple elts kk tpos) (.Call (.Name "enumerate" p0) [a] [] pos) (mEnum ml) := by
  intro g σ H ev S R rl er hP pins s I
  refine (pi_enumS hm (paW X [a]) hg hs hpl).run pins s σ H R I (ha g σ H ev S _ rl er (Post.bind hP fun g1 xs S1 vs H1 l1 rl1 rx hP1 => ?_))
  unfold asEnum at hP1
  split at hP1
  · rename_i d
    obtain ⟨v, rfl, r⟩ := rep1 rx
    cases ed : drawn S1 d with
    | none => rw [ed] at hP1; exact hP1.elim
    | some c =>
      rw [ed] at hP1
      obtain ⟨k, hk⟩ := drawn_src rl1 r ed
      have cur : ∃ vs, SrcV X.K H1 k v vs := by
        have hl : c.deps.all (fun p => match S1[p.1]? with | some (.lst ds) => beqL ds p.2 | _ => false) = true := drawn_live ed
        obtain ⟨vs, h1, _⟩ := hk g1 H1 S1 (G.ext.refl g1) rl1 hl
        exact ⟨vs, h1⟩
      obtain ⟨vs0, hv0⟩ := cur
      refine ⟨v, k, vs0, rfl, hv0, hP1 g1 _ H1 (G.le.refl g1) rl1 ⟨fun i H' S' g' l rl' hl hi => ?_, fun H' S' g' l rl' hl => ?_, fun i H' w H2 S' g' d l rl' hl hi hy => ?_⟩⟩
      · obtain ⟨us, h1, h2⟩ := hk g' H' S' l rl' hl
        have hi' : i < (enumD 0 c.items).length := hi
        rw [enumD_len, h2.length] at hi'
        exact ⟨us, h1, hi'⟩
      · obtain ⟨us, h1, h2⟩ := hk g' H' S' l rl' hl
        exact ⟨us, h1, by show (enumD 0 c.items).length = us.length; rw [enumD_len, h2.length]⟩
      · obtain ⟨us, h1, h2⟩ := hk g' H' S' l rl' hl
        obtain ⟨e, e1, rfl⟩ := enumD_get _ _ _ _ hi
        obtain ⟨y', e2, e3⟩ := h2.get e1
        obtain ⟨T, y, rfl, hT, rfl, hy2⟩ := hy
        have e4 := hy2 us h1
        rw [e2] at e4
        cases e4
        have z : ((0 + i : Nat) : Int) = (i : Nat) := by omega
        rw [z]
        exact rep_pair rl' (.int _) e3 hT
  · exact hP1.elim
theorem im_zip {elts : List Expr} {kk : Nat} (hm : X.mg "zip" = none) (ha : AM X W [a, b] ml) (hg : Gl X "zip" := by rfl)
    (hs : starEach [a, b] X.env = (false, eval a X.env) :: starEach [b] X.env := by rfl) (hpl : (backTo pos (starEach [b] X.env)).any (·.1) = false := by rfl) :
    IM X W (.Tuple elts kk tpos) (.Call (.Name "zip" p0) [a, b] [] pos) (mZip ml) := by
  intro g σ H ev S R rl er hP pins s I
  refine (pi_zipS hm (paW X [a, b]) hg hs hpl).run pins s σ H R I (ha g σ H ev S _ rl er (Post.bind hP fun g1 xs S1 vs H1 l1 rl1 rx hP1 => ?_))
  unfold asZip at hP1
  split at hP1
  · rename_i d e
    obtain ⟨v, u, rfl, r, r'⟩ := rep2 rx
    split at hP1
    · rename_i c c' ed ee
      obtain ⟨k, hk⟩ := drawn_src rl1 r ed
      obtain ⟨k', hk'⟩ := drawn_src rl1 r' ee
      obtain ⟨vs0, hv0, _⟩ := hk g1 H1 S1 (G.ext.refl g1) rl1 (drawn_live ed)
      obtain ⟨us0, hu0, _⟩ := hk' g1 H1 S1 (G.ext.refl g1) rl1 (drawn_live ee)
      have both : ∀ (g' : G) (H' : Hp) (S' : Sto), g1.ext g' → Rel X.K X.mg g' H' S' → Src.live ⟨zipD c.items c'.items, c.deps ++ c'.deps⟩ S' = true → ∃ vs us, SrcV X.K H' k v vs ∧ RepL X.K X.mg g' c.items vs ∧ SrcV X.K H' k' u us ∧ RepL X.K X.mg g' c'.items us := by
        intro g' H' S' l rl' hl
        unfold Src.live at hl
        rw [List.all_append, Bool.and_eq_true] at hl
        obtain ⟨vs, h1, h2⟩ := hk g' H' S' l rl' hl.1
        obtain ⟨us, h3, h4⟩ := hk' g' H' S' l rl' hl.2
        exact ⟨vs, us, h1, h2, h3, h4⟩
      refine ⟨v, u, k, k', vs0, us0, rfl, hv0, hu0, hP1 g1 _ H1 (G.le.refl g1) rl1 ⟨fun i H' S' g' l rl' hl hi => ?_, fun H' S' g' l rl' hl => ?_, fun i H' w H2 S' g' d l rl' hl hi hy => ?_⟩⟩
      · obtain ⟨vs, us, h1, h2, h3, h4⟩ := both g' H' S' l rl' hl
        have hi' : i < (zipD c.items c'.items).length := hi
        rw [zipD_len, h2.length, h4.length] at hi'
        exact ⟨vs, us, h1, h3, by omega, by omega⟩
      · obtain ⟨vs, us, h1, h2, h3, h4⟩ := both g' H' S' l rl' hl
        exact ⟨vs, us, h1, h3, by show (zipD c.items c'.items).length = _; rw [zipD_len, h2.length, h4.length]⟩
      · obtain ⟨vs, us, h1, h2, h3, h4⟩ := both g' H' S' l rl' hl
        obtain ⟨x, y, e1, e2, rfl⟩ := zipD_get _ _ _ _ hi
        obtain ⟨x', f1, f2⟩ := h2.get e1
        obtain ⟨y', f3, f4⟩ := h4.get e2
        obtain ⟨T, x2, y2, rfl, hT, rfl, hy1, hy2⟩ := hy
        have e4 := hy1 vs h1
        have e5 := hy2 us h3
        rw [f1] at e4
        rw [f3] at e5
        cases e4
        cases e5
        exact rep_pair rl' f2 f4 hT
    · exact hP1.elim
  · exact hP1.elim
end
end ML


set_option Elab.async false
set_option linter.all false
set_option maxRecDepth 100000
set_option autoImplicit false
set_option maxHeartbeats 4000000
namespace ML
open PySem PySem.Spec PyProof.Rows L2

/-! ## targets -/
theorem wipe_get (σ : Sl) : ∀ (vs : List Nat) (j : Nat), (wipe σ vs)[j]? = if j ∈ vs ∧ j < σ.length then some none else σ[j]?
  | [], j => by simp [wipe]
  | v :: vs, j => by
    unfold wipe
    rw [List.getElem?_set, wipe_length, wipe_get σ vs j]
    by_cases h : v = j
    · subst h
      by_cases hl : v < σ.length
      · simp [hl]
      · simp [hl, List.getElem?_eq_none (Nat.le_of_not_lt hl)]
    · simp only [if_neg h, List.mem_cons]
      have : j = v ↔ False := ⟨fun e => h e.symm, False.elim⟩
      simp [this]
theorem wipe_set (σ : Sl) {i : Nat} (x : Option V) {vs : List Nat} (h : i ∈ vs) : wipe (σ.set i x) vs = wipe σ vs := by
  apply List.ext_getElem?
  intro j
  rw [wipe_get, wipe_get, List.length_set, List.getElem?_set]
  by_cases hj : j ∈ vs ∧ j < σ.length
  · rw [if_pos hj, if_pos hj]
  · rw [if_neg hj, if_neg hj]
    by_cases e : i = j
    · subst e
      have hl : ¬ i < σ.length := fun l => hj ⟨h, l⟩
      simp [hl, List.getElem?_eq_none (Nat.le_of_not_lt hl)]
    · rw [if_neg e]
abbrev W0 : WX := fun _ _ _ _ => False
section
variable (X : Cx)
abbrev PostGP (P : List (Addr × Obj)) (vs : List Nat) (σ : Sl) (g : G) (r : R Ev) (Q : Sl → Hp → Prop) : Prop := Post X.K X.mg (fun g ev' σ' => EvR X.K X.mg P g ev' σ' ∧ wipe σ' vs = wipe σ vs) W0 [] g r Q
abbrev PostG (vs : List Nat) (σ : Sl) (g : G) (r : R Ev) (Q : Sl → Hp → Prop) : Prop := PostGP X X.pn vs σ g r Q
/-- the names that get a value are those at vs -/
def GM (vs : List Nat) (tg : Expr) (m : D → M Ev) : Prop := ∀ (g : G) (σ : Sl) (H : Hp) (ev : Ev) (S : Sto) (d : D) (v : V) (Q : Sl → Hp → Prop), Rel X.K X.mg g H S → EvR X.K X.mg X.pn g ev σ → Rep X.K X.mg g d v →
  PostG X vs σ g (m d ev S) Q →
  ∀ (pins : List (Addr × Obj)) (s : Shared) (u : Value), Inv X pins σ H s → RelV v u → wpAny (model X.prog X.w) X.A (assign tg X.env u) (fun _ s' => ∃ σ' H', Inv X pins σ' H' s' ∧ Q σ' H') X.xe s
def GMs (vs : List Nat) (ts : List Expr) (m : List D → M Ev) : Prop := ∀ (g : G) (σ : Sl) (H : Hp) (ev : Ev) (S : Sto) (ds : List D) (us : List V) (Q : Sl → Hp → Prop), Rel X.K X.mg g H S → EvR X.K X.mg X.pn g ev σ → RepL X.K X.mg g ds us →
  PostG X vs σ g (m ds ev S) Q →
  ∀ (pins : List (Addr × Obj)) (s : Shared) (ws : List Value), Inv X pins σ H s → Vals us ws → wpAny (model X.prog X.w) X.A (assignInOrder ((assignEach ts X.env).map (·.2)) ws) (fun _ s' => ∃ σ' H', Inv X pins σ' H' s' ∧ Q σ' H') X.xe s
end
section
variable {X : Cx} {W : WX} {pos : Pos} {vs : List Nat}
def tgN (i : Nat) : D → M Ev := fun d ev S => .ok (ev.set i (some d)) S
def tgNil : List D → M Ev := fun ds ev S => match ds with
  | [] => .ok ev S
  | _ => .no
def tgCons (t : D → M Ev) (u : List D → M Ev) : List D → M Ev := fun ds ev S => match ds with
  | d :: r => (t d ev S).bind fun ev1 S1 => u r ev1 S1
  | [] => .no
def tgT (n : Nat) (u : List D → M Ev) : D → M Ev := fun d ev S => match d with
  | .tup ds => if ds.length = n then u ds ev S else .no
  | _ => .no
theorem PostG.mono {σ σ1 : Sl} {g : G} {r : R Ev} {Q : Sl → Hp → Prop} (e : wipe σ1 vs = wipe σ vs) (h : PostG X vs σ g r Q) : PostG X vs σ1 g r Q := by
  cases r with
  | ok a S => exact fun g' b H l rl ⟨p, q⟩ => h g' b H l rl ⟨p, by rw [q, e]⟩
  | ex x S => exact h
  | no => exact h
theorem pgOf {tg : Expr} {m : D → M Ev} (h : GM X vs tg m) : PG X tg (fun v σ H Q => ∃ (g : G) (ev : Ev) (S : Sto) (d : D), Rel X.K X.mg g H S ∧ EvR X.K X.mg X.pn g ev σ ∧ Rep X.K X.mg g d v ∧ PostG X vs σ g (m d ev S) Q) :=
  ⟨fun pins s σ H v u Q I r ⟨g, ev, S, d, h1, h2, h3, h4⟩ => h g σ H ev S d v Q h1 h2 h3 h4 pins s u I r⟩
theorem pgsOf {ts : List Expr} {m : List D → M Ev} (h : GMs X vs ts m) : PGs X ts (fun v σ H Q => ∃ (g : G) (ev : Ev) (S : Sto) (d : List D), Rel X.K X.mg g H S ∧ EvR X.K X.mg X.pn g ev σ ∧ RepL X.K X.mg g d v ∧ PostG X vs σ g (m d ev S) Q) :=
  ⟨fun pins s σ H v u Q I r ⟨g, ev, S, d, h1, h2, h3, h4⟩ => h g σ H ev S d v Q h1 h2 h3 h4 pins s u I r⟩
theorem gm_name (i : Nat) {x : Str} (hN : X.N.Nodup) (hv : i ∈ vs := by decide) (hi : X.N[i]? = some x := by rfl) (hx : Loc X.env.scope x := by first | exact Or.inl rfl | exact Or.inr rfl) (hf : X.fn x = true ∨ X.env.scope.names.lookup x = some .local := by first | exact .inl rfl | exact .inr rfl) :
    GM X vs (.Name x pos) (tgN i) := by
  intro g σ H ev S d v Q rl er r hP pins s u I ru
  exact (pg_name hN hi hx hf).run pins s σ H v u Q I ru (hP g _ H (G.le.refl g) rl ⟨er.set r i, wipe_set σ _ hv⟩)
theorem gms_nil : GMs X vs [] tgNil := by
  intro g σ H ev S ds us Q rl er r hP pins s ws I ru
  cases r with
  | nil => exact pgs_nil.run pins s σ H _ ws Q I ru ⟨rfl, hP g σ H (G.le.refl g) rl ⟨er, rfl⟩⟩
  | cons _ _ => exact hP.elim
theorem gms_cons {e : Expr} {es : List Expr} {t : D → M Ev} {u : List D → M Ev} (h1 : GM X vs e t) (h2 : GMs X vs es u)
    (hs : (assignEach (e :: es) X.env).map (·.2) = assign e X.env :: (assignEach es X.env).map (·.2) := by rfl) : GMs X vs (e :: es) (tgCons t u) := by
  intro g σ H ev S ds us Q rl er r hP pins s ws I ru
  cases r with
  | nil => exact hP.elim
  | cons hd hr =>
    rename_i d v ds vs'
    refine (pgs_cons (pgOf h1) (pgsOf h2) hs).run pins s σ H _ ws Q I ru ⟨v, vs', rfl, g, ev, S, d, rl, er, hd, ?_⟩
    refine Post.bind hP fun g1 ev1 S1 σ1 H1 l1 rl1 ⟨er1, hw1⟩ hP1 => ?_
    exact ⟨g1, ev1, S1, ds, rl1, er1, hr.le l1, PostG.mono hw1 hP1⟩

theorem gm_tup {es : List Expr} {k : Nat} {n : Nat} {u : List D → M Ev} (hc : X.calm = true) (h : GMs X vs es u) (hn : (assignEach es X.env).length = n := by rfl) (hst : (assignEach es X.env).findIdx? (·.1) = none := by rfl) : GM X vs (.Tuple es k pos) (tgT n u) := by
  intro g σ H ev S d v Q rl er r hP pins s w I rw'
  unfold tgT at hP
  split at hP
  · rename_i ds
    split at hP
    · rename_i hl
      obtain ⟨a, xs, rfl, h1, h2⟩ := tup_rep rl r
      exact (pg_tup hc (pgsOf h) hn hst).run pins s σ H _ w Q I rw' ⟨a, xs, rfl, h1, by rw [← h2.length]; exact hl, g, ev, S, ds, rl, er, h2, hP⟩
    · exact hP.elim
  · exact hP.elim
end
end ML


set_option Elab.async false
set_option linter.all false
set_option maxRecDepth 100000
set_option autoImplicit false
set_option maxHeartbeats 4000000
namespace ML
open PySem PySem.Spec PyProof.Rows L2

/-! ## list comprehensions -/
def evWipe (ev : Ev) : List Nat → Ev
  | [] => ev
  | v :: vs => (evWipe ev vs).set v none
theorem EvR.wipe {K : PySem.W.Frag} {mg : Str → Option Value} {P : List (Addr × Obj)} {g : G} {ev : Ev} {σ : Sl} (h : EvR K mg P g ev σ) : ∀ vs : List Nat, EvR K mg P g (evWipe ev vs) (wipe σ vs)
  | [] => h
  | v :: vs => (EvR.wipe h vs).gone v
/-- without the exception of an except suite -/
def noXo : Option D → Option D
  | some (.xo _ _ _) => none
  | o => o
def evNoX (ev : Ev) : Ev := ev.map noXo
theorem EvR.noX {K : PySem.W.Frag} {mg : Str → Option Value} {P P' : List (Addr × Obj)} {g : G} {ev : Ev} {σ : Sl} (h : EvR K mg P g ev σ) : EvR K mg P' g (evNoX ev) σ := by
  refine ⟨by unfold evNoX; rw [List.length_map]; exact h.1, fun i d e => ?_⟩
  unfold evNoX at e
  rw [List.getElem?_map] at e
  cases e1 : ev[i]? with
  | none => rw [e1] at e; cases e
  | some o =>
    rw [e1] at e
    cases o with
    | none => cases e
    | some d' =>
      obtain ⟨v, h1, h2⟩ := h.2 i d' e1
      cases d' with
      | xo _ _ _ => cases e
      | _ => cases e; exact ⟨v, h1, h2⟩
theorem EvR.ofNil {K : PySem.W.Frag} {mg : Str → Option Value} {P : List (Addr × Obj)} {g : G} {ev : Ev} {σ : Sl} (h : EvR K mg [] g ev σ) : EvR K mg P g ev σ := by
  refine ⟨h.1, fun i d e => ?_⟩
  obtain ⟨v, h1, h2⟩ := h.2 i d e
  cases d with
  | xo _ _ _ => obtain ⟨_, _, _, _, _, _, q, _⟩ := h2; cases q
  | _ => exact ⟨v, h1, h2⟩
def noEx {α : Type} : R α → R α
  | .ok a S => .ok a S
  | _ => .no
def lcL (tg : D → M Ev) (cond : M Bool) (el : M D) (ev : Ev) (c : Src) : List D → List D → Sto → R (List D)
  | [], acc, S => if c.live S = true then .ok acc S else .no
  | d :: ds, acc, S => if c.live S = true then (tg d ev S).bind fun ev2 S2 => (cond ev2 S2).bind fun b S3 => if b = true then (el ev2 S3).bind fun y S4 => if acc.length < 16777216 then lcL tg cond el ev c ds (acc ++ [y]) S4 else .no else lcL tg cond el ev c ds acc S3 else .no
def mLc (nw : Bool) (own : List Nat) (fe : Ev → Ev) (mi : M Src) (tg : D → M Ev) (cond : M Bool) (el : M D) : M D := fun ev S => (mi ev S).bind fun c S1 => (noEx (lcL tg cond el (evWipe (fe ev) own) c c.items [] S1)).bind fun acc S2 => mkL nw acc S2
def mYes : M Bool := fun _ S => .ok true S
/-- the tests of a for clause -/
def TMs (X : Cx) (W : WX) (ifs : List Expr) (m : M Bool) : Prop := PTs X ifs (fun σ H Q => ∃ (g : G) (ev : Ev) (S : Sto), Rel X.K X.mg g H S ∧ EvR X.K X.mg X.pn g ev σ ∧ Post X.K X.mg RB W σ g (m ev S) Q)
section
variable {X : Cx} {W : WX} {K : PySem.W.Frag} {mg : Str → Option Value}
theorem tms_nil : TMs X W [] mYes := ⟨fun pins s σ H Q I ⟨g, ev, S, rl, er, hP⟩ => pts_nil.run pins s σ H Q I (hP g _ H (G.le.refl g) rl rfl)⟩
theorem ptOf {e : Expr} {m : M Bool} (h : TM X W e m) : PT X e (fun σ H Q => ∃ (g : G) (ev : Ev) (S : Sto), Rel X.K X.mg g H S ∧ EvR X.K X.mg X.pn g ev σ ∧ Post X.K X.mg RB W σ g (m ev S) Q) :=
  ⟨fun pins s σ H Q I ⟨g, ev, S, rl, er, hP⟩ => h g σ H ev S Q rl er hP pins s I⟩
theorem peOf {e : Expr} {m : M D} (h : EM X W e m) : PE X e (fun σ H Q => ∃ (g : G) (ev : Ev) (S : Sto), Rel X.K X.mg g H S ∧ EvR X.K X.mg X.pn g ev σ ∧ Post X.K X.mg (Rep X.K X.mg) W σ g (m ev S) Q) :=
  ⟨fun pins s σ H Q I ⟨g, ev, S, rl, er, hP⟩ => h g σ H ev S Q rl er hP pins s I⟩
theorem tms_one {e : Expr} {m : M Bool} (h : TM X W e m) : TMs X W [e] m := pts_one (ptOf h)

theorem Post.bindX {α β γ δ ε : Type} {Rp : G → α → β → Prop} {Rp' : G → γ → δ → Prop} {σ σ' : Sl} {g gb : G} {r : R α} {f : α → Sto → R ε} {k : ε → Sto → R γ} {Q' : δ → Hp → Prop} {Q : β → Hp → Prop}
    (h : Post K mg Rp' W σ gb ((noEx (r.bind f)).bind k) Q')
    (c : ∀ (g' : G) (a : α) (S : Sto) (b : β) (H : Hp), g.le g' → Rel K mg g' H S → Rp g' a b → Post K mg Rp' W σ gb ((noEx (f a S)).bind k) Q' → Q b H) : Post K mg Rp W0 σ' g r Q := by
  cases r with
  | ok a S => exact fun g2 b H l rl rp => c g2 a S b H l rl rp h
  | ex x S => exact h.elim
  | no => exact h.elim

structure LcI (K : PySem.W.Frag) (mg : Str → Option Value) (W : WX) (σ : Sl) (Q : VK) (g1 : G) (p : Addr) (c : Src) (F : List D → List D → Sto → R (List D)) (nw : Bool) (i : Nat) (H : Hp) (g : G) (S : Sto) (acc : List D) (av : List V) : Prop where
  le : g1.le g
  z : g.z p = none
  rl : Rel K mg (g.withZ (upd g.z p (.lst av))) H S
  ra : RepL K mg g acc av
  post : Post K mg (Rep K mg) W σ g ((noEx (F (c.items.drop i) acc S)).bind fun acc S2 => mkL nw acc S2) Q
theorem lcI_end {σ : Sl} {Q : VK} {g1 : G} {p : Addr} {c : Src} {nw : Bool} {H : Hp} {g : G} {S : Sto} {acc : List D} {av : List V}
    (hz : g.z p = none) (rl : Rel K mg (g.withZ (upd g.z p (.lst av))) H S) (ra : RepL K mg g acc av) (h : Post K mg (Rep K mg) W σ g (mkL nw acc S) Q) : Q (.ref p) H := by
  unfold mkL at h
  split at h
  · have r2 := rl.closeC hz rfl ra
    refine h (g.cellAt p) (.ref p) H G.le_cell r2 (.ref ?_)
    have e : g.r.length = S.length := rl.len
    show (g.r ++ [p])[S.length]? = some p
    rw [← e, List.getElem?_append_right (Nat.le_refl _), Nat.sub_self]
    rfl
  · obtain ⟨r2, fp⟩ := rl.closeF hz rfl
    have l : g.le (g.known p (.lst av)) := G.le_known fp
    exact h _ (.ref p) H l r2 (.lst upd_same (ra.le l))
variable {elt tg iter : Expr} {ifs : List Expr} {scope : Scope} {own : List (Str × Nat)} {pos : Pos} {mi : M Src} {t : D → M Ev} {cond : M Bool} {el : M D}
theorem lc_post (nw : Bool) {fe : Ev → Ev} (hfe : ∀ (g : G) (ev : Ev) (σ : Sl), EvR X.K X.mg X.pn g ev σ → EvR X.K X.mg [] g (fe ev) σ) {σ : Sl} {ev : Ev} {S : Sto} {Q : VK} {g : G} {H : Hp} (rl : Rel X.K X.mg g H S) (er : EvR X.K X.mg X.pn g ev σ) (hP : Post X.K X.mg (Rep X.K X.mg) W σ g (mLc nw (own.map (·.2)) fe mi t cond el ev S) Q) :
    tLc (fun σ H R => Rel X.K X.mg g H S ∧ EvR X.K X.mg X.pn g ev σ ∧ Post X.K X.mg (fun g c J => SrcOk X.K X.mg g c J) W σ g (mi ev S) R)
      (fun v σ H Q => ∃ (g : G) (ev : Ev) (S : Sto) (d : D), Rel X.K X.mg g H S ∧ EvR X.K X.mg [] g ev σ ∧ Rep X.K X.mg g d v ∧ PostGP X [] (own.map (·.2)) σ g (t d ev S) Q)
      (fun σ H Q => ∃ (g : G) (ev : Ev) (S : Sto), Rel X.K X.mg g H S ∧ EvR X.K X.mg [] g ev σ ∧ Post X.K X.mg RB W0 σ g (cond ev S) Q)
      (fun σ H Q => ∃ (g : G) (ev : Ev) (S : Sto), Rel X.K X.mg g H S ∧ EvR X.K X.mg [] g ev σ ∧ Post X.K X.mg (Rep X.K X.mg) W0 σ g (el ev S) Q) (own.map (·.2)) σ H Q := by
  refine ⟨rl, er, Post.bind hP fun g1 c S1 J H1 l1 rl1 sk hP1 => fun p hp => ?_⟩
  generalize hF : lcL t cond el (evWipe (fe ev) (own.map (·.2))) c = F at hP1
  refine ⟨fun i m H => m = c.items.length - i ∧ i ≤ c.items.length ∧ ∃ g S acc av, LcI X.K X.mg W σ Q g1 p c F nw i H g S acc av, ⟨_, rfl, Nat.zero_le _, g1, S1, [], [], G.le.refl g1, rl1.znone hp, rl1.putZ (fun _ _ => rfl) (.inl hp), .nil, hP1⟩, ?_⟩
  rintro i m H2 ⟨rfl, hi, g2, S2, acc, av, I⟩
  have hpost := I.post
  have lv : ∀ {ds : List D}, c.items.drop i = ds → c.live S2 = true := fun {ds} e => by
    rw [e, ← hF] at hpost
    cases ds with
    | nil => unfold lcL at hpost; split at hpost; assumption; exact hpost.elim
    | cons d ds => unfold lcL at hpost; split at hpost; assumption; exact hpost.elim
  have hlive := lv rfl
  have hext : g1.ext (g2.withZ (upd g2.z p (.lst av))) := I.le.ext.trans G.ext_withZ
  rcases Nat.lt_or_ge i c.items.length with hlt | hge
  · right
    refine ⟨sk.goes i H2 S2 _ hext I.rl hlive hlt, _, fun H' hn => ⟨_, ?_, rfl, hlt, hn⟩, fun x H' hy => ?_⟩
    · omega
    · have hd : c.items[i]? = some c.items[i] := List.getElem?_eq_getElem hlt
      obtain ⟨g3, l3, rl3, rd⟩ := sk.yields i H2 x H' S2 _ _ hext I.rl hlive hd hy
      have ed : c.items.drop i = c.items[i] :: c.items.drop (i + 1) := List.drop_eq_getElem_cons hlt
      rw [ed, ← hF] at hpost
      unfold lcL at hpost
      rw [if_pos hlive] at hpost
      rw [hF] at hpost
      have e3 : g2.ext g3 := G.ext_withZ.trans l3.ext
      refine ⟨g3, evWipe (fe ev) (own.map (·.2)), S2, c.items[i], rl3, (EvR.wipe (hfe _ _ _ (EvR.ext e3 (er.le (l1.trans I.le)))) _), rd, ?_⟩
      · refine Post.bindX hpost fun g4 ev4 S4 σ4 H4 l4 rl4 ⟨er4, hw4⟩ hpost4 => ?_
        have hw : wipe σ4 (own.map (·.2)) = wipe σ (own.map (·.2)) := by
          rw [hw4]
          apply List.ext_getElem?
          intro j
          rw [wipe_get, wipe_get, wipe_length]
          split <;> rfl
        refine ⟨hw, g4, ev4, S4, rl4, er4, ?_⟩
        refine Post.bindX hpost4 fun g5 b S5 b' H5 l5 rl5 rb hpost5 => ?_
        have rb : b = b' := rb
        subst rb
        have zz : ∀ {g6 : G}, g3.le g6 → g6.z = upd g2.z p (.lst av) := fun {g6} l => by rw [l.2.2.2, l3.2.2.2]; rfl
        have back : ∀ (g6 : G), g6.z = upd g2.z p (.lst av) → (g6.withZ g2.z).withZ (upd g2.z p (.lst av)) = g6 := fun g6 e => by
          cases g6
          simp only at e
          subst e
          rfl
        split
        · rename_i hb
          rw [if_pos hb] at hpost5
          refine ⟨g5, ev4, S5, rl5, er4.le l5, ?_⟩
          refine Post.bindX hpost5 fun g6 y S6 y' H6 l6 rl6 ry hpost6 => ?_
          have l36 : g3.le g6 := (l4.trans l5).trans l6
          have e6 := zz l36
          have e26 : g2.ext (g6.withZ g2.z) := (e3.trans l36.ext).trans G.ext_withZ
          split at hpost6
          · rename_i hlen
            refine ⟨av, rl6.zin p _ (by rw [e6]; exact upd_same), by rw [← I.ra.length, sizeL]; exact hlen, g6.withZ g2.z, S6, acc ++ [y], av ++ [y'], I.le.trans ⟨e26.1, e26.2.1, e26.2.2, rfl⟩, I.z, ?_, (I.ra.ext e26).append (.cons (ry.ext G.ext_withZ) .nil), ?_⟩
            · exact rl6.putZ (fun a q => by rw [e6]; exact upd_ne q) (.inr ⟨_, by rw [e6]; exact upd_same⟩)
            · exact Post.up ⟨e26.1, e26.2.1, e26.2.2, rfl⟩ hpost6
          · exact hpost6.elim
        · rename_i hb
          rw [if_neg hb] at hpost5
          have l35 : g3.le g5 := l4.trans l5
          have e5 := zz l35
          have e25 : g2.ext (g5.withZ g2.z) := (e3.trans l35.ext).trans G.ext_withZ
          refine ⟨g5.withZ g2.z, S5, acc, av, I.le.trans ⟨e25.1, e25.2.1, e25.2.2, rfl⟩, I.z, ?_, I.ra.ext e25, ?_⟩
          · show Rel X.K X.mg ((g5.withZ g2.z).withZ (upd g2.z p (.lst av))) H5 S5
            rw [back g5 e5]
            exact rl5
          · exact Post.up ⟨e25.1, e25.2.1, e25.2.2, rfl⟩ hpost5
  · left
    have e : i = c.items.length := by omega
    subst e
    refine ⟨sk.stops H2 S2 _ hext I.rl hlive, ?_⟩
    rw [List.drop_length, ← hF] at hpost
    unfold lcL at hpost
    rw [if_pos hlive] at hpost
    exact lcI_end (g1 := g1) (c := c) (nw := nw) I.z I.rl I.ra hpost
theorem em_lc (nw : Bool) (fe : Ev → Ev) (hfe : ∀ (g : G) (ev : Ev) (σ : Sl), EvR X.K X.mg X.pn g ev σ → EvR X.K X.mg [] g (fe ev) σ) (hc : X.calm = true) (hN : X.N.Nodup) (ok : BlkOk X.N X.env.scope scope own) (hi : IM X W tg iter mi)
    (hg : ∀ (s : Shared) (H : Hp) (C : Addr) (cl : List (Str × Addr)) (fp : List Addr), GM (X.blk s H scope (compEnvC scope cl C X.env) fp) (own.map (·.2)) tg t)
    (ht : ∀ (s : Shared) (H : Hp) (C : Addr) (cl : List (Str × Addr)) (fp : List Addr), TMs (X.blk s H scope (compEnvC scope cl C X.env) fp) W0 ifs cond)
    (he : ∀ (s : Shared) (H : Hp) (C : Addr) (cl : List (Str × Addr)) (fp : List Addr), EM (X.blk s H scope (compEnvC scope cl C X.env) fp) W0 elt el)
    (hs : ∀ x, foldedSetIterable iter X.env x = pure x := by intro _; rfl) : EM X W (.ListComp elt [⟨tg, iter, ifs, 0⟩] scope pos) (mLc nw (own.map (·.2)) fe mi t cond el) := by
  intro g σ H ev S Q rl er hP
  exact wE (pe_lc (tt := fun σ H Q => ∃ (g : G) (ev : Ev) (S : Sto), Rel X.K X.mg g H S ∧ EvR X.K X.mg [] g ev σ ∧ Post X.K X.mg RB W0 σ g (cond ev S) Q) hc hN (imP hi g ev S) ok (fun s H C cl fp => pgOf (hg s H C cl fp)) (fun s H C cl fp => ht s H C cl fp) (fun s H C cl fp => peOf (he s H C cl fp)) hs) (lc_post nw hfe rl er hP)
theorem fe_id (hp : X.pn = []) (g : G) (ev : Ev) (σ : Sl) (h : EvR X.K X.mg X.pn g ev σ) : EvR X.K X.mg [] g (id ev) σ := by
  rw [hp] at h
  exact h
theorem fe_noX (g : G) (ev : Ev) (σ : Sl) (h : EvR X.K X.mg X.pn g ev σ) : EvR X.K X.mg [] g (evNoX ev) σ := h.noX
end
end ML


set_option Elab.async false
set_option linter.all false
set_option maxRecDepth 100000
set_option autoImplicit false
set_option maxHeartbeats 4000000
namespace ML
open PySem PySem.Spec PyProof.Rows L2

/-! ## statements -/
inductive Fl where
  | nx | bk | ct | rt (d : D)
inductive RS where
  | ok (f : Fl) (ev : Ev) (s : Sto) | ex (x : Xn) (ev : Ev) (s : Sto) | no
abbrev MS := Ev → Sto → RS
def PostS (K : PySem.W.Frag) (mg : Str → Option Value) (P : List (Addr × Obj)) (W : WX) (g : G) (r : RS) (E : Ends) : Prop :=
  match r with
  | .ok .nx ev S => ∀ (g' : G) (σ : Sl) (H : Hp), g.le g' → Rel K mg g' H S → EvR K mg P g' ev σ → E.nx σ H
  | .ok .bk ev S => ∀ (g' : G) (σ : Sl) (H : Hp), g.le g' → Rel K mg g' H S → EvR K mg P g' ev σ → E.bk σ H
  | .ok .ct ev S => ∀ (g' : G) (σ : Sl) (H : Hp), g.le g' → Rel K mg g' H S → EvR K mg P g' ev σ → E.ct σ H
  | .ok (.rt d) ev S => ∀ (g' : G) (v : V) (H : Hp), g.le g' → Rel K mg g' H S → Rep K mg g' d v → E.rt v H
  | .ex x ev S => ∀ (g' : G) (c : Value) (d : Option Addr) (σ : Sl) (H : Hp), g.le g' → Rel K mg g' H S → EvR K mg P g' ev σ → RepX K mg g' x c d → W c d σ H
  | .no => False
def bindS {α : Type} (r : R α) (ev : Ev) (f : α → Sto → RS) : RS :=
  match r with
  | .ok a S => f a S
  | .ex x S => .ex x ev S
  | .no => .no
def seqS (r : RS) (f : MS) : RS :=
  match r with
  | .ok .nx ev S => f ev S
  | r => r
section
variable {K : PySem.W.Frag} {mg : Str → Option Value} {α β : Type} {Rp : G → α → β → Prop} {W : WX} {σ : Sl} {g g' : G} {E : Ends} {P : List (Addr × Obj)}
theorem PostS.up {r : RS} (l : g.le g') (h : PostS K mg P W g r E) : PostS K mg P W g' r E := by
  cases r with
  | ok f ev S => cases f <;> exact fun g2 b H k => h g2 b H (l.trans k)
  | ex x ev S => exact fun g2 c d σ H k => h g2 c d σ H (l.trans k)
  | no => exact h
theorem PostS.bind {r : R α} {ev : Ev} {f : α → Sto → RS} {Q : β → Hp → Prop} (h : PostS K mg P W g (bindS r ev f) E) (er : EvR K mg P g ev σ)
    (k : ∀ (g' : G) (a : α) (S : Sto) (b : β) (H : Hp), g.le g' → Rel K mg g' H S → Rp g' a b → PostS K mg P W g' (f a S) E → Q b H) : Post K mg Rp W σ g r Q := by
  cases r with
  | ok a S => exact fun g2 b H l rl rp => k g2 a S b H l rl rp (PostS.up l h)
  | ex x S => exact fun g2 c d H l rl rx => h g2 c d σ H l rl (er.le l) rx
  | no => exact h
/-- what is to come, from the names and the heap on -/
def Later (K : PySem.W.Frag) (mg : Str → Option Value) (P : List (Addr × Obj)) (W : WX) (g : G) (f : MS) (E : Ends) (σ : Sl) (H : Hp) : Prop := ∃ (g' : G) (ev : Ev) (S : Sto), g.le g' ∧ Rel K mg g' H S ∧ EvR K mg P g' ev σ ∧ PostS K mg P W g' (f ev S) E
theorem PostS.seq {r : RS} {f : MS} (h : PostS K mg P W g (seqS r f) E) : PostS K mg P W g r { E with nx := Later K mg P W g f E } := by
  cases r with
  | ok fl ev S =>
    cases fl with
    | nx => exact fun g2 σ H l rl er => ⟨g2, ev, S, l, rl, er, PostS.up l h⟩
    | _ => exact h
  | ex x ev S => exact h
  | no => exact h
end
section
variable (X : Cx) (W : WX)
def SM (st : Stmt) (m : MS) : Prop := ∀ (g : G) (σ : Sl) (H : Hp) (ev : Ev) (S : Sto) (E : Ends), Rel X.K X.mg g H S → EvR X.K X.mg X.pn g ev σ → PostS X.K X.mg X.pn W g (m ev S) E → WS X st E σ H
def SMs (st : List Stmt) (m : MS) : Prop := ∀ (g : G) (σ : Sl) (H : Hp) (ev : Ev) (S : Sto) (E : Ends), Rel X.K X.mg g H S → EvR X.K X.mg X.pn g ev σ → PostS X.K X.mg X.pn W g (m ev S) E → WSs X st E σ H
end
section
variable {X : Cx} {W : WX} {pos : Pos} {e a b : Expr} {ma mb : M D} {st : Stmt} {sts : List Stmt} {ms mt : MS}
theorem psOf (h : SM X W st ms) (g : G) (ev : Ev) (S : Sto) : PS X st (fun E σ H => Rel X.K X.mg g H S ∧ EvR X.K X.mg X.pn g ev σ ∧ PostS X.K X.mg X.pn W g (ms ev S) E) :=
  ⟨fun pins s σ H E I ⟨h1, h2, h3⟩ => h g σ H ev S E h1 h2 h3 pins s I⟩
/-! ### blocks -/
def sNil : MS := fun ev S => .ok .nx ev S
def sCons (m1 m2 : MS) : MS := fun ev S => seqS (m1 ev S) m2
theorem sms_nil : SMs X W [] sNil := fun g σ H ev S E rl er hP => wSs pss_nil (hP g σ H (G.le.refl g) rl er)
theorem sms_cons (h1 : SM X W st ms) (h2 : SMs X W sts mt) : SMs X W (st :: sts) (sCons ms mt) := by
  intro g σ H ev S E rl er hP
  have p2 : PSs X sts (fun E σ H => Later X.K X.mg X.pn W g mt E σ H) := ⟨fun pins s σ H E I ⟨g', ev, S, l, h1, h3, h4⟩ => h2 g' σ H ev S E h1 h3 h4 pins s I⟩
  exact wSs (pss_cons (psOf h1 g ev S) p2) ⟨rl, er, PostS.seq hP⟩
theorem sms_one (h1 : SM X W st ms) : SMs X W [st] ms := fun g σ H ev S E rl er hP => wSs (pss_one (psOf h1 g ev S)) ⟨rl, er, hP⟩
/-! ### simple statements -/
def sBk : MS := fun ev S => .ok .bk ev S
def sCt : MS := fun ev S => .ok .ct ev S
theorem sm_pass : SM X W (.Pass pos) sNil := fun g σ H ev S E rl er hP => wS ps_pass (hP g σ H (G.le.refl g) rl er)
theorem sm_break : SM X W (.Break pos) sBk := fun g σ H ev S E rl er hP => wS ps_break (hP g σ H (G.le.refl g) rl er)
theorem sm_continue : SM X W (.Continue pos) sCt := fun g σ H ev S E rl er hP => wS ps_continue (hP g σ H (G.le.refl g) rl er)
def sExpr (ma : M D) : MS := fun ev S => bindS (ma ev S) ev fun _ S1 => .ok .nx ev S1
theorem sm_expr (he : EM X W e ma) (hs : swapsWith e none pos.line X.env = pure false := by rfl) : SM X W (.Expr e pos) (sExpr ma) := by
  intro g σ H ev S E rl er hP
  refine wS (ps_expr (peW X e) hs) (he g σ H ev S _ rl er (PostS.bind hP er fun g1 d S1 v H1 l1 rl1 rx hP1 => ?_))
  exact hP1 g1 σ H1 (G.le.refl _) rl1 (er.le l1)
def sRet (ma : M D) : MS := fun ev S => bindS (ma ev S) ev fun d S1 => .ok (.rt d) ev S1
theorem sm_ret (he : EM X W e ma) : SM X W (.Return (some e) pos) (sRet ma) := by
  intro g σ H ev S E rl er hP
  refine wS (ps_ret (peW X e)) (he g σ H ev S _ rl er (PostS.bind hP er fun g1 d S1 v H1 l1 rl1 rx hP1 => ?_))
  exact hP1 g1 v H1 (G.le.refl _) rl1 rx
def sRetN : MS := fun ev S => .ok (.rt .non) ev S
theorem sm_retN : SM X W (.Return none pos) sRetN := fun g σ H ev S E rl er hP => wS ps_retN (hP g .non H (G.le.refl g) rl .non)
def sSet (i : Nat) (ma : M D) : MS := fun ev S => bindS (ma ev S) ev fun d S1 => .ok .nx (ev.set i (some d)) S1
theorem sm_set (i : Nat) {x : Str} {pos' : Pos} (hN : X.N.Nodup) (he : EM X W e ma) (hi : X.N[i]? = some x := by rfl) (hx : Loc X.env.scope x := by first | exact Or.inl rfl | exact Or.inr rfl)
    (hs : swapsWith e (some (.Name x pos')) pos.line X.env = pure false := by rfl) (hf : X.fn x = true ∨ X.env.scope.names.lookup x = some .local := by first | exact .inl rfl | exact .inr rfl) : SM X W (.Assign [.Name x pos'] e pos) (sSet i ma) := by
  intro g σ H ev S E rl er hP
  refine wS (ps_set hN hi hx (peW X e) hs hf) (he g σ H ev S _ rl er (PostS.bind hP er fun g1 d S1 v H1 l1 rl1 rx hP1 => ?_))
  exact hP1 g1 _ H1 (G.le.refl _) rl1 ((er.le l1).set rx i)
theorem sm_setLc (nw : Bool) (fe : Ev → Ev) (hfe : ∀ (g : G) (ev : Ev) (σ : Sl), EvR X.K X.mg X.pn g ev σ → EvR X.K X.mg [] g (fe ev) σ) (i : Nat) {y : Str} {py : Pos} {elt tg iter : Expr} {ifs : List Expr} {scope : Scope} {own : List (Str × Nat)} {spos : Pos} {mi : M Src} {t : D → M Ev} {cond : M Bool} {el : M D} (hc : X.calm = true) (hN : X.N.Nodup)
    (ok : BlkOk X.N X.env.scope scope own) (hi : IM X W tg iter mi)
    (hg : ∀ (s : Shared) (H : Hp) (C : Addr) (cl : List (Str × Addr)) (fp : List Addr), GM (X.blk s H scope (compEnvC scope cl C X.env) fp) (own.map (·.2)) tg t)
    (ht : ∀ (s : Shared) (H : Hp) (C : Addr) (cl : List (Str × Addr)) (fp : List Addr), TMs (X.blk s H scope (compEnvC scope cl C X.env) fp) W0 ifs cond)
    (he : ∀ (s : Shared) (H : Hp) (C : Addr) (cl : List (Str × Addr)) (fp : List Addr), EM (X.blk s H scope (compEnvC scope cl C X.env) fp) W0 elt el)
    (hsw : swapsWith (.ListComp elt [⟨tg, iter, ifs, 0⟩] scope pos) (some (.Name y py)) spos.line X.env = pure true)
    (hy : X.N[i]? = some y := by rfl) (hyl : X.env.scope.names.lookup y = some .local := by rfl)
    (hs : ∀ x, foldedSetIterable iter X.env x = pure x := by intro _; rfl) : SM X W (.Assign [.Name y py] (.ListComp elt [⟨tg, iter, ifs, 0⟩] scope pos) spos) (sSet i (mLc nw (own.map (·.2)) fe mi t cond el)) := by
  intro g σ H ev S E rl er hP
  have hQ : Post X.K X.mg (Rep X.K X.mg) W σ g (mLc nw (own.map (·.2)) fe mi t cond el ev S) (fun v H1 => E.nx (σ.set i (some v)) H1) := PostS.bind hP er fun g1 d S1 v H1 l1 rl1 rx hP1 => hP1 g1 _ H1 (G.le.refl _) rl1 ((er.le l1).set rx i)
  exact wS (ps_setLc (tt := fun σ H Q => ∃ (g : G) (ev : Ev) (S : Sto), Rel X.K X.mg g H S ∧ EvR X.K X.mg [] g ev σ ∧ Post X.K X.mg RB W0 σ g (cond ev S) Q) hc hN hy hyl hsw (imP hi g ev S) ok
    (fun s H C cl fp => pgOf (hg s H C cl fp)) (fun s H C cl fp => ht s H C cl fp) (fun s H C cl fp => peOf (he s H C cl fp)) hs) (lc_post nw hfe rl er hQ)
/-- any other target -/
def sAsg (t : D → M Ev) (ma : M D) : MS := fun ev S => bindS (ma ev S) ev fun d S1 => bindS (noEx (t d ev S1)) ev fun ev2 S2 => .ok .nx ev2 S2
theorem PostS.noX {vs : List Nat} {g : G} {σ : Sl} {r : R Ev} {ev : Ev} {E : Ends} {W : WX} {X : Cx} (h : PostS X.K X.mg X.pn W g (bindS (noEx r) ev fun ev2 S2 => .ok .nx ev2 S2) E) : PostG X vs σ g r (fun σ' H' => E.nx σ' H') := by
  cases r with
  | ok a S => exact fun g2 σ2 H l rl rp => h g2 σ2 H l rl rp.1
  | ex x S => exact h.elim
  | no => exact h.elim
theorem sm_asg (vs : List Nat) {tg : Expr} {t : D → M Ev} (hg : GM X vs tg t) (he : EM X W e ma) (hs : swapsWithSole [tg] e pos.line X.env = pure false := by rfl) (hw : swappedStores [tg] e X.env = pure none := by rfl)
    (h1 : (assignEach [tg] X.env).map (·.2) = [assign tg X.env] := by rfl) : SM X W (.Assign [tg] e pos) (sAsg t ma) := by
  intro g σ H ev S E rl er hP
  refine wS (ps_asg (peW X e) (pgOf hg) hs hw h1) (he g σ H ev S _ rl er (PostS.bind hP er fun g1 d S1 v H1 l1 rl1 rx hP1 => ?_))
  exact ⟨g1, ev, S1, d, rl1, er.le l1, rx, PostS.noX hP1⟩
/-- a, b = x, y -/
def par2 (i j : Nat) (ev : Ev) : List D → Sto → RS := fun ds S => match ds with
  | [x, y] => .ok .nx ((ev.set i (some x)).set j (some y)) S
  | _ => .no
def sPar (i j : Nat) (ml : M (List D)) : MS := fun ev S => bindS (ml ev S) ev (par2 i j ev)
theorem sm_par (i j : Nat) {x y : Str} {px py pt : Pos} {kt k2 : _} {pt2 : Pos} {ml : M (List D)} (hc : X.calm = true) (hN : X.N.Nodup) (ha : AM X W [a, b] ml) 
    (hw : swappedStores [.Tuple [.Name x px, .Name y py] kt pt] (.Tuple [a, b] k2 pt2) X.env = pure (some [x, y]) := by rfl) (hi : X.N[i]? = some x := by rfl) (hj : X.N[j]? = some y := by rfl) (hij : i ≠ j := by decide)
    (hx : X.env.scope.names.lookup x = some .local := by rfl) (hy : X.env.scope.names.lookup y = some .local := by rfl)
    (hs : swapsWithSole [.Tuple [.Name x px, .Name y py] kt pt] (.Tuple [a, b] k2 pt2) pos.line X.env = pure false := by rfl) :
    SM X W (.Assign [.Tuple [.Name x px, .Name y py] kt pt] (.Tuple [a, b] k2 pt2) pos) (sPar i j ml) := by
  intro g σ H ev S E rl er hP
  refine wS (ps_par hc hN hi hj hij hx hy (paW X [a, b]) hw hs) (ha g σ H ev S _ rl er (PostS.bind hP er fun g1 d S1 v H1 l1 rl1 rx hP1 => ?_))
  unfold par2 at hP1
  split at hP1
  · obtain ⟨v, u, rfl, r, r'⟩ := rep2 rx
    exact ⟨v, u, rfl, hP1 g1 _ H1 (G.le.refl _) rl1 (((er.le l1).set r i).set r' j)⟩
  · exact hP1.elim
def sIf (mc : M Bool) (mt mf : MS) : MS := fun ev S => bindS (mc ev S) ev fun b S1 => if b = true then mt ev S1 else mf ev S1
theorem sm_if {c : Expr} {p q : List Stmt} {mc : M Bool} {mt mf : MS} (hc : TM X W c mc) (hp : SMs X W p mt) (hq : SMs X W q mf) : SM X W (.If c p q pos) (sIf mc mt mf) := by
  intro g σ H ev S E rl er hP
  refine wS (ps_if (ptW X c) (pssW X p) (pssW X q)) (hc g σ H ev S _ rl er (PostS.bind hP er fun g1 b S1 b' H1 l1 rl1 rb hP1 => ?_))
  have rb : b = b' := rb
  subst rb
  split
  · rename_i h; rw [if_pos h] at hP1; exact hp g1 σ H1 ev S1 E rl1 (er.le l1) hP1
  · rename_i h; rw [if_neg h] at hP1; exact hq g1 σ H1 ev S1 E rl1 (er.le l1) hP1
/-! ### loops -/
def loopS (r : RS) (f : MS) : RS :=
  match r with
  | .ok .nx ev S => f ev S
  | .ok .ct ev S => f ev S
  | .ok .bk ev S => .ok .nx ev S
  | r => r
theorem PostS.loop {K : PySem.W.Frag} {mg : Str → Option Value} {P : List (Addr × Obj)} {g : G} {r : RS} {f : MS} {E : Ends} (h : PostS K mg P W g (loopS r f) E) : PostS K mg P W g r { E with nx := Later K mg P W g f E, ct := Later K mg P W g f E, bk := E.nx } := by
  cases r with
  | ok fl ev S =>
    cases fl with
    | nx => exact fun g2 σ H l rl er => ⟨g2, ev, S, l, rl, er, PostS.up l h⟩
    | ct => exact fun g2 σ H l rl er => ⟨g2, ev, S, l, rl, er, PostS.up l h⟩
    | bk => exact h
    | rt d => exact h
  | ex x ev S => exact h
  | no => exact h
def forL (tg : D → M Ev) (body : MS) (c : Src) : List D → MS
  | [], ev, S => if c.live S = true then .ok .nx ev S else .no
  | d :: ds, ev, S => if c.live S = true then loopS (bindS (noEx (tg d ev S)) ev fun ev2 S2 => body ev2 S2) (forL tg body c ds) else .no
def sFor (mi : M Src) (tg : D → M Ev) (body : MS) : MS := fun ev S => bindS (mi ev S) ev fun c S1 => forL tg body c c.items ev S1
theorem sm_for {tg iter : Expr} {body : List Stmt} {mi : M Src} {t : D → M Ev} {mb : MS} (vs : List Nat) (hp : PassesOwn (model X.prog X.w) X.A X.env X.xe) (hc : X.calm = true) (hi : IM X W tg iter mi) (hg : GM X vs tg t) (hb : SMs X W body mb)
    (hs : ∀ x, foldedSetIterable iter X.env x = pure x := by intro _; rfl) : SM X W (.For tg iter body [] pos) (sFor mi t mb) := by
  intro g σ H ev S E rl er hP
  refine wS (ps_for hp hc (imP hi g ev S) (pgOf hg) (pssW X body) hs) ⟨rl, er, PostS.bind hP er fun g1 c S1 J H1 l1 rl1 sk hP1 => ?_⟩
  refine ⟨fun i m σ H => m = c.items.length - i ∧ i ≤ c.items.length ∧ Later X.K X.mg X.pn W g1 (forL t mb c (c.items.drop i)) E σ H, ⟨_, rfl, Nat.zero_le _, g1, ev, S1, G.le.refl g1, rl1, er.le l1, hP1⟩, ?_⟩
  rintro i m σ2 H2 ⟨rfl, hi', g2, ev2, S2, l2, rl2, er2, hP2⟩
  have hlive : c.live S2 = true := by
    cases e : c.items.drop i with
    | nil => rw [e] at hP2; unfold forL at hP2; split at hP2; assumption; exact hP2.elim
    | cons d ds => rw [e] at hP2; unfold forL at hP2; split at hP2; assumption; exact hP2.elim
  rcases Nat.lt_or_ge i c.items.length with hlt | hge
  · right
    refine ⟨sk.goes i H2 S2 _ l2.ext rl2 hlive hlt, Later X.K X.mg X.pn W g1 (forL t mb c (c.items.drop (i + 1))) E, fun σ' H' hn => ⟨c.items.length - (i + 1), by omega, rfl, hlt, hn⟩, fun x H' hy => ?_⟩
    have hd : c.items[i]? = some c.items[i] := List.getElem?_eq_getElem hlt
    obtain ⟨g3, l3, rl3, rd⟩ := sk.yields i H2 x H' S2 _ _ l2.ext rl2 hlive hd hy
    have ed : c.items.drop i = c.items[i] :: c.items.drop (i + 1) := List.drop_eq_getElem_cons hlt
    rw [ed] at hP2
    unfold forL at hP2
    rw [if_pos hlive] at hP2
    refine ⟨g3, ev2, S2, c.items[i], rl3, er2.le l3, rd, ?_⟩
    have hP3 := PostS.up l3 hP2
    revert hP3
    generalize t c.items[i] ev2 S2 = r
    intro hP3
    cases r with
    | ok ev3 S3 =>
      intro g4 σ4 H4 l4 rl4 er4
      have hP4 := PostS.up l4 hP3
      refine hb g4 σ4 H4 ev3 S3 _ rl4 er4.1 ?_
      have q : PostS X.K X.mg X.pn W g4 (mb ev3 S3) { E with nx := Later X.K X.mg X.pn W g4 (forL t mb c (c.items.drop (i + 1))) E, ct := Later X.K X.mg X.pn W g4 (forL t mb c (c.items.drop (i + 1))) E, bk := E.nx } := PostS.loop hP4
      have sub : ∀ σ H, Later X.K X.mg X.pn W g4 (forL t mb c (c.items.drop (i + 1))) E σ H → Later X.K X.mg X.pn W g1 (forL t mb c (c.items.drop (i + 1))) E σ H := fun σ H ⟨g', ev, S, l, h⟩ => ⟨g', ev, S, ((l2.trans l3).trans l4).trans l, h⟩
      revert q
      generalize mb ev3 S3 = r3
      intro q
      cases r3 with
      | ok fl ev S =>
        cases fl with
        | nx => exact fun g2 σ H l rl er => sub _ _ (q g2 σ H l rl er)
        | ct => exact fun g2 σ H l rl er => sub _ _ (q g2 σ H l rl er)
        | bk => exact q
        | rt d => exact q
      | ex x ev S => exact q
      | no => exact q
    | ex x S3 => exact hP3.elim
    | no => exact hP3.elim
  · left
    have e : i = c.items.length := by omega
    subst e
    refine ⟨sk.stops H2 S2 _ l2.ext rl2 hlive, ?_⟩
    rw [List.drop_length] at hP2
    unfold forL at hP2
    rw [if_pos hlive] at hP2
    exact hP2 g2 σ2 H2 (G.le.refl _) rl2 er2
/-- while, with fuel -/
def whL (mc : M Bool) (body : MS) : Nat → MS
  | 0, _, _ => .no
  | n + 1, ev, S => bindS (mc ev S) ev fun b S1 => if b = true then loopS (body ev S1) (whL mc body n) else .ok .nx ev S1
theorem sm_while {c : Expr} {body : List Stmt} {mc : M Bool} {mb : MS} (n : Nat) (hp : PassesOwn (model X.prog X.w) X.A X.env X.xe) (hc : TM X W c mc) (hb : SMs X W body mb) : SM X W (.While c body [] pos) (whL mc mb n) := by
  intro g σ H ev S E rl er hP
  refine wS (ps_while hp (ptW X c) (pssW X body)) ⟨fun m σ H => Later X.K X.mg X.pn W g (whL mc mb m) E σ H, ⟨n, g, ev, S, G.le.refl g, rl, er, hP⟩, ?_⟩
  rintro m σ2 H2 ⟨g2, ev2, S2, l2, rl2, er2, hP2⟩
  cases m with
  | zero => exact hP2.elim
  | succ m =>
    unfold whL at hP2
    refine hc g2 σ2 H2 ev2 S2 _ rl2 er2 (PostS.bind hP2 er2 fun g3 b S3 b' H3 l3 rl3 rb hP3 => ?_)
    have rb : b = b' := rb
    subst rb
    split
    · rename_i h
      rw [if_pos h] at hP3
      refine ⟨Later X.K X.mg X.pn W g (whL mc mb m) E, fun σ' H' q => ⟨m, Nat.lt_succ_self m, q⟩, ?_⟩
      refine hb g3 σ2 H3 ev2 S3 _ rl3 (er2.le l3) ?_
      have q := PostS.loop hP3
      have sub : ∀ σ H, Later X.K X.mg X.pn W g3 (whL mc mb m) E σ H → Later X.K X.mg X.pn W g (whL mc mb m) E σ H := fun σ H ⟨g', ev, S, l, h⟩ => ⟨g', ev, S, (l2.trans l3).trans l, h⟩
      revert q
      generalize mb ev2 S3 = r3
      intro q
      cases r3 with
      | ok fl ev S =>
        cases fl with
        | nx => exact fun g2 σ H l rl er => sub _ _ (q g2 σ H l rl er)
        | ct => exact fun g2 σ H l rl er => sub _ _ (q g2 σ H l rl er)
        | bk => exact q
        | rt d => exact q
      | ex x ev S => exact q
      | no => exact q
    · rename_i h
      rw [if_neg h] at hP3
      exact hP3 g3 σ2 H3 (G.le.refl _) rl3 (er2.le l3)
end
end ML


set_option Elab.async false
set_option linter.all false
set_option maxRecDepth 100000
set_option autoImplicit false
set_option maxHeartbeats 4000000
namespace ML
open PySem PySem.Spec PyProof.Rows L2

/-! ## defs and their calls -/
structure FnG (P : Program) (w : World) (K : PySem.W.Frag) (mg : Str → Option Value) (k : Nat) (f : Addr) (fd : FuncData) (ps : List Str) (m : List D → Sto → R D) : Prop where
  run : ∀ (base : Heap) (A : Around) (outer : List Env) (s : Shared) (H : Hp) (args : Args) (us : List Value) (vs : List V) (ds : List D) (g : G) (S : Sto) (Q : VK) (E : XK), Room k A → A.guards = some [] →
    Env0 P w K mg base A outer s H → BindsTo s fd args (ps.zip us) → Vals vs us → Rel K mg g H S → RepL K mg g ds vs → ds.length = ps.length →
    Post K mg (Rep K mg) (fun c d _ H => E c d H) [] g (m ds S) Q → codeAny (model P w) A (.call (.ref f) args) (CR (L2.CX P w) outer P w H s Q E) s
def startD (n : Nat) (ds : List D) : Ev := ds.map some ++ List.replicate (n - ds.length) none
def endS (r : RS) : R D :=
  match r with
  | .ok .nx _ S => .ok .non S
  | .ok (.rt d) _ S => .ok d S
  | .ex x _ S => .ex x S
  | _ => .no
def mDef (n : Nat) (mb : MS) : List D → Sto → R D := fun ds S => endS (mb (startD n ds) S)
section
variable {P : Program} {w : World} {K : PySem.W.Frag} {mg : Str → Option Value} {k : Nat} {f : Addr} {fd : FuncData} {ps N : List Str} {m : List D → Sto → R D}
theorem FnG.mono {j : Nat} (F : FnG P w K mg j f fd ps m) (h : j ≤ k) : FnG P w K mg k f fd ps m := ⟨fun base A outer s H args us vs ds g S Q E hr => F.run base A outer s H args us vs ds g S Q E (hr.mono h)⟩
/-- no promise -/
theorem FnG.none : FnG P w K mg k f fd ps (fun _ _ => .no) := ⟨fun base A outer s H args us vs ds g S Q E hr hg e0 hb r rl rr hl hP => hP.elim⟩
theorem RepL.getN {g : G} {ds : List D} {vs : List V} (h : RepL K mg g ds vs) (P : List (Addr × Obj)) (n : Nat) : EvR K mg P g (startD n ds) (vs.map some ++ List.replicate (n - vs.length) none) := by
  have e := h.length
  refine ⟨by unfold startD; rw [List.length_append, List.length_append, List.length_map, List.length_map, e, List.length_replicate, List.length_replicate], fun i d q => ?_⟩
  unfold startD at q
  rcases Nat.lt_or_ge i ds.length with hi | hi
  · rw [List.getElem?_append_left (by rw [List.length_map]; exact hi), List.getElem?_map] at q
    cases e1 : ds[i]? with
    | none => rw [e1] at q; cases q
    | some d' =>
      rw [e1] at q
      cases q
      obtain ⟨v, h1, h2⟩ := h.get e1
      exact ⟨v, by rw [List.getElem?_append_left (by rw [List.length_map, ← e]; exact hi), List.getElem?_map, h1]; rfl, .of h2⟩
  · rw [List.getElem?_append_right (by rw [List.length_map]; exact hi), List.getElem?_replicate] at q
    split at q <;> cases q
theorem post_end {Pn : List (Addr × Obj)} {g : G} {r : RS} {Q : VK} {E : XK} (h : Post K mg (Rep K mg) (fun c d _ H => E c d H) [] g (endS r) Q) : PostS K mg Pn (fun c d _ H => E c d H) g r { nx := fun _ H' => Q .non H', rt := Q } := by
  cases r with
  | ok fl ev S =>
    cases fl with
    | nx => exact fun g' σ H l rl er => h g' .non H l rl .non
    | rt d => exact fun g' v H l rl rr => h g' v H l rl rr
    | bk => exact h.elim
    | ct => exact h.elim
  | ex x ev S => exact fun g' c d σ H l rl er rx => h g' c d H l rl rx
  | no => exact h.elim
/-- the context of a def's body -/
abbrev bodyX (P : Program) (w : World) (K : PySem.W.Frag) (mg : Str → Option Value) (base : Heap) (N : List Str) (qual : Str) (st : Stmt) (f : Addr) (cdv : Value) (A : Around) (outer : List Env) (s : Shared) (H : Hp) (E : XK) : Cx :=
  cxOf (L2.CX P w) P w K mg base N qual (defScope st) f cdv A outer s H E
theorem fnG_of {x qual : Str} {st : Stmt} {mb : MS} (F : Fun K x qual st f fd) (S : FnScope N ps (defScope st))
    (hbody : ∀ (base : Heap) (cdv : Value) (A : Around) (outer : List Env) (s : Shared) (H : Hp) (E : XK), Room k (A.deeper (envOfC qual (defScope st) s.heap.objs.size f cdv)) → (A.deeper (envOfC qual (defScope st) s.heap.objs.size f cdv)).guards = some [] →
      SMs (bodyX P w K mg base N qual st f cdv A outer s H E) (fun c d _ H => E c d H) (defBody st) mb) : FnG P w K mg (k + 1) f fd ps (mDef N.length mb) := by
  refine ⟨fun base A outer s H args us vs ds g St Q E hr hgd e0 hb r rl rr hl hP => ?_⟩
  obtain ⟨oc, od, kV, doc, pm, an, cdv, ct, osl, rfl, lk, hcd⟩ := F.ex
  have hlv : vs.length = ps.length := by rw [← rr.length]; exact hl
  have KX : K.In s.heap := e0.mod.kin.keeps fun b o e => (e0.bs b o e).1
  have lim : s.heap.NoLimit := e0.mod.nolimit.keeps fun b o e => (e0.bs b o e).1
  have hkind : ∀ y ∈ ps.zip us, (defScope st).names.lookup y.1 = some .local ∨ ((defScope st).names.lookup y.1 = some .cell ∧ ((cellsFrom (s.heap.objs.size + 1) (defScope st).names []).lookup y.1).isSome = true) := fun ⟨n, v⟩ hy => by
    rcases S.par n (List.of_mem_zip hy).1 with q | q
    · exact .inl q
    · exact .inr ⟨q, PySem.W.cellsFrom_some _ _ _ (.inl q)⟩
  refine codeAny_call_function hr.depth (KX _ _ lk) rfl S.co S.gen rfl (PySem.W.codeRec_of KX hcd) (hb _ _ _ _ ?_)
  refine wpAny_newFunctionEnv_cells S.kind hkind fun env he s1 x => ?_
  subst he
  refine ⟨lim.keeps x.toInCall.keep, codeAny_func ?_⟩
  have I : Inv (bodyX P w K mg base N qual st f cdv A outer s H E) [] (start N vs) H s1 := inv_start S hr.hd e0 hlv r x
  have ev := rr.getN [] N.length
  refine wpAny_mono (hbody base cdv A outer s H E (hr.deeper _) hgd g (start N vs) H (startD N.length ds) St { nx := fun _ H' => Q .non H', rt := Q } rl ev (post_end hP) [] s1 I) (fun fl s' hs => ?_) fun e s' hs => hs
  have fin : ∀ {σ' : Sl} {H' : Hp} {v : V} {u : Value}, Inv (bodyX P w K mg base N qual st f cdv A outer s H E) [] σ' H' s' → RelV v u → Q v H' → CE outer P w H s Q u s' :=
    fun {σ' H' v u} J rv q => ⟨v, H', J.os, J.bare, J.base, J.hok, rv, q⟩
  cases fl with
  | ret u =>
    obtain ⟨v, σ', H', J, rv, q⟩ := hs
    exact fin J rv q
  | next =>
    obtain ⟨σ', H', J, q⟩ := hs
    exact fin (v := V.non) (u := Value.none) J rfl q
  | brk =>
    obtain ⟨_, _, _, q⟩ := hs
    exact False.elim q
  | cont =>
    obtain ⟨_, _, _, q⟩ := hs
    exact False.elim q
end
section
variable {X : Cx} {W : WX} {k : Nat} {f : Addr} {fd : FuncData} {ps ks : List Str} {m : List D → Sto → R D} {x : Str} {p pos : Pos} {e : Expr} {es : List Expr} {ml mk : M (List D)} {kws : List Keyword}
def mCall (n : Nat) (m : List D → Sto → R D) (ml : M (List D)) : M D := fun ev S => (ml ev S).bind fun ds S1 => if ds.length = n then m ds S1 else .no
/-- the callee runs -/
theorem run_fnG {pins : List (Addr × Obj)} {σ : Sl} {H : Hp} {s : Shared} {Q : VK} {us : List Value} {kw : List (Str × Value)} {as : List Value} {vs : List V} {g : G} {ds : List D} {S : Sto} (F : FnG X.prog X.w X.K X.mg k f fd ps m) (hr : Room k X.A) (hgd : X.A.guards = some [])
    (tk : Takes X W) (I : Inv X pins σ H s) (hb : BindsTo s fd ⟨us, kw⟩ (ps.zip as)) (r : Vals vs as) (rl : Rel X.K X.mg g H S) (rr : RepL X.K X.mg g ds vs) (hl : ds.length = ps.length) (hP : Post X.K X.mg (Rep X.K X.mg) W σ g (m ds S) Q) :
    wpAny (model X.prog X.w) X.A (call (.ref f) us kw) (EP X pins σ Q) X.xe s := by
  refine wpAny_call (codeAny_mono (F.run X.base X.A X.stack s H ⟨us, kw⟩ as vs ds g S Q (fun c d H => W c d σ H) hr hgd I.env0 hb r rl rr hl hP) fun r s' hq => ?_)
  cases r with
  | error e => exact tk e s' (XE.of_call I (fun _ _ _ h => h) hq)
  | ok fl =>
    cases fl with
    | ret u => exact I.after hq
    | next => exact False.elim hq
    | brk => exact False.elim hq
    | cont => exact False.elim hq
theorem em_call (n : Nat) (F : FnG X.prog X.w X.K X.mg k f fd ps m) (hr : Room k X.A) (hgd : X.A.guards = some []) (tk : Takes X W) (hm : X.mg x = some (.ref f)) (hk : PySem.W.keepIn X.K (.ref f) = true) (hb : Binds X.K fd ps [])
    (ha : AM X W (e :: es) ml) (hn : ps.length = n := by rfl) (hg : Gl X x := by rfl) (hdb : (x == ("__debug__" : Str)) = false := by decide) (he : starEach (e :: es) X.env = (false, eval e X.env) :: starEach es X.env := by rfl) (hpl : (backTo pos (starEach es X.env)).any (·.1) = false := by rfl) :
    EM X W (.Call (.Name x p) (e :: es) [] pos) (mCall n m ml) := by
  intro g σ H ev S Q rl er hP pins s I
  refine wpAny_Call_Name_kw (ld_glob I hg hm ?_ hdb)
  refine PySem.W.callWith_K (h₀ := X.base) I.ok.mod.kin hk (thn (ha g σ H ev S (fun vs H1 => ∃ (g1 : G) (ds : List D) (S1 : Sto), Rel X.K X.mg g1 H1 S1 ∧ RepL X.K X.mg g1 ds vs ∧ ds.length = n ∧ Post X.K X.mg (Rep X.K X.mg) W σ g1 (m ds S1) Q) rl er
    (Post.bind hP fun g1 ds S1 vs H1 l1 rl1 rx hP1 => ?_) pos pins s I) fun us s1 ⟨vs, H1, I1, r, g1, ds, S1, rl1, rx, hl, q⟩ => ⟨I1.kIn, ?_⟩) he hpl
  · split at hP1
    · rename_i hl
      exact ⟨g1, ds, S1, rl1, rx, hl, hP1⟩
    · exact hP1.elim
  · have hlu : (us ++ []).length = ps.length := by rw [List.append_nil, ← r.length, ← rx.length, hl, hn]
    have b := hb s1 us I1.kIn hlu
    rw [List.append_nil] at b
    exact run_fnG F hr hgd tk I1 b r rl1 rx (hl.trans hn.symm) q
theorem em_call0 (F : FnG X.prog X.w X.K X.mg k f fd ps m) (hr : Room k X.A) (hgd : X.A.guards = some []) (tk : Takes X W) (hm : X.mg x = some (.ref f)) (hk : PySem.W.keepIn X.K (.ref f) = true) (hb : Binds X.K fd ps [])
    (hn : ps = [] := by rfl) (hg : Gl X x := by rfl) (hdb : (x == ("__debug__" : Str)) = false := by decide) : EM X W (.Call (.Name x p) [] [] pos) (fun _ S => m [] S) := by
  intro g σ H ev S Q rl er hP pins s I
  refine wpAny_Call_Name_kw (ld_glob I hg hm ?_ hdb)
  subst hn
  refine PySem.W.callWith_K0 I.kIn hk ?_
  have b := hb s [] I.kIn rfl
  exact run_fnG (us := []) (as := []) F hr hgd tk I b .nil rl .nil rfl hP
/-! ### keywords -/
def permL {α : Type} (q : List Nat) (l : List α) : List α := q.filterMap fun i => l[i]?
/-- how a call with a positional arguments and the keywords ks binds -/
def BindsK (K : PySem.W.Frag) (fd : FuncData) (ps ks : List Str) (a : Nat) (q : List Nat) : Prop :=
  ∀ (s : Shared) (us ws : List Value), K.In s.heap → us.length = a → ws.length = ks.length → BindsTo s fd ⟨us, ks.zip ws⟩ (ps.zip (permL q (us ++ ws)))
def KM (X : Cx) (W : WX) (kws : List Keyword) (m : M (List D)) : Prop := ∀ (g : G) (σ : Sl) (H : Hp) (ev : Ev) (S : Sto) (Q : List V → Hp → Prop), Rel X.K X.mg g H S → EvR X.K X.mg X.pn g ev σ → Post X.K X.mg (RepL X.K X.mg) W σ g (m ev S) Q →
  ∀ (pos : Pos) (pins : List (Addr × Obj)) (s : Shared), Inv X pins σ H s → wpAny (model X.prog X.w) X.A (evalAll ((backToKw pos (keywordEach kws X.env)).map (·.2))) (AP X pins σ Q) X.xe s
theorem km_nil : KM X W [] (fun _ S => .ok [] S) := fun g σ H ev S Q rl er hP pos pins s I => pk_nil.run pos pins s σ H Q I (hP g [] H (G.le.refl g) rl .nil)
theorem km_cons {nm : Option Str} {kpos : Pos} {ma : M D} (h1 : EM X W e ma) (h2 : KM X W kws mk) : KM X W (⟨nm, e, kpos⟩ :: kws) (fun ev S => (ma ev S).bind fun d S1 => (mk ev S1).bind fun ds S2 => .ok (d :: ds) S2) := by
  intro g σ H ev S Q rl er hP pos pins s I
  have p2 : ∀ (g : G) (S : Sto), PK X kws (fun σ H Q => Rel X.K X.mg g H S ∧ EvR X.K X.mg X.pn g ev σ ∧ Post X.K X.mg (RepL X.K X.mg) W σ g (mk ev S) Q) := fun g S => ⟨fun pos pins s σ H Q I ⟨h1, h3, h4⟩ => h2 g σ H ev S Q h1 h3 h4 pos pins s I⟩
  have p3 : PK X kws (fun σ H Q => ∃ (g : G) (S : Sto), Rel X.K X.mg g H S ∧ EvR X.K X.mg X.pn g ev σ ∧ Post X.K X.mg (RepL X.K X.mg) W σ g (mk ev S) Q) := ⟨fun pos pins s σ H Q I ⟨g, S, h⟩ => (p2 g S).run pos pins s σ H Q I h⟩
  refine (pk_cons (peW X e) p3).run pos pins s σ H Q I (h1 g σ H ev S _ rl er (Post.bind hP fun g1 d S1 v H1 l1 rl1 rx hP1 => ?_))
  refine ⟨g1, S1, rl1, er.le l1, Post.bind hP1 fun g2 ds S2 vs H2 l2 rl2 rx2 hP2 => ?_⟩
  exact hP2 g2 _ H2 (G.le.refl g2) rl2 (.cons (rx.le l2) rx2)
theorem permR {g : G} {K : PySem.W.Frag} {mg : Str → Option Value} {ds : List D} {vs : List V} (h : RepL K mg g ds vs) : ∀ q : List Nat, (∀ i ∈ q, i < ds.length) → RepL K mg g (permL q ds) (permL q vs)
  | [], _ => .nil
  | i :: q, hq => by
    have hi : i < ds.length := hq i List.mem_cons_self
    obtain ⟨v, h1, h2⟩ := h.get (List.getElem?_eq_getElem hi)
    have e1 : permL (i :: q) ds = ds[i] :: permL q ds := by unfold permL; rw [List.filterMap_cons, List.getElem?_eq_getElem hi]
    have e2 : permL (i :: q) vs = v :: permL q vs := by unfold permL; rw [List.filterMap_cons, h1]
    rw [e1, e2]
    exact .cons h2 (permR h q fun j hj => hq j (List.mem_cons_of_mem _ hj))
theorem permV {vs : List V} {us : List Value} (h : Vals vs us) : ∀ q : List Nat, (∀ i ∈ q, i < vs.length) → Vals (permL q vs) (permL q us)
  | [], _ => .nil
  | i :: q, hq => by
    have hi : i < vs.length := hq i List.mem_cons_self
    obtain ⟨v, h1, h2⟩ := h.get (List.getElem?_eq_getElem hi)
    have e1 : permL (i :: q) vs = vs[i] :: permL q vs := by unfold permL; rw [List.filterMap_cons, List.getElem?_eq_getElem hi]
    have e2 : permL (i :: q) us = v :: permL q us := by unfold permL; rw [List.filterMap_cons, h1]
    rw [e1, e2]
    exact .cons h2 (permV h q fun j hj => hq j (List.mem_cons_of_mem _ hj))
theorem permLen {α : Type} : ∀ (q : List Nat) (l : List α), (∀ i ∈ q, i < l.length) → (permL q l).length = q.length
  | [], _, _ => rfl
  | i :: q, l, hq => by
    have hi : i < l.length := hq i List.mem_cons_self
    have e1 : permL (i :: q) l = l[i] :: permL q l := by unfold permL; rw [List.filterMap_cons, List.getElem?_eq_getElem hi]
    rw [e1, List.length_cons, List.length_cons, permLen q l fun j hj => hq j (List.mem_cons_of_mem _ hj)]
def mCallK (a b : Nat) (q : List Nat) (m : List D → Sto → R D) (ml mk : M (List D)) : M D := fun ev S => (ml ev S).bind fun ds S1 => (mk ev S1).bind fun zs S2 => if ds.length = a ∧ zs.length = b then m (permL q (ds ++ zs)) S2 else .no
theorem em_callK (a : Nat) (q : List Nat) (F : FnG X.prog X.w X.K X.mg k f fd ps m) (hr : Room k X.A) (hgd : X.A.guards = some []) (tk : Takes X W) (hm : X.mg x = some (.ref f)) (hk : PySem.W.keepIn X.K (.ref f) = true) (hb : BindsK X.K fd ps ks a q)
    (ha : AM X W (e :: es) ml) (hkw : KM X W kws mk) (hq : (q.all fun i => decide (i < a + ks.length)) = true := by rfl) (hql : q.length = ps.length := by rfl) (hall : (backToKw pos (keywordEach kws X.env)).all (·.1.isSome) = true := by rfl) (hks : (backToKw pos (keywordEach kws X.env)).filterMap (·.1) = ks := by rfl)
    (hg : Gl X x := by rfl) (hdb : (x == ("__debug__" : Str)) = false := by decide) (he : starEach (e :: es) X.env = (false, eval e X.env) :: starEach es X.env := by rfl)
    (hpl : ((backTo pos (starEach (e :: es) X.env)).any (·.1) || (backToKw pos (keywordEach kws X.env)).any (·.1.isNone)) = false := by rfl) :
    EM X W (.Call (.Name x p) (e :: es) kws pos) (mCallK a ks.length q m ml mk) := by
  intro g σ H ev S Q rl er hP pins s I
  refine wpAny_Call_Name_kw (ld_glob I hg hm ?_ hdb)
  refine PySem.W.callWith_KW (h₀ := X.base) I.ok.mod.kin hk hall (thn (ha g σ H ev S (fun vs H1 => ∃ (g1 : G) (ds : List D) (S1 : Sto), Rel X.K X.mg g1 H1 S1 ∧ EvR X.K X.mg X.pn g1 ev σ ∧ RepL X.K X.mg g1 ds vs ∧
      Post X.K X.mg (Rep X.K X.mg) W σ g1 ((mk ev S1).bind fun zs S2 => if ds.length = a ∧ zs.length = ks.length then m (permL q (ds ++ zs)) S2 else .no) Q) rl er
    (Post.bind hP fun g1 ds S1 vs H1 l1 rl1 rx hP1 => ⟨g1, ds, S1, rl1, er.le l1, rx, hP1⟩) pos pins s I) fun us s1 ⟨vs, H1, I1, r, g1, ds, S1, rl1, er1, rx, q1⟩ => ?_) hpl he
  refine thn (hkw g1 σ H1 ev S1 (fun zs H2 => ∃ (g2 : G) (dz : List D) (S2 : Sto), Rel X.K X.mg g2 H2 S2 ∧ RepL X.K X.mg g2 (ds ++ dz) (vs ++ zs) ∧ ds.length = a ∧ dz.length = ks.length ∧ Post X.K X.mg (Rep X.K X.mg) W σ g2 (m (permL q (ds ++ dz)) S2) Q) rl1 er1
    (Post.bind q1 fun g2 dz S2 zs H2 l2 rl2 rz hP2 => ?_) pos pins s1 I1) fun ws s2 ⟨zs, H2, I2, rw', g2, dz, S2, rl2, rr, e1, e2, q2⟩ => ⟨I2.kIn, ?_⟩
  · split at hP2
    · rename_i hl
      exact ⟨g2, dz, S2, rl2, (rx.le l2).append rz, hl.1, hl.2, hP2⟩
    · exact hP2.elim
  · rw [hks]
    have hq' : ∀ i ∈ q, i < a + ks.length := fun i hi => by
      have := List.all_eq_true.mp hq i hi
      simpa using this
    have hl1 : (ds ++ dz).length = a + ks.length := by rw [List.length_append, e1, e2]
    have hl2 : (vs ++ zs).length = a + ks.length := by rw [← rr.length, hl1]
    have lu : us.length = a := by rw [← r.length, ← rx.length, e1]
    have lw : ws.length = ks.length := by
      rw [← rw'.length]
      have h1 := rx.length
      rw [List.length_append] at hl2
      omega
    exact run_fnG F hr hgd tk I2 (hb s2 us ws I2.kIn lu lw) (permV (r.append rw') q fun i hi => by rw [hl2]; exact hq' i hi) rl2 (permR rr q fun i hi => by rw [hl1]; exact hq' i hi) (by rw [permLen q _ fun i hi => by rw [hl1]; exact hq' i hi, hql]) q2
theorem em_callK0 (q : List Nat) (F : FnG X.prog X.w X.K X.mg k f fd ps m) (hr : Room k X.A) (hgd : X.A.guards = some []) (tk : Takes X W) (hm : X.mg x = some (.ref f)) (hk : PySem.W.keepIn X.K (.ref f) = true) (hb : BindsK X.K fd ps ks 0 q)
    (hkw : KM X W kws mk) (hq : (q.all fun i => decide (i < ks.length)) = true := by rfl) (hql : q.length = ps.length := by rfl) (hall : (backToKw pos (keywordEach kws X.env)).all (·.1.isSome) = true := by rfl) (hks : (backToKw pos (keywordEach kws X.env)).filterMap (·.1) = ks := by rfl)
    (hg : Gl X x := by rfl) (hdb : (x == ("__debug__" : Str)) = false := by decide)
    (hpl : ((backTo pos (starEach [] X.env)).any (·.1) || (backToKw pos (keywordEach kws X.env)).any (·.1.isNone)) = false := by rfl) :
    EM X W (.Call (.Name x p) [] kws pos) (mCallK 0 ks.length q m (fun _ S => .ok [] S) mk) := by
  intro g σ H ev S Q rl er hP pins s I
  refine wpAny_Call_Name_kw (ld_glob I hg hm ?_ hdb)
  refine PySem.W.callWith_KW0 (h₀ := X.base) I.ok.mod.kin hk hall ?_ hpl
  refine thn (hkw g σ H ev S (fun zs H2 => ∃ (g2 : G) (dz : List D) (S2 : Sto), Rel X.K X.mg g2 H2 S2 ∧ RepL X.K X.mg g2 dz zs ∧ dz.length = ks.length ∧ Post X.K X.mg (Rep X.K X.mg) W σ g2 (m (permL q dz) S2) Q) rl er
    (Post.bind hP fun g2 dz S2 zs H2 l2 rl2 rz hP2 => ?_) pos pins s I) fun ws s2 ⟨zs, H2, I2, rw', g2, dz, S2, rl2, rr, e2, q2⟩ => ⟨I2.kIn, ?_⟩
  · split at hP2
    · rename_i hl
      exact ⟨g2, dz, S2, rl2, rz, hl.2, hP2⟩
    · exact hP2.elim
  · rw [hks]
    have hq' : ∀ i ∈ q, i < ks.length := fun i hi => by
      have := List.all_eq_true.mp hq i hi
      simpa using this
    have lw : ws.length = ks.length := by rw [← rw'.length, ← rr.length, e2]
    exact run_fnG (us := []) F hr hgd tk I2 (hb s2 [] ws I2.kIn rfl lw) (permV rw' q fun i hi => by rw [← rr.length, e2]; exact hq' i hi) rl2 (permR rr q fun i hi => by rw [e2]; exact hq' i hi) (by rw [permLen q _ fun i hi => by rw [e2]; exact hq' i hi, hql]) q2
end
end ML


set_option Elab.async false
set_option linter.all false
set_option maxRecDepth 100000
set_option autoImplicit false
set_option maxHeartbeats 4000000
/-! own error classes with one field: the class's __init__ stores its one argument (turned from the kit's worked proof of an own error: any name of class and field, __init__ own or inherited) -/
namespace ML
namespace Low
open PySem PySem.Spec PySem.W PySem.Calls PyProof.Rows PySem.HandSPX
/-! ### the text of __init__ -/
def iA (fld : Str) (p1 p2 : Pos) : Arguments := { posonlyargs := [], args := [{ arg := "self", annotation := none, pos := p1 }, { arg := fld, annotation := none, pos := p2 }], vararg := none, kwonlyargs := [], kw_defaults := [], kwarg := none, defaults := [] }
def iB (fld : Str) (q1 q2 q3 q4 : Pos) : List Stmt := [.Assign [.Attribute (.Name "self" q1) fld q2] (.Name fld q3) q4]
def iS (fld : Str) : Scope := { kind := .function, names := [(PySem.Str.ofString "self", .local), (fld, .local)], isGenerator := false, isCoroutine := false, more := [] }
/-- what the name of a field must be: seen by computing -/
structure FldOk (fld : Str) : Prop where
  ne2 : (fld == ("__debug__" : Str)) = false
  bind : ∀ (iq : Str) (p1 p2 q1 q2 q3 q4 : Pos) (doc pm : Value) (an : Option Addr) (cdv ct x v : Value), bindArgs (fnOf "__init__" iq (iA fld p1 p2) (iB fld q1 q2 q3 q4) (iS fld) .none .none doc pm an cdv ct) ⟨[x, v], []⟩ = pure [(("self" : Str), x), (fld, v)]
  kind : ∀ x v : Value, ([(("self" : Str), x), (fld, v)].all fun y => (iS fld).names.lookup y.1 == some .local || (iS fld).names.lookup y.1 == some .cell) = true
  gv : ∀ (iq : Str) (L fa : Addr) (cd x v : Value), bindL (envOfC iq (iS fld) L fa cd).kindOf [(("self" : Str), x), (fld, v)] (fun _ => none) fld = some v
  gs : ∀ (iq : Str) (L fa : Addr) (cd x v : Value), bindL (envOfC iq (iS fld) L fa cd).kindOf [(("self" : Str), x), (fld, v)] (fun _ => none) "self" = some x
  k1 : ∀ (iq : Str) (L fa : Addr) (cd : Value), (envOfC iq (iS fld) L fa cd).kindOf fld = some .local
structure LowTxt (K : Frag) (mg : Str → Option Value) (x fld iq : Str) (C fI : Addr) : Prop where
  fo : FldOk fld
  gC : mg x = some (.ref C)
  cls : ∃ nm q N bs bm sn sub ab col dd k0 k1 k2 k3 k5, K.lookup C = some (excClassObj nm q C N bs bm true sn sub ab col dd k0 k1 k2 k3 k5 "ValueError.__new__") ∧ refsVE bm = true
  sa : findIn K (.ref C) "__setattr__" = some (some (.builtin "object.__setattr__"))
  ga : findIn K (.ref C) "__getattribute__" = some (some (.builtin "BaseException.__getattribute__"))
  gg : findIn K (.ref C) "__getattr__" = some none
  noN : findIn K (.ref C) fld = some none
  iC : findIn K (.ref C) "__init__" = some (some (.ref fI))
  tC : typeIn K (.ref fI) = some (.type "function")
  kC : keepIn K (.ref C) = true
  exC : subIn K (.ref C) (.type "BaseException") = some true
  tyC : typeIn K (.ref C) = some (.type "type")
  hdC : hasDictIn K C = true
  fn : ∃ (oc : Value) (od : Option Addr) (doc pm : Value) (an : Option Addr) (cdv ct : Value) (osl : Array (Option Value)) (p1 p2 q1 q2 q3 q4 : Pos),
    K.lookup fI = some ⟨oc, od, .func (fnOf "__init__" iq (iA fld p1 p2) (iB fld q1 q2 q3 q4) (iS fld) .none .none doc pm an cdv ct), osl⟩ ∧ codeIn K cdv iq = true
theorem one_size (v : Value) : [v].length ≤ sizeLine := by
  rw [sizeLine_eq]
  exact (by decide : 1 ≤ 16777216)
theorem ldC {M : Model} {s : Shared} {name : Str} {scope : Scope} {L a : Addr} {cd : Value} {m : Str → Option Value} {x : Str} {pos : Pos} {v : Value} {Q : Value → Shared → Prop} {A : Around} {E : Value → Shared → Prop} (hn : s.heap.Ns L m) (hv : m x = some v) (h : Q v s)
    (hk : scope.kind = .function) (hl : (envOfC name scope L a cd).kindOf x = some .local) (hd : (x == ("__debug__" : Str)) = false) :
    wpAny M A (eval (.Name x pos) (envOfC name scope L a cd)) Q E s := wpAny_Name (wpAny_loadName_local hk hl hn hv h) hd
structure InitEnd (fld : Str) (h h' : Heap) (x C dx t1 : Addr) (v : Value) : Prop where
  keep : ∀ b o, b ≠ x → h.get? b = some o → h'.get? b = some o
  obj : h'.get? x = some { cls := .ref C, dict := some dx, data := .fields #[.ref t1, .none, .none, .none, .bool false, .none] }
  dbig : h.objs.size ≤ dx
  dne : dx ≠ x
  ns : h'.Ns1 dx (fun y => if y = fld then some v else none)
structure OwnMade (fld : Str) (h h' : Heap) (e C d : Addr) (v : Value) : Prop where
  keep : ∀ b o, h.get? b = some o → h'.get? b = some o
  new : h.objs.size ≤ e
  obj : ∃ oe vs, h'.get? e = some oe ∧ oe.cls = .ref C ∧ oe.dict = some d ∧ oe.data = .fields vs ∧ vs[1]? = some .none
  dbig : h.objs.size ≤ d
  dne : d ≠ e
  ns : h'.Ns1 d (fun y => if y = fld then some v else none)
section
variable {prog : Program} {w : World} {A : Around} {E : Value → Shared → Prop} {R : Result → Shared → Prop} {s : Shared} {K : Frag} {mg : Str → Option Value} {C fI : Addr} {cx fld iq : Str}
theorem low_init (T : LowTxt K mg cx fld iq C fI) {x t0 : Addr} {v : Value} (X : K.In s.heap) (hlim : s.heap.NoLimit) (hx : s.heap.get? x = some (excO C t0)) (hnx : K.lookup x = none) (hroom : A.depth < recursionLimit)
    (hq : ∀ h' tk dx, InitEnd fld s.heap h' x C dx t0 v → R (.ok (.ret .none)) { s with heap := h', toks := tk }) :
    codeAny (model prog w) A (.call (.ref fI) ⟨[.ref x, v], []⟩) R s := by
  obtain ⟨oc, od, doc, pm, an, cdv, ct, osl, p1, p2, q1, q2, q3, q4, ho, hcd⟩ := T.fn
  obtain ⟨nm, q, N, bs, bm, sn, sub, ab, col, dd, k0, k1, k2, k3, k5, hC, hbm⟩ := T.cls
  have hcl : clsIn K C = some { name := nm, bases := bs, mro := .ref C :: bm, ns := N, qualname := q, hasDict := true, slotNames := sn, subclasses := sub, abstract := ab, collection := col, hasDel := false } := by unfold clsIn; rw [hC] <;> rfl
  refine Att.call_fn (binds := [(("self" : Str), .ref x), (fld, v)]) X hlim ho hcd hroom (BindsTo.of_eq (T.fo.bind _ _ _ _ _ _ _ _ _ _ _ _ _ _)) (T.fo.kind _ _) (fun s₁ IC => ?_) rfl rfl rfl
  obtain ⟨h₁, tk₁, rfl⟩ := IC.toInCall.same
  have k : ∀ b o, s.heap.get? b = some o → h₁.get? b = some o := IC.toInCall.keep
  have hn := IC.toInCall.ns
  have hxL : s.heap.objs.size ≠ x := Nat.ne_of_gt (Heap.lt_size hx)
  have X₁ : K.In h₁ := X.keeps k
  have hx₁ := k _ _ hx
  -- self.fld = fld
  show wpAny _ _ (execs _ _) _ _ _
  refine wpAny_execs_cons (plainObj_wpAny_Assign_Attribute ?_)
  refine ldC (v := v) hn (T.fo.gv _ _ _ _ _ _) (ldC (v := .ref x) hn (T.fo.gs _ _ _ _ _ _) ?_ rfl rfl (by decide)) rfl (T.fo.k1 _ _ _ _) T.fo.ne2
  refine set_plain X₁ (ox := excO C t0) (od := none) ⟨hx₁, rfl, rfl, trivial⟩ T.sa ?_
  refine exc_osa X₁ hx₁ hcl (show refsVE (.ref C :: bm) = true from hbm) rfl T.noN (fun h₃ tk₃ dx k₃ dn dne hx₃ hn₃ => ?_)
  show wpAny _ _ (execs _ _) _ _ _
  have z : s.heap.objs.size < h₁.objs.size := hn.lt
  exact wpAny_execs_nil (hq h₃ tk₃ dx ⟨fun b o hb e => k₃ b o hb (k b o e), hx₃, Nat.le_of_lt (Nat.lt_of_lt_of_le z dn), dne, hn₃⟩)
theorem low_made (T : LowTxt K mg cx fld iq C fI) {v : Value} (X : K.In s.heap) (hlim : s.heap.NoLimit) (hroom : A.depth + 1 < recursionLimit)
    (hq : ∀ h' tk e d, OwnMade fld s.heap h' e C d v → R (.ok (.ret (.ref e))) { s with heap := h', toks := tk }) :
    codeAny (model prog w) A (.call (.ref C) ⟨[v], []⟩) R s := by
  obtain ⟨nm, q, N, bs, bm, sn, sub, ab, col, dd, k0, k1, k2, k3, k5, hC, hbm⟩ := T.cls
  obtain ⟨hp, g, dr, tk, os⟩ := s
  have k : ∀ b o, hp.get? b = some o → ((hp.push (kdv_tup [v])).push (excO C hp.objs.size)).get? b = some o := fun b o e => Heap.get?_push_of_some _ (Heap.get?_push_of_some _ e)
  have hget : ((hp.push (kdv_tup [v])).push (excO C hp.objs.size)).get? (hp.objs.size + 1) = some (excO C hp.objs.size) := by heap_get
  have hnx : K.lookup (hp.objs.size + 1) = none := by
    cases e : K.lookup (hp.objs.size + 1) with
    | none => rfl
    | some o =>
      have z : hp.get? (hp.objs.size + 1) = some o := X _ _ e
      exact absurd (Nat.lt_of_succ_lt (Heap.lt_size z)) (Nat.lt_irrefl _)
  refine call_own F.excBase_ValueError (fun X => refsVE_contains X bm hbm) (X _ _ hC) (looks_findIn X T.iC) (fun self => bind_fn X self T.tC) (one_size v) ?_
  refine low_init (s := ⟨(hp.push (kdv_tup [v])).push (excO C hp.objs.size), g, dr, tk, os⟩) T (X.keeps k) (hlim.keeps k) hget hnx ?_ fun h' tk' dx ⟨k', hx, dn, dne, hns⟩ => ?_
  · show A.depth + 1 < recursionLimit
    exact hroom
  · have old : ∀ b o, hp.get? b = some o → h'.get? b = some o := fun b o e => k' b o (Nat.ne_of_lt (Nat.lt_succ_of_lt (Heap.lt_size e))) (k b o e)
    have z : hp.objs.size + 1 + 1 ≤ dx := by
      first
        | (simpa only [Heap.size_push] using dn)
        | exact dn
        | (have q := dn; rw [Heap.size_push, Heap.size_push] at q; exact q)
    exact ⟨rfl, hq h' tk' (hp.objs.size + 1) dx ⟨old, Nat.le_succ _, ⟨_, _, hx, rfl, rfl, rfl, rfl⟩, Nat.le_trans (Nat.le_trans (Nat.le_succ _) (Nat.le_succ _)) z, dne, hns⟩⟩
end
end Low
open PySem PySem.Spec PyProof.Rows L2
theorem relO_low {fld : Str} {v : V} {v' : Value} (r : RelV v v') (f : Str) : RelO (List.lookup f [(fld, v)]) (if f = fld then some v' else none) := by
  by_cases hw : f = fld
  · subst hw
    rw [if_pos rfl]
    have q : List.lookup f [(f, v)] = some v := by simp [List.lookup]
    rw [q]
    exact r
  · rw [if_neg hw]
    have qw : (f == fld) = false := by simpa using hw
    have q2 : List.lookup f [(fld, v)] = none := by simp [List.lookup, qw]
    rw [q2]
    trivial
section
variable {X : Cx} {W : WX} {C fI : Addr} {cx fld iq : Str}
def tMkLow (fld : Str) (C : Addr) (ta : TA) : Sl → Hp → XK → Prop := fun σ H Q => ta σ H fun vs H1 => ∃ v, vs = [v] ∧ ∀ d, H1 d = none → Q (.ref C) (some d) (upd H1 d (.xd [(fld, v)]))
theorem pmk_low {a : Expr} {ta : TA} {p pos : Pos} {k : Nat} (T : Low.LowTxt X.K X.mg cx fld iq C fI) (hr : Room k X.A) (ha : PA X [a] ta) (hg : Gl X cx) (hdb : (cx == ("__debug__" : Str)) = false)
    (he : starEach (a :: []) X.env = (false, eval a X.env) :: starEach [] X.env := by rfl) (hpl : (backTo pos (starEach [] X.env)).any (·.1) = false := by rfl) :
    PMk X (.Call (.Name cx p) [a] [] pos) (tMkLow fld C ta) := by
  intro pins s σ H Q I h
  refine wpAny_Call_Name_kw (ld_glob I hg T.gC ?_ hdb)
  refine PySem.W.callWith_K (h₀ := X.base) I.ok.mod.kin T.kC (thn (ha.run pos pins s σ H _ I h) fun us s1 hh => ?_) he hpl
  obtain ⟨vs, H1, I1, r1, v, ev, q1⟩ := hh
  subst ev
  refine ⟨I1.kIn, ?_⟩
  cases r1 with
  | cons rv rn =>
    rename_i v' us'
    cases rn
    show wpAny _ _ (call (.ref C) [v']) _ _ _
    have hlim := I1.nolimit
    obtain ⟨hp, g, dr, tk, os⟩ := s1
    refine wpAny_call (Low.low_made T I1.kIn hlim (by have := hr.dp; omega) fun h' tk' e d M => ?_)
    show MkP X pins σ Q (.ref e) ⟨h', g, dr, tk', os⟩
    obtain ⟨oe, fv, hoe, hc, hd, hdat, h1⟩ := M.obj
    have hns := M.ns
    obtain ⟨G', g1, g2⟩ := restrict h' fun b => decide (b ≠ e)
    have gk : ∀ b, b ≠ e → G'.get? b = h'.get? b := fun b hb => g1 b (decide_eq_true hb)
    have ge : G'.get? e = none := g2 e (by simp)
    have old : ∀ b o, hp.get? b = some o → G'.get? b = some o := fun b o q => (gk b (Nat.ne_of_lt (Nat.lt_of_lt_of_le (Heap.lt_size q) M.new))).trans (M.keep b o q)
    have ob : ObjOk X.prog X.w (upd H1 d (.xd [(fld, v)])) G' d (.xd [(fld, v)]) :=
      ⟨_, hns.at (fun o q => (gk d M.dne).trans q), fun f => relO_low rv f⟩
    have J : Inv X pins σ (upd H1 d (.xd [(fld, v)])) ⟨G', g, dr, tk', os⟩ := I1.laid (t' := tk') old M.dbig ob
    refine ⟨e, oe, fv, ⟨G', g, dr, tk', os⟩, _, .ref C, some d, rfl, J, fun b o q => ?_, ge, hoe, ⟨hc, hd⟩, hdat, h1, ?_, rfl, I1.bare, raises_own T.exC T.tyC, q1 d (I1.hok.fresh M.dbig)⟩
    · by_cases hb : b = e
      · have q' : G'.get? b = some o := q
        rw [hb, ge] at q'; cases q'
      · exact (gk b hb).symm.trans q
    · rw [upd_ne (Ne.symm M.dne)]
      exact I1.hok.fresh M.new
/-- raise C(e) -/
def asRaise (cx fld : Str) (ev : Ev) : List D → Sto → RS := fun ds S => match ds with
  | [d] => .ex ⟨cx, [fld], [d]⟩ ev S
  | _ => .no
def sRaise (cx fld : Str) (ml : M (List D)) : MS := fun ev S => bindS (ml ev S) ev (asRaise cx fld ev)
theorem sm_raise {a : Expr} {ml : M (List D)} {p pos pos2 : Pos} {k : Nat} (hc : X.calm = true) (T : Low.LowTxt X.K X.mg cx fld iq C fI) (hr : Room k X.A) (tk : Takes X W) (ha : AM X W [a] ml) (hg : Gl X cx := by rfl) (hdb : (cx == ("__debug__" : Str)) = false := by decide)
    (he : starEach (a :: []) X.env = (false, eval a X.env) :: starEach [] X.env := by rfl) (hpl : (backTo pos (starEach [] X.env)).any (·.1) = false := by rfl) :
    SM X W (.Raise (some (.Call (.Name cx p) [a] [] pos)) none pos2) (sRaise cx fld ml) := by
  intro g σ H ev S E rl er hP
  refine wS (ps_raise hc tk (pmk_low T hr (paW X [a]) hg hdb he hpl)) (ha g σ H ev S _ rl er (PostS.bind hP er fun g1 ds S1 vs H1 l1 rl1 rx hP1 => ?_))
  unfold asRaise at hP1
  split at hP1
  · rename_i d0
    obtain ⟨v, rfl, r⟩ := rep1 rx
    refine ⟨v, rfl, fun d hd => ?_⟩
    have l2 : g1.le (g1.known d (.xd [(fld, v)])) := G.le_known (rl1.fnone hd)
    exact hP1 _ (.ref C) (some d) σ _ l2 (rl1.fresh hd _) ((er.le l1).le l2) ⟨C, d, [v], T.gC, rfl, rfl, upd_same, .cons (r.le l2) .nil⟩
  · exact hP1.elim
end
end ML


set_option Elab.async false
set_option linter.all false
set_option maxRecDepth 100000
set_option autoImplicit false
set_option maxHeartbeats 4000000
/-! try: .. except A as e: .. except B as f: .. (each suite with its own name) -/
namespace ML
open PySem PySem.Spec PyProof.Rows L2
abbrev HL := List (Value × Nat × (Addr → Value → Option Addr → TS))
def undo (i : Nat) (D : Ends) : Ends := { nx := fun σ' H' => D.nx (σ'.set i none) H', rt := D.rt, bk := fun σ' H' => D.bk (σ'.set i none) H', ct := fun σ' H' => D.ct (σ'.set i none) H' }
def wManyA (K : PySem.W.Frag) (Wout : WX) (D : Ends) : HL → WX
  | [] => Wout
  | (c, i, ts) :: r => fun cls d σ H => ∃ b, PySem.W.exmOne K cls c = some b ∧ (b = true → ∀ a, H a = none → ts a cls d (undo i D) (σ.set i (some (.ref a))) H) ∧ (b = false → wManyA K Wout D r cls d σ H)
inductive HdsA (X : Cx) : List ExceptHandler → HL → Prop
  | nil : HdsA X [] []
  | cons {x n : Str} {i : Nat} {c : Value} {ts : Addr → Value → Option Addr → TS} {b₀ : Stmt} {suite : List Stmt} {np pos' : Pos} {hds : List ExceptHandler} {l : HL} (hc : Names X x c) (hi : X.N[i]? = some n) (hln : X.env.kindOf n = some .local)
      (hsu : ∀ (a : Addr) (oe : Obj) (cls : Value) (d : Option Addr) (pn : List (Addr × Obj)), Zc cls d oe → (∃ vs, oe.data = .fields vs) → PSs (X.suite a ((a, oe) :: pn)) (b₀ :: suite) (ts a cls d)) (r : HdsA X hds l) :
      HdsA X (.ExceptHandler (some (.Name x np)) (some n) (b₀ :: suite) pos' :: hds) ((c, i, ts) :: l)
section
variable {X : Cx} {body : List Stmt} {h₀ : ExceptHandler} {hds : List ExceptHandler} {l : HL} {pos : Pos} {tb : WX → TS} {Wout : WX}
theorem ps_try_manyAs (hs : X.stack = X.env :: X.outer) (hf : X.env.frame = some X.env.locals) (hN : X.N.Nodup) (tk : Takes X Wout)
    (hb : ∀ (W : WX) (pn : List (Addr × Obj)) (xe : Value → Shared → Prop), Takes (X.tr pn xe) W → PassesOwn (model X.prog X.w) X.A X.env xe → PSs (X.tr pn xe) body (tb W))
    (hh : HdsA X (h₀ :: hds) l) : PS X (.Try body (h₀ :: hds) [] [] pos) (fun D σ H => tb (wManyA X.K Wout D l) D σ H) := by
  refine ⟨fun pins s σ H D I h => ?_⟩
  have ok := I.ok
  have hfr : X.A.frames = some (X.env :: X.outer) := by rw [ok.frames, hs]
  refine wpAny_Try_except ?_
  refine wpAny_mono ((hb (wManyA X.K Wout D l) (X.pn ++ pins) (fun e s₁ => wpAny (model X.prog X.w) X.A (noteFrame e X.env) (fun _ s₂ => wpAny (model X.prog X.w) X.A (setFlight e none) (fun _ s₃ =>
    wpAny (model X.prog X.w) X.A (handleBy e X.env (h₀ :: hds)) (SP X pins D) X.xe s₃) X.xe s₂) X.xe s₁) (fun u s' xx => ?_) PassesOwn.looking).run [] s σ H D (I.toTry _) h) (fun f s1 hsp => ?_) (fun e s1 he => he)
  · obtain ⟨a, B, sI, pins', σ', H', cls, d, rfl, J', nb, up, sky, na, os, ag, w⟩ := xx
    have J : Inv X pins σ' H' sI := J'.ofTry ok
    have sky' : Sky B (X.env :: X.outer) a (Zc cls d) X.env.locals s'.heap := by rw [← hs]; exact sky
    show wpAny (model X.prog X.w) X.A (noteFrame (.ref a) X.env) _ _ _
    refine Sky.land Zc.steady hfr hf sky' fun h3 fl3 up3 => ?_
    have J3 : Inv X pins σ' H' { s' with heap := h3 } := J.landed nb fl3.1 (up.trans up3) os ag
    obtain ⟨oe3, vs3, he3, hz3, hd3⟩ := fl3.there
    have notFr : ∀ {h : Heap} {o : Obj} {vs : Array Value}, h.FunFrames B (X.env :: X.outer) → h.get? a = some o → o.data = .fields vs → a ∉ frs (X.env :: X.outer) := fun {h o vs} ff e dd hm => by
      obtain ⟨_, o', e', hnf⟩ := ff.mem hm
      rw [e] at e'; cases e'
      exact hnf _ dd
    have nfr := notFr fl3.2.2.1 he3 hd3
    have nL : a ≠ X.env.locals := fun z => nfr (List.mem_filterMap.mpr ⟨X.env, List.mem_cons_self, by rw [hf, z]⟩)
    have nF : a ∉ X.fs := fun hm => by
      obtain ⟨e, he, q⟩ := List.mem_filterMap.mp hm
      exact nfr (List.mem_filterMap.mpr ⟨e, List.mem_cons_of_mem _ he, q⟩)
    have S3 := J3.suite he3 hd3 na nL nF
    have go : ∀ {hds' : List ExceptHandler} {l' : HL}, HdsA X hds' l' → wManyA X.K Wout D l' cls d σ' H' → wpAny (model X.prog X.w) X.A (handleBy (.ref a) X.env hds') (SP X pins D) X.xe { s' with heap := h3 } := by
      intro hds' l' hk
      induction hk with
      | nil =>
        intro w
        refine wpAny_handleBy_nil ?_
        obtain ⟨k1, k2, k3, oe, vs, T, oT, ts', he, hz, hd, h1, hr⟩ := id fl3
        unfold PySem.passOn
        refine wpAny_bind (wpAny_field he hd h1 ?_)
        rw [if_neg (show ¬ ((Value.ref T == Value.none) = true) from by simp)]
        have fin : wpAny (model X.prog X.w) X.A (setFlight (.ref a) X.env.frame) (fun _ s4 => wpAny (model X.prog X.w) X.A (throw (.ref a) : Sem Flow) (SP X pins D) X.xe s4) X.xe { s' with heap := h3 } := by
          rw [hf]
          refine HandSPX.setFlight_upZ fl3 fun h4 hh4 up4 => wpAny_throw (tk _ _ ?_)
          exact ⟨a, B, sI, pins, σ', H', cls, d, rfl, J, nb, (up.trans up3).trans up4, .inr (.inr (by rw [hs]; exact hh4)), na, os, ag, w⟩
        first
          | exact wpAny_bind (wpAny_pure (wpAny_bind fin))
          | exact wpAny_bind fin
      | @cons x n i c ts b₀ suite np pos' hds2 l2 hc hi hln hsu r ih =>
        intro w
        obtain ⟨b, hb1, hyes, hno⟩ := w
        have hloc : Loc X.env.scope n := .inl hln
        refine wpAny_handleBy_cons (codeAny_handlers_test ?_) (by intro q; cases q)
        have LT : PySem.W.Looks (model X.prog X.w) h3 (typeOf (.ref a)) cls := fun A Q E s k q => wpAny_typeOf_ref (k _ _ he3) (by rw [hz3.1]; exact q)
        have LM := PySem.W.exm_one (M := model X.prog X.w) (J3.kIn) LT hb1
        have test : ∀ {Q : Value → Shared → Prop} {E : Value → Shared → Prop}, Q c { s' with heap := h3 } → wpAny (model X.prog X.w) (X.A.mark (some (.ref a))) (eval (.Name x np) X.env) Q E { s' with heap := h3 } := fun {Q E} q => by
          obtain ⟨hg, hdbg, hm | ⟨hm, hv, hnn⟩⟩ := hc
          · exact ld_glob (X := X.suite a ((a, oe3) :: (X.pn ++ pins))) S3 hg hm q hdbg
          · exact ld_blt (X := X.suite a ((a, oe3) :: (X.pn ++ pins))) S3 hg hm hv q hnn hdbg
        refine test (LM.here ?_)
        cases b with
        | true =>
          refine codeAny_handlers_suite_as ?_
          refine HandSPX.lands_againZ fl3 fun h4 fl4 up4 => ?_
          have J4 : Inv X pins σ' H' { s' with heap := h4 } := J.landed nb fl4.1 ((up.trans up3).trans up4) os ag
          obtain ⟨oe4, vs4, he4, hz4, hd4⟩ := fl4.there
          have S4 := J4.suite he4 hd4 na nL nF
          refine store_ok (X := X.suite a ((a, oe4) :: (X.pn ++ pins))) (v := .ref a) S4 hN hi hloc rfl (fun s5 S5 => ?_) (.inr hln)
          refine wpAny_mono ((hsu a oe4 cls d (X.pn ++ pins) hz4 ⟨_, hd4⟩).run [] s5 _ H' _ S5 (hyes rfl a na)) (fun f s6 hsp => ?_) (fun _ _ z => False.elim z)
          have end_ : ∀ {σ6 : Sl} {H6 : Hp} {Q : Shared → Prop}, Inv (X.suite a ((a, oe4) :: (X.pn ++ pins))) [] σ6 H6 s6 → (∀ s7, Inv X pins (σ6.set i none) H6 s7 → Q s7) →
              wpAny (model X.prog X.w) X.A (do bindName X.env n .none; unbindBehindTheSuite X.env n pos') (fun _ s7 => Q s7) X.xe s6 := fun {σ6 H6 Q} S6 hq => gone_ok (S6.unsuite ok) hN hi hln hq
          cases f with
          | next =>
            obtain ⟨σ6, H6, S6, q6⟩ := hsp
            exact end_ S6 fun s7 J7 => ⟨_, _, J7, q6⟩
          | brk =>
            obtain ⟨σ6, H6, S6, q6⟩ := hsp
            exact end_ S6 fun s7 J7 => ⟨_, _, J7, q6⟩
          | cont =>
            obtain ⟨σ6, H6, S6, q6⟩ := hsp
            exact end_ S6 fun s7 J7 => ⟨_, _, J7, q6⟩
          | ret u =>
            obtain ⟨v6, σ6, H6, S6, r6, q6⟩ := hsp
            exact end_ S6 fun s7 J7 => ⟨_, _, _, J7, r6, q6⟩
        | false =>
          show wpAny _ X.A (handleBy (.ref a) X.env hds2) _ _ _
          exact ih (hno rfl)
    exact go hh w
  · cases f with
    | next =>
      obtain ⟨σ', H', J', q⟩ := hsp
      exact wpAny_execs_nil ⟨σ', H', J'.ofTry ok, q⟩
    | brk =>
      obtain ⟨σ', H', J', q⟩ := hsp
      exact ⟨σ', H', J'.ofTry ok, q⟩
    | cont =>
      obtain ⟨σ', H', J', q⟩ := hsp
      exact ⟨σ', H', J'.ofTry ok, q⟩
    | ret u =>
      obtain ⟨v, σ', H', J', r, q⟩ := hsp
      exact ⟨v, σ', H', J'.ofTry ok, r, q⟩
end
theorem takes_W0 {X : Cx} : Takes X W0 := fun _ _ ⟨_, _, _, _, _, _, _, _, _, _, _, _, _, _, _, _, w⟩ => w.elim

/-! ### the mirror of a try -/
structure Hn where
  test : Str → Option Bool
  slot : Nat
  m : MS
def outS (i : Nat) (r : RS) : RS :=
  match r with
  | .ok fl ev S => .ok fl (evNoX (ev.set i none)) S
  | _ => .no
def tryH : List Hn → Xn → Ev → Sto → RS
  | [], x, ev, S => .ex x ev S
  | h :: r, x, ev, S => match h.test x.cls with
    | some true => outS h.slot (h.m (ev.set h.slot (some (.xo x.cls x.ns x.ds))) S)
    | some false => tryH r x ev S
    | none => .no
def sTry (mb : MS) (hs : List Hn) : MS := fun ev S => match mb ev S with
  | .ok fl ev1 S1 => .ok fl (evNoX ev1) S1
  | .ex x ev1 S1 => tryH hs x (evNoX ev1) S1
  | .no => .no
/-- each clause runs as its mirror says -/
inductive HsM (X : Cx) : List ExceptHandler → List Hn → Prop
  | nil : HsM X [] []
  | cons {x n : Str} {i : Nat} {c : Value} {b₀ : Stmt} {suite : List Stmt} {np pos' : Pos} {hds : List ExceptHandler} {l : List Hn} {t : Str → Option Bool} {m : MS} (hc : Names X x c) (hi : X.N[i]? = some n) (hln : X.env.kindOf n = some .local)
      (ht : ∀ (y : Str) (b : Bool) (C : Addr), t y = some b → X.mg y = some (.ref C) → PySem.W.exmOne X.K (.ref C) c = some b)
      (hsu : ∀ (a : Addr) (pn : List (Addr × Obj)), SMs (X.suite a pn) W0 (b₀ :: suite) m) (r : HsM X hds l) :
      HsM X (.ExceptHandler (some (.Name x np)) (some n) (b₀ :: suite) pos' :: hds) (⟨t, i, m⟩ :: l)
section
variable {X : Cx} {W : WX}
theorem PostS.anyP {K : PySem.W.Frag} {mg : Str → Option Value} {P : List (Addr × Obj)} {g : G} {i : Nat} {r : RS} {E : Ends} (h : PostS K mg [] W g (outS i r) E) : PostS K mg P W0 g r (undo i E) := by
  cases r with
  | ok fl ev S =>
    cases fl with
    | nx => exact fun g' σ H l rl er => h g' _ H l rl (er.gone i).noX
    | bk => exact fun g' σ H l rl er => h g' _ H l rl (er.gone i).noX
    | ct => exact fun g' σ H l rl er => h g' _ H l rl (er.gone i).noX
    | rt d => exact fun g' v H l rl rr => h g' v H l rl rr
  | ex x ev S => exact h.elim
  | no => exact h.elim
theorem hs_post {hds : List ExceptHandler} {hs : List Hn} (hm : HsM X hds hs) : ∃ l : HL, HdsA X hds l ∧ ∀ (g : G) (x : Xn) (ev : Ev) (S : Sto) (E : Ends) (c : Value) (d : Option Addr) (σ : Sl) (H : Hp), PostS X.K X.mg [] W g (tryH hs x ev S) E →
    Rel X.K X.mg g H S → EvR X.K X.mg [] g ev σ → RepX X.K X.mg g x c d → wManyA X.K W E l c d σ H := by
  induction hm with
  | nil => exact ⟨[], .nil, fun g x ev S E c d σ H hP rl er rx => hP g c d σ H (G.le.refl g) rl er rx⟩
  | @cons x n i c b₀ suite np pos' hds l t m hc hi hln ht hsu r ih =>
    obtain ⟨l', h1, h2⟩ := ih
    refine ⟨(c, i, fun a cls d D σ H => ∃ (g : G) (ev : Ev) (S : Sto), Rel X.K X.mg g H S ∧ (∀ (oe : Obj) (pn : List (Addr × Obj)), Zc cls d oe → (∃ vs, oe.data = .fields vs) → EvR X.K X.mg ((a, oe) :: pn) g ev σ) ∧ ∀ pn, PostS X.K X.mg pn W0 g (m ev S) D) :: l',
      .cons hc hi hln (fun a oe cls d pn hz hf => ⟨fun pins s σ H D I ⟨g, ev, S, q1, q2, q3⟩ => hsu a ((a, oe) :: pn) g σ H ev S D q1 (q2 oe pn hz hf) (q3 _) pins s I⟩) h1, fun g x ev S E cls d σ H hP rl er rx => ?_⟩
    obtain ⟨C, dd, vs, e1, rfl, rfl, e4, e5⟩ := id rx
    unfold tryH at hP
    show ∃ b, _
    cases e : t x.cls with
    | none => simp only [e] at hP; exact hP.elim
    | some b =>
      refine ⟨b, ht _ b C e e1, fun hb a ha => ?_, fun hb => ?_⟩
      · subst hb
        simp only [e] at hP
        refine ⟨g, _, S, rl, fun oe pn hz hf => ?_, fun pn => PostS.anyP hP⟩
        have er' := er.ofNil (P := (a, oe) :: pn)
        refine ⟨by rw [List.length_set, List.length_set]; exact er.1, fun j d' q => ?_⟩
        by_cases hj : i = j
        · subst hj
          have hi' : i < ev.length := by
            have := (List.getElem?_eq_some_iff.mp q).1
            rwa [List.length_set] at this
          rw [List.getElem?_set_self hi'] at q
          have q' : D.xo x.cls x.ns x.ds = d' := by simpa using q
          subst q'
          exact ⟨.ref a, by rw [List.getElem?_set_self (by rw [← er.1]; exact hi')], a, oe, dd, C, vs, rfl, List.mem_cons_self, hz, hf, e1, e4, e5⟩
        · rw [List.getElem?_set_ne hj] at q ⊢
          exact er'.2 j d' q
      · subst hb
        simp only [e] at hP
        exact h2 g x ev S E _ _ σ H hP rl er rx
theorem sm_try {body : List Stmt} {h₀ : ExceptHandler} {hds : List ExceptHandler} {pos : Pos} {mb : MS} {hs' : List Hn} (hs : X.stack = X.env :: X.outer) (hf : X.env.frame = some X.env.locals) (hN : X.N.Nodup) (hp : X.pn = []) (tk : Takes X W)
    (hb : ∀ (W : WX) (pn : List (Addr × Obj)) (xe : Value → Shared → Prop), Takes (X.tr pn xe) W → PassesOwn (model X.prog X.w) X.A X.env xe → SMs (X.tr pn xe) W body mb)
    (hh : HsM X (h₀ :: hds) hs') : SM X W (.Try body (h₀ :: hds) [] [] pos) (sTry mb hs') := by
  intro g σ H ev S E rl er hP
  obtain ⟨l, h1, h2⟩ := hs_post (W := W) hh
  rw [hp] at er hP
  refine wS (ps_try_manyAs (tb := fun W' D σ H => ∃ (g : G) (ev : Ev) (S : Sto), Rel X.K X.mg g H S ∧ EvR X.K X.mg [] g ev σ ∧ ∀ pn, PostS X.K X.mg pn W' g (mb ev S) D) hs hf hN tk
    (fun W' pn xe tk' po => ⟨fun pins s σ H D I ⟨g, ev, S, q1, q2, q3⟩ => hb W' pn xe tk' po g σ H ev S D q1 q2.ofNil (q3 _) pins s I⟩) h1) ⟨g, ev, S, rl, er, fun pn => ?_⟩
  unfold sTry at hP
  revert hP
  generalize mb ev S = r
  intro hP
  cases r with
  | ok fl ev1 S1 =>
    cases fl with
    | nx => exact fun g' σ H l rl er => hP g' σ H l rl er.noX
    | bk => exact fun g' σ H l rl er => hP g' σ H l rl er.noX
    | ct => exact fun g' σ H l rl er => hP g' σ H l rl er.noX
    | rt d => exact fun g' v H l rl rr => hP g' v H l rl rr
  | ex x ev1 S1 => exact fun g' c d σ H l rl er rx => h2 g' x _ S1 E c d σ H (PostS.up l hP) rl er.noX rx
  | no => exact hP.elim
/-! ### what a suite reads of its exception -/
/-- e.f of a caught error of one of the classes cs -/
def readX (cs : List Str) (fld : Str) : Option (Option D) → Sto → R D
  | some (some (.xo c ns ds)), S => if cs.contains c = true then (match (ns.zip ds).lookup fld with
    | some d => .ok d S
    | none => .no) else .no
  | _, _ => .no
def mFld (i : Nat) (cs : List Str) (fld : Str) : M D := fun ev S => readX cs fld ev[i]? S
structure XF (K : PySem.W.Frag) (mg : Str → Option Value) (fld c : Str) : Prop where
  ex : ∃ C, mg c = some (.ref C) ∧ PySem.W.findIn K (.ref C) "__getattribute__" = some (some (.builtin "BaseException.__getattribute__")) ∧ PySem.W.findIn K (.ref C) "__getattr__" = some none ∧ PySem.W.subIn K (.ref C) (.type "BaseException") = some true ∧
    PySem.W.hasDictIn K C = true ∧ PySem.W.findIn K (.ref C) fld = some none
theorem Low.LowTxt.xf {K : PySem.W.Frag} {mg : Str → Option Value} {x fld iq : Str} {C fI : Addr} (T : Low.LowTxt K mg x fld iq C fI) : XF K mg fld x := ⟨C, T.gC, T.ga, T.gg, T.exC, T.hdC, T.noN⟩
theorem zip_get {K : PySem.W.Frag} {mg : Str → Option Value} {g : G} {fld : Str} : ∀ {ns : List Str} {ds : List D} {vs : List V} {d : D}, RepL K mg g ds vs → (ns.zip ds).lookup fld = some d → ∃ v, (ns.zip vs).lookup fld = some v ∧ Rep K mg g d v
  | [], _, _, _, _, h => by simp at h
  | _ :: _, [], _, _, _, h => by simp at h
  | n :: ns, e :: ds, _, d, .cons r rr, h => by
    rw [List.zip_cons_cons, List.lookup_cons] at h ⊢
    cases e1 : fld == n with
    | true => rw [e1] at h; cases h; exact ⟨_, rfl, r⟩
    | false => rw [e1] at h; exact zip_get rr h
theorem em_fld (i : Nat) (cs : List Str) {n fld : Str} {np pos : Pos} (hT : ∀ c ∈ cs, XF X.K X.mg fld c) (hN : X.N[i]? = some n := by rfl) (hv : Vis X.env.scope n := by first | exact Or.inl rfl | exact Or.inr (Or.inl rfl) | exact Or.inr (Or.inr rfl)) (hd : (n == ("__debug__" : Str)) = false := by decide)
    (hcd : (n == ("__classdict__" : Str)) = false := by decide) (hb : attributeBase (.Name n np) fld X.env (eval (.Name n np) X.env) = eval (.Name n np) X.env := by rfl) : EM X W (.Attribute (.Name n np) fld pos) (mFld i cs fld) := by
  intro g σ H ev S Q rl er hP pins s I
  unfold mFld at hP
  cases e : ev[i]? with
  | none => rw [e] at hP; exact hP.elim
  | some o =>
    cases o with
    | none => rw [e] at hP; exact hP.elim
    | some d =>
      obtain ⟨v, e1, e2⟩ := er.2 i d e
      rw [e] at hP
      cases d with
      | xo c ns ds =>
        simp only [readX] at hP
        split at hP
        · rename_i hc
          obtain ⟨a, oe, dd, C, vs, rfl, hm, hz, ⟨fv, hdat⟩, hC, hdd, hr⟩ := e2
          obtain ⟨C', hC', ga, gg, exC, hdC, noN⟩ := (hT c (by simpa using hc)).ex
          rw [hC] at hC'
          cases hC'
          split at hP
          · rename_i d hl
            obtain ⟨u0, hl2, hru⟩ := zip_get hr hl
            refine attr_of hb (thn ((pe_var (X := X) (i := i) hN hv hd hcd).run pins s σ H (fun v' H' => v' = .ref a ∧ H' = H) I ⟨.ref a, e1, rfl, rfl⟩) fun u s1 hh => ?_)
            obtain ⟨x, H1, I1, rx, rfl, rfl⟩ := hh
            obtain rfl : u = Value.ref a := rx
            obtain ⟨ha, _⟩ := I1.pin (a, oe) (List.mem_append_left _ hm)
            have hx : ObjOk X.prog X.w H1 s1.heap dd (.xd (ns.zip vs)) := I1.hok dd _ (rl.fin _ _ hdd)
            obtain ⟨mA, hns, hrel⟩ := hx
            obtain ⟨od, ho, hlk⟩ := lookIn_ns hns
            obtain ⟨u, hu, ru⟩ := RelO.some_of (v := u0) (o := mA fld) (by rw [← hl2]; exact hrel fld)
            have J : PySem.W.InstAt s1.heap a oe C (some od) := ⟨ha, hz.1, by unfold PySem.W.notCls; rw [hdat] <;> rfl, by rw [hz.2]; exact ho⟩
            exact HandSPX.exc_get I1.kIn J ga gg exC (PySem.W.findObj_own hdC noN rfl (by rw [hlk, hu])) (handed_of ru) ⟨u0, H1, I1.tok _, ru, hP g u0 H1 (G.le.refl g) rl hru⟩
          · exact hP.elim
        · exact hP.elim
      | _ => exact hP.elim
end
end ML


set_option Elab.async false
set_option linter.all false
set_option maxRecDepth 100000
set_option autoImplicit false
set_option maxHeartbeats 4000000
/-! isinstance(e, C) of a caught error that has a dict of its own -/
namespace ML
namespace Low
open PySem PySem.Spec PySem.W PySem.Calls PyProof.Rows
section
variable {prog : Program} {w : World} {A : Around} {E : Value → Shared → Prop} {s : Shared} {K : Frag} {x D : Addr} {ox : Obj} {od : Option Obj}
theorem find_data {C : Addr} {name : Str} {a g : Value} (hc : (clsIn K C).isSome = true) (ha : findIn K (.ref C) name = some (some a)) (hg : specialIn K a "__get__" = some (some g)) (ht : takesIn K a = some true) : findObj K C od name = some (.bind g a) := by
  obtain ⟨cd, hc⟩ := Option.isSome_iff_exists.mp hc
  unfold findObj
  rw [hc, Option.bind_some, ha, Option.bind_some]
  simp [hg, ht]
theorem ask_class {Q : Option Value → Shared → Prop} (C : L2.ExcC K D) (X : K.In s.heap) (I : InstAt s.heap x ox D od) (h : Q (some (.ref D)) { s with toks := s.toks + 1 }) : wpAny (model prog w) A (getAttr? (.ref x) "__class__") Q E s := by
  have hf : findObj K D od "__class__" = some (.bind (.builtin "getset_descriptor.__get__") (.builtin "object.__class__")) := find_data (by obtain ⟨cd, hc, _⟩ := any_some C.hd; rw [hc]; rfl) C.ha C.hn C.ht
  obtain ⟨hp, g, d, t, os⟩ := s
  have L0 := I.type (M := model prog w)
  have L1 := looks_findIn (M := model prog w) X C.hg
  have L2 := looks_findIn (M := model prog w) X C.hk
  have L3 := looks_find (M := model prog w) X I hf
  have sub : Looks (model prog w) hp (isInstance (.ref x) (.type "BaseException")) true := L0.andThen (looks_subIn X C.hs)
  have hx0 : (false && onTheHeap (Value.builtin "BaseException.__getattribute__")) = false := rfl
  have hx2 : (Value.builtin "BaseException.__getattribute__" == Value.builtin "object.__getattribute__") = false := by decide +kernel
  have hx1 : (onTheHeap (Value.ref D) && Value.builtin "BaseException.__getattribute__" == Value.builtin "object.__getattribute__") = false := by rw [hx2]; rfl
  unfold getAttr? getAttrBy? getAttrBy
  refine wpAny_bind (wpAny_mkText (wpAny_bind (wpAny_attempt (wpAny_holding (wpAny_bind (L0.at (wpAny_bind (L1.at ?_))))))))
  show wpAny _ _ (if (onTheHeap (Value.ref D) && Value.builtin "BaseException.__getattribute__" == Value.builtin "object.__getattribute__") = true then _ else _) _ _ _
  rw [hx1, if_neg Bool.false_ne_true]
  unfold getAttrByItsOwn hookBefore
  refine wpAny_bind ?_
  rw [if_pos (show onTheHeap (Value.ref D) = true from rfl)]
  refine L2.at ?_
  refine wpAny_bind (wpAny_attempt (wpAny_holding ?_))
  unfold callGetattribute
  rw [hx0, if_neg Bool.false_ne_true]
  unfold boundAndCalled
  rw [PySem.F.excAttr_ValueError.ga.bind (.ref x)]
  refine wpAny_bind (wpAny_pure ?_)
  show wpAny _ _ (call (.builtin "BaseException.__getattribute__") [.ref x, .str "__class__" t]) _ _ _
  refine wpAny_call (codeAny_call_builtin PySem.F.excAttr_ValueError.ga.plain PySem.F.entry_bexc_ga ?_)
  refine @check_slot (model prog w) _ _ ⟨hp, g, d, t + 1, os⟩ "BaseException.__getattribute__" "BaseException" "__getattribute__" (.ref x) [.str "__class__" t] [] _ (by decide +kernel) (by decide +kernel) sub (PySem.F.args_bexc_ga (.ref x) (.str "__class__" t)) ?_
  unfold Builtin.«object.__getattribute__»
  refine wpAny_bind (wpAny_of_eq (a := ((Value.ref x : Value), [Value.str "__class__" t])) (by first | rfl | (simp only [slotArgs]; rfl)) ?_)
  refine wpAny_bind (wpAny_pure (wpAny_bind (L0.at (wpAny_bind (L3.at ?_)))))
  show wpAny _ _ (holding [Value.builtin "object.__class__"] (call (.builtin "getset_descriptor.__get__") [.builtin "object.__class__", .ref x, .ref D]) >>= ret) _ _ _
  refine wpAny_bind (wpAny_holding (wpAny_call (class_get (s := ⟨hp, g, d, t + 1, os⟩) (ox := ox) (od := od) X I C.hm ?_)))
  refine wpAny_pure ?_
  show wpAny _ _ (handedOut (.ref D)) _ _ _
  rw [handedOut_of (v := .ref D) rfl]
  first
    | exact wpAny_pure (wpAny_pure h)
    | exact wpAny_pure h
    | exact wpAny_pure (wpAny_bind (wpAny_pure (wpAny_pure h)))
theorem kit_exc (C : L2.ExcC K D) : KitX K (.ref x) (.ref D) (fun h => ∃ od, InstAt h x ox D od) where
  ty := fun _ _ _ ⟨_, I⟩ => I.type
  it := fun _ _ X _ => by
    obtain ⟨cdD, hcD, _⟩ := any_some C.hd
    unfold clsIn at hcD
    split at hcD
    · rename_i c' d' cd' sl' ho
      intro A' Q' E' s' k q
      unfold isType loadHead
      exact wpAny_bind (wpAny_loadPart (k _ _ (X _ _ ho)) (wpAny_pure q))
    · cases hcD
  ne := fun h tp dd its n sl X htp => by
    obtain ⟨cdD, hcD, _⟩ := any_some C.hd
    refine Bool.eq_false_iff.mpr fun q => ?_
    have e : D = tp := Value.ref.inj (beq_iff_eq.mp q)
    subst e
    unfold clsIn at hcD
    split at hcD
    · rename_i c' d' cd' sl' ho
      have z := (X _ _ ho).symm.trans htp
      cases z
    · cases hcD
  ca := fun X ⟨_, I⟩ k => ask_class C X I k
end
end Low
open PySem PySem.Spec PyProof.Rows L2
def testX (t : Str → Option Bool) : Option (Option D) → Sto → R D
  | some (some (.xo c _ _)), S => (match t c with
    | some b => .ok (.bl b) S
    | none => .no)
  | _, _ => .no
/-- isinstance(e, Cn) of the suite's error -/
def mIsX (i : Nat) (t : Str → Option Bool) : M D := fun ev S => testX t ev[i]? S
section
variable {X : Cx} {W : WX}
theorem em_isX (i : Nat) {n x : Str} {np p0 p1 pos : Pos} {Cn : Addr} (t : Str → Option Bool) (hm : X.mg "isinstance" = none) (hC : X.mg x = some (.ref Cn))
    (hT : ∀ c b, t c = some b → ∃ C, X.mg c = some (.ref C) ∧ ExcC X.K C ∧ PySem.W.kitOne X.K (.ref C) (.ref Cn) = some b) (hN : X.N[i]? = some n := by rfl)
    (hv : Vis X.env.scope n := by first | exact Or.inl rfl | exact Or.inr (Or.inl rfl) | exact Or.inr (Or.inr rfl)) (hd : (n == ("__debug__" : Str)) = false := by decide)
    (hcd : (n == ("__classdict__" : Str)) = false := by decide) (hg : Gl X "isinstance" := by rfl) (hgx : Gl X x := by rfl) (hdx : (x == ("__debug__" : Str)) = false := by decide)
    (hs : starEach [.Name n np, .Name x p1] X.env = (false, eval (.Name n np) X.env) :: starEach [.Name x p1] X.env := by rfl)
    (hs2 : starEach [.Name x p1] X.env = (false, eval (.Name x p1) X.env) :: starEach [] X.env := by rfl) (hpl : (backTo pos (starEach [.Name x p1] X.env)).any (·.1) = false := by rfl) :
    EM X W (.Call (.Name "isinstance" p0) [.Name n np, .Name x p1] [] pos) (mIsX i t) := by
  intro g σ H ev S Q rl er hP pins s I
  unfold mIsX at hP
  cases e : ev[i]? with
  | none => rw [e] at hP; exact hP.elim
  | some o =>
    cases o with
    | none => rw [e] at hP; exact hP.elim
    | some d =>
      obtain ⟨v, e1, e2⟩ := er.2 i d e
      rw [e] at hP
      cases d with
      | xo c ns ds =>
        simp only [testX] at hP
        split at hP
        · rename_i b hb
          obtain ⟨a, oe, dd, C, vs, rfl, hmem, hz, ⟨fv, hdat⟩, hCm, hdd, hr⟩ := e2
          obtain ⟨C', hC', ex, hk⟩ := hT c b hb
          rw [hCm] at hC'
          cases hC'
          have cr : CallR X (.builtin "isinstance") (fun xs H1 Q => xs = [.ref a, .ref Cn] ∧ H1 = H ∧ Q (.bl b) H1) := by
            intro pins s σ' H1 xs us Q I1 r hq
            obtain ⟨rfl, rfl, q⟩ := hq
            cases r with
            | cons rx rr =>
              cases rr with
              | cons rt rr =>
                cases rr
                cases rx
                cases rt
                obtain ⟨ha, _⟩ := I1.pin (a, oe) (List.mem_append_left _ hmem)
                have hx : ObjOk X.prog X.w H1 s.heap dd (.xd (ns.zip vs)) := I1.hok dd _ (rl.fin _ _ hdd)
                obtain ⟨mA, hns, hrel⟩ := hx
                obtain ⟨od, ho, hlk⟩ := lookIn_ns hns
                have J : PySem.W.InstAt s.heap a oe C (some od) := ⟨ha, hz.1, by unfold PySem.W.notCls; rw [hdat] <;> rfl, by rw [hz.2]; exact ho⟩
                exact PySem.W.kia_one (Low.kit_exc ex) I1.kIn ⟨_, J⟩ hk (fun z => nomatch z) fun tk => ⟨.bl b, H1, I1.kept (t' := tk) fun _ _ z => z, rfl, q⟩
          refine (pe_callB cr hg hm rfl (pa_cons (pe_var (X := X) (i := i) hN hv hd hcd) (pa_cons (pe_glob (X := X) (v := .ref Cn) hgx hC rfl hdx) pa_nil hs2) hs) (by decide) (by decide) hs hpl).run pins s σ H Q I ?_
          exact ⟨.ref a, e1, rfl, rfl, hP g _ H (G.le.refl g) rl (.bl b)⟩
        · exact hP.elim
      | _ => exact hP.elim
end
end ML


set_option Elab.async false
set_option linter.all false
set_option maxRecDepth 100000
set_option autoImplicit false
set_option maxHeartbeats 4000000
/-! repr of data -/
namespace ML
open PySem PySem.Spec PyProof.Rows L2
theorem noDictL {xs : List PyData} : PyData.canLay0 (.list xs) = true → (PyData.list xs).hasDict = false := PyData.hasDict_of_canLay _
def prepr : List D → Sto → R D := fun xs S => match xs with
  | [x] => match py deep S x with
    | some d => if (d.showable && decide (d.shown.length ≤ 16777216)) = true then .ok (.str d.shown) S else .no
    | none => .no
  | _ => .no
section
variable {X : Cx} {W : WX}
theorem c_repr (hgd : X.A.guards = some []) (hu : X.A.units + 64 < cLine) : CallR X (.builtin "repr") (rM X prepr) := by
  intro pins s σ H xs us Q I r h
  obtain ⟨g, S, ds, W, σ', rl, rx, hP⟩ := h
  unfold prepr at hP
  split at hP
  · rename_i x
    split at hP
    · rename_i d hd
      split at hP
      · rename_i hc
        have hc' : d.showable = true ∧ d.shown.length ≤ 16777216 := by simpa using hc
        obtain ⟨v, rfl, rv⟩ := rep1 rx
        cases r with
        | cons ru rr =>
          cases rr
          rename_i u
          obtain ⟨as, rd⟩ := Dp.reads I d v u (py_dp rl deep _ _ _ rv hd) ru
          have sh := py_shape deep _ _ hd
          have nd := PyData.hasDict_of_canLay d sh.1
          have fin : ∀ h' (u : Tok) tk, (∀ b o, s.heap.get? b = some o → h'.get? b = some o) → EP X pins σ Q (.str d.shown u) { s with heap := h', toks := tk } := fun h' u tk hk =>
            ⟨.str d.shown, H, I.kept (t' := tk) hk, ⟨u, rfl⟩, post_ok rl (.str _) hP⟩
          have key : ∀ a, Reads s.heap (.ref a) d as → wpAny (model X.prog X.w) X.A (call (.builtin "repr") [.ref a]) (EP X pins σ Q) X.xe s := fun a rd =>
            repr_of_reads' (h₀ := s.heap) rd hc'.1 (PyData.noDict_hsm nd) hgd (by have := sh.2; have e : deep = 12 := rfl; omega) (fun _ _ e => e) fin (by rw [sizeL]; exact hc'.2)
          cases d with
          | list xs => cases rd with | list h1 h2 h3 h4 => exact key _ (.list h1 h2 h3 h4)
          | tuple xs => cases rd with | tuple h1 h2 h3 h4 => exact key _ (.tuple h1 h2 h3 h4)
          | none => cases rd; exact PySem.P.repr_of_none (fin s.heap _ _ fun _ _ e => e)
          | bool b => cases rd; exact PySem.P.repr_of_bool (fin s.heap _ _ fun _ _ e => e)
          | int b => cases rd; exact PySem.P.repr_of_int (by simpa [PyData.showable] using hc'.1) (fin s.heap _ _ fun _ _ e => e)
          | str b => cases rd; exact PySem.P.repr_of_str (fin s.heap _ _ fun _ _ e => e) (by rw [sizeL]; exact hc'.2)
          | dict kvs => simp [PyData.canLay0] at sh
      · exact hP.elim
    · exact hP.elim
  · exact hP.elim
end
end ML


set_option Elab.async false
set_option linter.all false
set_option maxRecDepth 100000
set_option autoImplicit false
set_option maxHeartbeats 4000000
/-! e.replace(y, z) of written texts, in a list behind an item that has given out a token -/
namespace ML
open PySem PySem.Spec PyProof.Rows L2
/-- arguments, one token given out -/
def AMT (X : Cx) (W : WX) (es : List Expr) (m : M (List D)) : Prop := ∀ (g : G) (σ : Sl) (H : Hp) (ev : Ev) (S : Sto) (Q : List V → Hp → Prop), Rel X.K X.mg g H S → EvR X.K X.mg X.pn g ev σ → Post X.K X.mg (RepL X.K X.mg) W σ g (m ev S) Q →
  ∀ (pos : Pos) (pins : List (Addr × Obj)) (s : Shared), 1 ≤ s.toks → Inv X pins σ H s → wpAny (model X.prog X.w) X.A (spliced (backTo pos (starEach es X.env))) (AP X pins σ Q) X.xe s
section
variable {X : Cx} {W : WX} {e o b : Expr} {es : List Expr} {ma mo mb : M D} {ml : M (List D)} {y z : Str} {j k : Nat} {c0 c1 apos pos : Pos}
theorem amt_of (h : AM X W es ml) : AMT X W es ml := fun g σ H ev S Q rl er hP pos pins s _ I => h g σ H ev S Q rl er hP pos pins s I
/-- the first item is done, its value stands for d -/
theorem cons_tail {g : G} {σ : Sl} {ev : Ev} {S : Sto} {Q : List V → Hp → Prop} {H : Hp} (hr : AMT X W es ml) {pos : Pos} {pins : List (Addr × Obj)} {s : Shared} {v : V} {u : Value} {d : D}
    (rl : Rel X.K X.mg g H S) (er : EvR X.K X.mg X.pn g ev σ) (rd : Rep X.K X.mg g d v) (h0 : 1 ≤ s.toks) (I : Inv X pins σ H s) (ru : RelV v u)
    (hP : Post X.K X.mg (RepL X.K X.mg) W σ g ((ml ev S).bind fun xs S2 => .ok (d :: xs) S2) Q) :
    wpAny (model X.prog X.w) X.A (spliced (backTo pos (starEach es X.env))) (fun us s' => AP X pins σ Q (u :: us) s') X.xe s :=
  thn (hr g σ H ev S (fun vs H2 => Q (v :: vs) H2) rl er (Post.bind hP fun g2 xs S2 vs H2 l2 rl2 rxs hP2 => hP2 g2 (v :: vs) H2 (G.le.refl g2) rl2 (.cons (rd.le l2) rxs)) pos pins s h0 I)
    fun us s' ⟨vs, H2, I2, r2, q2⟩ => ⟨v :: vs, H2, I2, .cons ru r2, q2⟩
def qTail (X : Cx) (W : WX) (ml : M (List D)) (σ : Sl) (ev : Ev) (Q : List V → Hp → Prop) : VK := fun v H1 => ∃ (g1 : G) (d : D) (S1 : Sto), Rel X.K X.mg g1 H1 S1 ∧ EvR X.K X.mg X.pn g1 ev σ ∧ Rep X.K X.mg g1 d v ∧ Post X.K X.mg (RepL X.K X.mg) W σ g1 ((ml ev S1).bind fun xs S2 => .ok (d :: xs) S2) Q
theorem amt_cons (ha : EM X W e ma) (hr : AMT X W es ml) (hs : starEach (e :: es) X.env = (false, eval e X.env) :: starEach es X.env := by rfl) : AMT X W (e :: es) (mCons ma ml) := by
  intro g σ H ev S Q rl er hP pos pins s h0 I
  rw [hs]
  show wpAny _ _ (spliced ((false, eval e X.env) :: backTo pos (starEach es X.env))) _ _ s
  refine Calls.spliced_cons (wpAny_mono (PySem.wpAny_toks (ha g σ H ev S (fun v H1 => ∃ (g1 : G) (d : D) (S1 : Sto), Rel X.K X.mg g1 H1 S1 ∧ EvR X.K X.mg X.pn g1 ev σ ∧ Rep X.K X.mg g1 d v ∧ Post X.K X.mg (RepL X.K X.mg) W σ g1 ((ml ev S1).bind fun xs S2 => .ok (d :: xs) S2) Q) rl er
    (Post.bind hP fun g1 x S1 v H1 l1 rl1 rx hP1 => ⟨g1, x, S1, rl1, er.le l1, rx, hP1⟩) pins s I)) (fun u s1 q => ?_) fun _ _ z => z.2)
  obtain ⟨hk, v, H1, I1, r1, g1, d, S1, rl1, er1, rx, hP1⟩ := q
  exact cons_tail hr rl1 er1 rx (Nat.le_trans h0 hk) I1 r1 hP1
def prepl (y z : Str) : P1 := fun x S => match x with
  | .str x => if x.length + (x.length + 1) * z.length ≤ 16777216 then .ok (.str (Txt.replace x y z)) S else .no
  | _ => .no
theorem amt_repl (ho : EM X W o mo) (hr : AMT X W es ml) (hyz : (y == z) = false := by decide)
    (hst : starEach [.Constant (.str y) j c0, .Constant (.str z) k c1] X.env = [(false, eval (.Constant (.str y) j c0) X.env), (false, eval (.Constant (.str z) k c1) X.env)] := by rfl)
    (hbase : attributeBase o "replace" X.env (eval o X.env) = eval o X.env := by rfl) (hline : (apos.endLine == pos.line) = true := by rfl)
    (hs : starEach (.Call (.Attribute o "replace" apos) [.Constant (.str y) j c0, .Constant (.str z) k c1] [] pos :: es) X.env = (false, eval (.Call (.Attribute o "replace" apos) [.Constant (.str y) j c0, .Constant (.str z) k c1] [] pos) X.env) :: starEach es X.env := by rfl) :
    AMT X W (.Call (.Attribute o "replace" apos) [.Constant (.str y) j c0, .Constant (.str z) k c1] [] pos :: es) (mCons (m1 (prepl y z) mo) ml) := by
  intro g σ H ev S Q rl er hP pos' pins s h0 I
  rw [hs]
  show wpAny _ _ (spliced ((false, eval (.Call (.Attribute o "replace" apos) [.Constant (.str y) j c0, .Constant (.str z) k c1] [] pos) X.env) :: backTo pos' (starEach es X.env))) _ _ s
  have hP' : Post X.K X.mg (Rep X.K X.mg) W σ g (m1 (prepl y z) mo ev S) (qTail X W ml σ ev Q) :=
    Post.bind hP fun g1 x S1 v H1 l1 rl1 rx hP1 => ⟨g1, x, S1, rl1, er.le l1, rx, hP1⟩
  refine Calls.spliced_cons (wpAny_mono (PySem.wpAny_toks (CwR.pet_replC (peW X o) hyz hst hbase hline pins s σ H (qTail X W ml σ ev Q) h0 I (ho g σ H ev S _ rl er (Post.bind hP' fun g1 x S1 v H1 l1 rl1 rx hP1 => ?_)))) (fun u s1 q => ?_) fun _ _ z => z.2)
  · unfold prepl at hP1
    split at hP1
    · rename_i z0
      split at hP1
      · rename_i hz
        cases rx
        exact ⟨z0, rfl, hz, hP1 g1 _ H1 (G.le.refl g1) rl1 (.str _)⟩
      · exact hP1.elim
    · exact hP1.elim
  · obtain ⟨hk, v, H1, I1, r1, g1, d, S1, rl1, er1, rx, hP1⟩ := q
    exact cons_tail hr rl1 er1 rx (Nat.le_trans h0 hk) I1 r1 hP1
/-- the item ahead gives out a token: c + b with a written text c -/
theorem am_tok {c : Str} {op : Operator} {p : P2} {bp : Pos} (ob : OpM X W (binaryOp op) p) (hb : EM X W b mb) (hr : AMT X W es ml)
    (hs : starEach (.BinOp (.Constant (.str c) j c0) op b bp :: es) X.env = (false, eval (.BinOp (.Constant (.str c) j c0) op b bp) X.env) :: starEach es X.env := by rfl) :
    AM X W (.BinOp (.Constant (.str c) j c0) op b bp :: es) (mCons (m2 p (mC (.str c)) mb) ml) := by
  intro g σ H ev S Q rl er hP pos pins s I
  rw [hs]
  show wpAny _ _ (spliced ((false, eval (.BinOp (.Constant (.str c) j c0) op b bp) X.env) :: backTo pos (starEach es X.env))) _ _ s
  have hP' : Post X.K X.mg (Rep X.K X.mg) W σ g (m2 p (mC (.str c)) mb ev S) (qTail X W ml σ ev Q) :=
    Post.bind hP fun g1 x S1 v H1 l1 rl1 rx hP1 => ⟨g1, x, S1, rl1, er.le l1, rx, hP1⟩
  have hP'' : Post X.K X.mg (Rep X.K X.mg) W σ g ((mb ev S).bind fun y S2 => p (.str c) y S2) (qTail X W ml σ ev Q) := hP'
  have run : ∀ {E : Value → Shared → Prop} {QQ : Value → Shared → Prop}, wpAny (model X.prog X.w) X.A (eval b X.env) (fun u s2 => wpAny (model X.prog X.w) X.A (binaryOp op (.str c s.toks) u) QQ E s2) E { s with toks := s.toks + 1 } → wpAny (model X.prog X.w) X.A (eval (.BinOp (.Constant (.str c) j c0) op b bp) X.env) QQ E s := fun h => wpAny_BinOp (Calls.Constant_str h)
  refine Calls.spliced_cons (run ?_)
  refine wpAny_mono (PySem.wpAny_toks (hb g σ H ev S (fun u H2 => ∃ (g2 : G) (y : D) (S2 : Sto), g.le g2 ∧ Rel X.K X.mg g2 H2 S2 ∧ Rep X.K X.mg g2 y u ∧ Post X.K X.mg (Rep X.K X.mg) W σ g2 (p (.str c) y S2) (qTail X W ml σ ev Q)) rl er
    (Post.bind hP'' fun g2 y S2 u H2 l2 rl2 ry hP2 => ⟨g2, y, S2, l2, rl2, ry, hP2⟩) pins { s with toks := s.toks + 1 } (I.tok _))) (fun uu s2 q => ?_) fun _ _ z => z.2
  obtain ⟨hk, u, H2, I2, ru, g2, y, S2, l2, rl2, ry, hP2⟩ := q
  have hk' : s.toks + 1 ≤ s2.toks := hk
  refine wpAny_mono (PySem.wpAny_toks (ob g2 σ H2 S2 (.str c) y (.str c) u _ rl2 (.str c) ry hP2 pins s2 (.str c s.toks) uu I2 ⟨s.toks, rfl⟩ ru)) (fun ww s3 q => ?_) fun _ _ z => z.2
  obtain ⟨hk3, v, H3, I3, r3, g3, d, S3, rl3, er3, rx3, hP3⟩ := q
  exact cons_tail hr rl3 er3 rx3 (by omega) I3 r3 hP3
end
end ML


set_option Elab.async false
set_option linter.all false
set_option maxRecDepth 100000
set_option autoImplicit false
set_option maxHeartbeats 4000000
/-! the end: from the promise of the law's def to the row's goal -/
namespace ML
open PySem PySem.Spec PyProof.Rows L2
def G.start (H : Hp) : G := { r := [], f := H, z := fun _ => none }
theorem rel_start {K : PySem.W.Frag} {mg : Str → Option Value} {H : Hp} : Rel K mg (G.start H) H [] :=
  ⟨fun _ _ h => h, fun _ _ h => (by cases h), fun _ _ _ => rfl, rfl, List.nodup_nil, fun n a h => (by simp [G.start] at h), fun n a h => rfl, fun n c a h => (by simp at h)⟩
theorem rep_ints {K : PySem.W.Frag} {mg : Str → Option Value} {g : G} : ∀ ns : List Int, RepL K mg g (ns.map D.int) (ns.map V.int)
  | [] => .nil
  | n :: ns => .cons (.int n) (rep_ints ns)
theorem law_callG {P : Program} {w : World} {K : PySem.W.Frag} {mg mb : Str → Option Value} {k : Nat} {fa a : Addr} {fd : FuncData} {x : Str} {m : List D → Sto → R D} {s₁ : Shared} {vs : List Value} {ns : List Int}
    (KX : K.In s₁.heap) (hns : s₁.heap.Ns mainGlobals mg) (hb : s₁.heap.Ns builtinsNs mb) (hbb : ∀ x : Str, x ≠ "__name__" → mb x = bootBuiltins x) (hlim : s₁.heap.NoLimit) (hg : s₁.gens = #[])
    (ha : s₁.heap.get? a = some { cls := .type "list", data := .seq vs.toArray }) (hi : IntsAre vs ns) (hl : ns.length ≤ sizeLine) (hr : Room k callerA) (hgd : callerA.guards = some [])
    (F : FnG P w K mg k fa fd [x] m) (hbind : ∀ (s : Shared) (u : Value), BindsTo s fd ⟨[u], []⟩ [(x, u)])
    (hm : ∃ S, m [.rol (ns.map D.int)] [] = .ok (.bl true) S) :
    codeAny (model P w) callerA (.call (.ref fa) ⟨[.ref a], []⟩) (fun r s' => r = .ok (.ret (.bool true)) ∧ OldK s₁.heap s'.heap ∧ s'.os = s₁.os ∧ AllBare s'.gens) s₁ := by
  have rv := vals_ints hi
  have lenV := hi.length
  -- from an abstract heap in which nothing but the script may be tracked
  have core : ∀ H : Hp, L2.Only H → SqL K H a (ns.map V.int) → HOk P w H s₁.heap → (∀ b, H b ≠ none → b = a) → (H a ≠ none → K.lookup a = none) →
      codeAny (model P w) callerA (.call (.ref fa) ⟨[.ref a], []⟩) (fun r s' => r = .ok (.ret (.bool true)) ∧ OldK s₁.heap s'.heap ∧ s'.os = s₁.os ∧ AllBare s'.gens) s₁ := by
    intro H hO hS hok hA hK
    have base_of : ∀ {b : Addr} {o : Obj}, s₁.heap.get? b = some o → H b = none → (hidT s₁.heap H).get? b = some o := fun e n => hidT_get e n
    have noA : ∀ {b : Addr} {o : Obj} {es : Array DictEntry} {ep : Nat}, s₁.heap.get? b = some o → o.data = .dict es ep → H b = none := fun {b o es ep} e d => by
      cases q : H b with
      | none => rfl
      | some u =>
        have e' : b = a := hA b (by rw [q]; simp)
        subst e'
        rw [ha] at e; cases e
        have d' : Data.seq vs.toArray _ = Data.dict es ep := d
        cases d'
    have nsK : ∀ {b : Addr} {m : Str → Option Value}, s₁.heap.Ns b m → (hidT s₁.heap H).Ns b m := fun {b m} ⟨o, es, ep, e, d, r⟩ => ⟨o, es, ep, base_of e (noA e d), d, r⟩
    have hKb : K.In (hidT s₁.heap H) := fun b o e => base_of (KX b o e) (by
      cases q : H b with
      | none => rfl
      | some u =>
        have e' : b = a := hA b (by rw [q]; simp)
        subst e'
        rw [hK (by rw [q]; simp)] at e; cases e)
    have hM : Mod K mg (hidT s₁.heap H) := ⟨hKb, nsK hns, ⟨mb, nsK hb, hbb⟩, let ⟨mc, h1, h2⟩ := hlim; ⟨mc, nsK h1, h2⟩⟩
    have e0 : Env0 P w K mg (hidT s₁.heap H) callerA [] s₁ H := ⟨rfl, hM, fun b o e => of_hidT e, Nat.le_of_eq (hidT_size _ _), trivial, fun b hb => absurd (show b ∈ ([] : List Addr) from hb) (by simp), hok, .of_eq hg⟩
    refine codeAny_mono (F.run (hidT s₁.heap H) callerA [] s₁ H ⟨[.ref a], []⟩ [.ref a] [.ref a] [.rol (ns.map D.int)] (G.start H) [] (fun v _ => v = .bl true) (fun _ _ _ => False) hr hgd e0 (hbind s₁ (.ref a)) (.cons rfl .nil) rel_start (.cons (.rol hS (rep_ints ns)) .nil) rfl (by obtain ⟨S, e⟩ := hm; rw [e]; intro g' v H' _ _ r; cases r; rfl)) fun r s' h => ?_
    cases r with
    | error e => obtain ⟨_, _, _, _, _, _, _, _, _, _, _, _, z⟩ := h; exact z.elim
    | ok fl =>
      cases fl with
      | next => exact False.elim h
      | brk => exact False.elim h
      | cont => exact False.elim h
      | ret u =>
        obtain ⟨v, H', os, bare, un, hok', r', q⟩ := h
        have q' : v = .bl true := q
        subst q'
        obtain rfl : u = Value.bool true := r'
        refine ⟨rfl, OldK.of_keep fun b o e => ?_, os, bare⟩
        cases q : H b with
        | none => exact un.keep b o e q (by intro z; exact absurd (show b ∈ ([] : List Addr) from z) (by simp)) (by simp)
        | some u =>
          rcases hO b with z | ⟨ob, xs, z⟩
          · rw [q] at z; cases z
          · have z2 := un.frzs b ob _ z
            obtain ⟨e1, _⟩ := hok b _ z
            obtain ⟨e2, _⟩ := hok' b _ z2
            rw [e] at e1; cases e1
            exact e2
  cases hk : K.lookup a with
  | some o =>
    -- the script is one of the module's own objects
    have e := KX a o hk
    rw [ha] at e
    cases e
    refine core (fun _ => none) (fun _ => .inl rfl) (.inr ⟨_, vs.toArray, _, hk, rfl, rfl, rfl, by rw [List.size_toArray, lenV]; exact hl, by simpa using rv⟩) (fun b u z => by have z' : (none : Option HO) = some u := z; cases z') (fun b z => absurd rfl z) fun z => absurd rfl z
  | none =>
    refine core (fun b => if b = a then some (.frz { cls := .type "list", data := .seq vs.toArray } (.lst (ns.map V.int))) else none) (fun b => ?_) (.inl (.inr ⟨{ cls := .type "list", data := .seq vs.toArray }, if_pos rfl⟩)) (fun b u z => ?_) (fun b z => ?_) fun _ => hk
    · by_cases hb : b = a
      · exact .inr ⟨_, _, if_pos hb⟩
      · exact .inl (if_neg hb)
    · by_cases hb : b = a
      · have z' := (if_pos hb).symm.trans z
        cases z'
        subst hb
        exact ⟨ha, by rw [List.length_map]; exact hl, vs, _, rv, ha⟩
      · have z' := (if_neg hb).symm.trans z
        cases z'
    · by_cases hb : b = a
      · exact hb
      · exact absurd (if_neg hb) z
theorem walk_G {l : PySem.W.OpenLaw} {n k : Nat} {q : Program} {loose : List Str} {XP : (Str → Option Value) → Heap → Prop} {YP : World → Heap → Prop} {d : DefRec} {K : Params → PySem.W.Frag} {m : List D → Sto → R D} {x : Str}
    (hn : l.most = some n) (hn2 : n ≤ sizeLine) (hdf : d.params.defaults = []) (hr : Room k callerA) (hgd : callerA.guards = some [])
    (hY : ∀ (w : World) (h : Heap), YP w h → (K w.params).In h)
    (F : ∀ (w : World) (mg : Str → Option Value) (fa : Addr) (h : Heap), (K w.params).In h → h.Ns mainGlobals mg → mg d.name = some (.ref fa) →
      ∃ fd : FuncData, (∀ (s : Shared) (u : Value), BindsTo s fd ⟨[u], []⟩ [(x, u)]) ∧ FnG l.prog w (K w.params) mg k fa fd [x] m)
    (hm : ∀ ns : List Int, ns.length ≤ n → ∃ S, m [.rol (ns.map D.int)] [] = .ok (.bl true) S) :
    PySem.W.WalkO q loose XP YP l.row.toRowW d [] (fun f vs => PySem.call f vs) := by
  refine Att.attach_call hn hdf fun w s₀ s₁ mg mb fa o pm cd doc a vs ns G Y ho hd hcd hmg hobj hints hlen hg => ?_
  have KX := hY w _ Y
  obtain ⟨fd, hb, hF⟩ := F w mg fa _ KX G.T.g hmg
  exact law_callG KX G.T.g G.T.b G.T.builtins G.T.nolimit hg hobj hints (Nat.le_trans hlen hn2) hr hgd hF hb (hm ns hlen)
end ML


set_option Elab.async false
set_option linter.all false
set_option maxRecDepth 100000
set_option autoImplicit false
set_option maxHeartbeats 4000000
/-! chains, stores at places, defs by their names -/
namespace ML
open PySem PySem.Spec PyProof.Rows L2
/-- W at these slots, whatever the slots -/
def atS (W : WX) (σ : Sl) : WX := fun c d _ H => W c d σ H
section
variable {X : Cx} {W : WX} {a b c : Expr} {ma mb mc : M D} {pos : Pos} {p p' : P2}
theorem Post.atS {K : PySem.W.Frag} {mg : Str → Option Value} {α β : Type} {Rp : G → α → β → Prop} {σ σ' : Sl} {g : G} {r : R α} {Q : β → Hp → Prop} (h : Post K mg Rp W σ g r Q) : Post K mg Rp (ML.atS W σ) σ' g r Q := by
  cases r with
  | ok x S => exact h
  | ex x S => exact h
  | no => exact h
def chain2 (p' : P2) (mc : M D) (ev : Ev) (y : D) : D → Sto → R D := fun z S => match z with
  | .bl true => (mc ev S).bind fun w S4 => p' y w S4
  | .bl false => .ok (.bl false) S
  | _ => .no
def mChain (p p' : P2) (ma mb mc : M D) : M D := fun ev S => (ma ev S).bind fun x S1 => (mb ev S1).bind fun y S2 => (p x y S2).bind (chain2 p' mc ev y)
theorem chain_read {op op' : CmpOp} {g : G} {σ : Sl} {H : Hp} {ev : Ev} {S : Sto} {Q : VK} (ha : EM X W a ma) (hb : EM X W b mb) (hc : EM X W c mc) (rl : Rel X.K X.mg g H S) (er : EvR X.K X.mg X.pn g ev σ)
    (hP : Post X.K X.mg (Rep X.K X.mg) W σ g (mChain p p' ma mb mc ev S) Q) :
    tChain (fun v u H Q => ∃ (g : G) (S : Sto) (x y : D), Rel X.K X.mg g H S ∧ Rep X.K X.mg g x v ∧ Rep X.K X.mg g y u ∧ ∀ σ', Post X.K X.mg (Rep X.K X.mg) (atS W σ) σ' g (p x y S) Q)
      (fun v u H Q => ∃ (g : G) (S : Sto) (x y : D), Rel X.K X.mg g H S ∧ Rep X.K X.mg g x v ∧ Rep X.K X.mg g y u ∧ ∀ σ', Post X.K X.mg (Rep X.K X.mg) (atS W σ) σ' g (p' x y S) Q) (WE X a) (WE X b) (WE X c) σ H Q := by
  refine ha g σ H ev S _ rl er (Post.bind hP fun g1 x S1 v H1 l1 rl1 rx hP1 => ?_)
  refine hb g1 σ H1 ev S1 _ rl1 (er.le l1) (Post.bind hP1 fun g2 y S2 u H2 l2 rl2 ry hP2 => ?_)
  refine ⟨g2, S2, x, y, rl2, rx.le l2, ry, fun σ' => Post.atS (Post.bind hP2 fun g3 z S3 zv H3 l3 rl3 rz hP3 => ?_)⟩
  unfold chain2 at hP3
  split at hP3
  · cases rz
    refine ⟨true, rfl, ?_⟩
    rw [if_pos rfl]
    refine hc g3 σ H3 ev S3 _ rl3 (((er.le l1).le l2).le l3) (Post.bind hP3 fun g4 w S4 wv H4 l4 rl4 rw4 hP4 => ?_)
    exact ⟨g4, S4, y, w, rl4, (ry.le l3).le l4, rw4, fun σ'' => Post.atS hP4⟩
  · cases rz
    refine ⟨false, rfl, ?_⟩
    rw [if_neg Bool.false_ne_true]
    exact hP3 g3 _ H3 (G.le.refl g3) rl3 (.bl false)
  · exact hP3.elim
theorem em_chain {op op' : CmpOp} (o : ∀ W, OpM X W (compareOp op) p) (o' : ∀ W, OpM X W (compareOp op') p') (ha : EM X W a ma) (hb : EM X W b mb) (hc : EM X W c mc) (hm : lastMarks [op, op'] [b, c] = false := by with_unfolding_all rfl) : EM X W (.Compare a [op, op'] [b, c] pos) (mChain p p' ma mb mc) := by
  intro g σ H ev S Q rl er hP
  exact wE (pe_chain ((o (atS W σ)).opR (g := g)) ((o' (atS W σ)).opR (g := g)) (peW X a) (peW X b) (peW X c) hm) (chain_read (op := op) (op' := op') ha hb hc rl er hP)
theorem tm_chain {op op' : CmpOp} (o : ∀ W, OpM X W (compareOp op) p) (o' : ∀ W, OpM X W (compareOp op') p') (ha : EM X W a ma) (hb : EM X W b mb) (hc : EM X W c mc) (hm : lastMarks [op, op'] [b, c] = false := by with_unfolding_all rfl) : TM X W (.Compare a [op, op'] [b, c] pos) (mT (mChain p p' ma mb mc)) := by
  intro g σ H ev S Q rl er hP
  have hP' : Post X.K X.mg (Rep X.K X.mg) W σ g (mChain p p' ma mb mc ev S) (fun v H' => ∃ k, v = .bl k ∧ Q k H') := Post.bind hP fun g1 x S1 v H1 l1 rl1 rx hP1 => post_asB rl1 rx hP1
  exact wT (pt_chain ((o (atS W σ)).opR (g := g)) ((o' (atS W σ)).opR (g := g)) (peW X a) (peW X b) (peW X c) hm) (chain_read (op := op) (op' := op') ha hb hc rl er hP')
/-! ### o[i] = v -/
def setAt (ev : Ev) (d : D) (x y : D) (S : Sto) : R Ev := match x, y with
  | .ref n, .int k => match S[n]? with
    | some (.lst ds) => match ixN ds.length k with
      | some j => .ok ev (S.set n (.lst (ds.set j d)))
      | none => .no
    | _ => .no
  | _, _ => .no
def tgSub (mo mi : M D) : D → M Ev := fun d ev S => (mo ev S).bind fun x S1 => (mi ev S1).bind fun y S2 => setAt ev d x y S2
theorem Post.w0 {K : PySem.W.Frag} {mg : Str → Option Value} {α β : Type} {Rp : G → α → β → Prop} {σ σ' : Sl} {g : G} {r : R α} {Q : β → Hp → Prop} (h : Post K mg Rp W0 σ g r Q) : Post K mg Rp W0 σ' g r Q := by
  cases r with
  | ok x S => exact h
  | ex x S => exact fun g2 c d H l rl rx => (h g2 c d H l rl rx).elim
  | no => exact h
theorem gm_sub {vs : List Nat} (ha : EM X W0 a ma) (hb : EM X W0 b mb)
    (hx : ∀ v, assign (.Subscript a b pos) X.env v = (do let ov ← holding [v] (eval a X.env); let iv ← holding [v, ov] (eval b X.env); standAt pos; holding [v, ov, iv] (setItem ov iv v); release [v, ov, iv] []) := by intros; rfl) : GM X vs (.Subscript a b pos) (tgSub ma mb) := by
  intro g σ H ev S d v Q rl er r hP pins s u I ru
  refine (pg_sub (peW X a) (peW X b) set_list hx).run pins s σ H v u Q I ru ?_
  have hP0 := Post.w0 (σ' := σ) hP
  refine ha g σ H ev S _ rl er (Post.bind hP0 fun g1 x S1 xv H1 l1 rl1 rx hP1 => ?_)
  refine hb g1 σ H1 ev S1 _ rl1 (er.le l1) (Post.bind hP1 fun g2 y S2 yv H2 l2 rl2 ry hP2 => ?_)
  unfold setAt at hP2
  split at hP2
  · rename_i n k
    split at hP2
    · rename_i ds hds
      split at hP2
      · rename_i j hj
        have rx' := rx.le l2
        cases rx' with
        | ref ha' =>
          cases ry
          obtain ⟨h1, h2, vs', h3, h4⟩ := rl2.cell n _ _ hds ha'
          refine ⟨_, vs', k, j, rfl, rfl, h3, by rw [← h4.length]; exact hj, ?_⟩
          exact hP2 g2 σ _ (G.le.refl g2) (rl2.setCell hds ha' (RepL.set ((r.le l1).le l2) j h4)) ⟨((er.le l1).le l2), rfl⟩
      · exact hP2.elim
    · exact hP2.elim
  · exact hP2.elim
end

/-! ### defs by their names -/
structure DefF (K : PySem.W.Frag) (mg : Str → Option Value) (x qual : Str) (st : Stmt) : Prop where
  ex : ∃ f fd, mg x = some (.ref f) ∧ Fun K qual qual st f fd
structure DefG (P : Program) (w : World) (K : PySem.W.Frag) (mg : Str → Option Value) (x qual : Str) (st : Stmt) (ps : List Str) (k : Nat) (m : List D → Sto → R D) : Prop where
  ex : ∃ f fd, mg x = some (.ref f) ∧ Fun K qual qual st f fd ∧ FnG P w K mg k f fd ps m
section
variable {P : Program} {w : World} {K : PySem.W.Frag} {mg : Str → Option Value} {k : Nat} {x qual : Str} {st : Stmt} {ps N : List Str} {m : List D → Sto → R D}
theorem DefG.mono {j : Nat} (D : DefG P w K mg x qual st ps j m) (h : j ≤ k) : DefG P w K mg x qual st ps k m := by
  obtain ⟨f, fd, h1, h2, h3⟩ := D.ex
  exact ⟨f, fd, h1, h2, h3.mono h⟩
theorem DefG.no (F : DefF K mg x qual st) : DefG P w K mg x qual st ps k (fun _ _ => .no) := by
  obtain ⟨f, fd, h1, h2⟩ := F.ex
  exact ⟨f, fd, h1, h2, .none⟩
theorem defG_of {mb : MS} (F : DefF K mg x qual st) (S : FnScope N ps (defScope st))
    (hbody : ∀ (f : Addr) (base : Heap) (cdv : Value) (A : Around) (outer : List Env) (s : Shared) (H : Hp) (E : XK), Room k (A.deeper (envOfC qual (defScope st) s.heap.objs.size f cdv)) → (A.deeper (envOfC qual (defScope st) s.heap.objs.size f cdv)).guards = some [] →
      SMs (bodyX P w K mg base N qual st f cdv A outer s H E) (fun c d _ H => E c d H) (defBody st) mb) : DefG P w K mg x qual st ps (k + 1) (mDef N.length mb) := by
  obtain ⟨f, fd, h1, h2⟩ := F.ex
  exact ⟨f, fd, h1, h2, fnG_of h2 S fun base cdv A outer s H E hr hgd => hbody f base cdv A outer s H E hr hgd⟩
theorem takes_body {base : Heap} {f : Addr} {cdv : Value} {A : Around} {outer : List Env} {s : Shared} {H : Hp} {E : XK} : Takes (bodyX P w K mg base N qual st f cdv A outer s H E) (fun c d _ H => E c d H) := takes_of rfl rfl rfl rfl
theorem room64 {A : Around} (r : Room k A) : A.units + 64 < cLine := r.units
theorem room65 {A : Around} (r : Room k A) : A.units + 65 < cLine := by have := r.un; omega
end
section
variable {X : Cx} {W : WX} {j k : Nat} {x qual : Str} {st : Stmt} {ps ks : List Str} {m : List D → Sto → R D} {p pos : Pos} {e : Expr} {es : List Expr} {ml mk : M (List D)} {kws : List Keyword}
/-- how a def without defaults binds its positional arguments -/
def BindP (qual : Str) (st : Stmt) (ps : List Str) : Prop := ∀ (kV doc pm : Value) (an : Option Addr) (cdv ct : Value) (us : List Value), us.length = ps.length → bindArgs (PySem.W.fnOf qual qual (defArgs st) (defBody st) (defScope st) .none kV doc pm an cdv ct) ⟨us, []⟩ = pure (ps.zip us)
def BindKw (qual : Str) (st : Stmt) (ps ks : List Str) (a : Nat) (q : List Nat) : Prop := ∀ (kV doc pm : Value) (an : Option Addr) (cdv ct : Value) (us ws : List Value), us.length = a → ws.length = ks.length →
  bindArgs (PySem.W.fnOf qual qual (defArgs st) (defBody st) (defScope st) .none kV doc pm an cdv ct) ⟨us, ks.zip ws⟩ = pure (ps.zip (permL q (us ++ ws)))
theorem bindK_of {K : PySem.W.Frag} {f : Addr} {fd : FuncData} {a : Nat} {q : List Nat} (F : Fun K qual qual st f fd) (h : BindKw qual st ps ks a q) : BindsK K fd ps ks a q := by
  obtain ⟨oc, od, kV, doc, pm, an, cdv, ct, osl, rfl, lk, hcd⟩ := F.ex
  exact fun s us ws _ h1 h2 => .of_eq (h kV doc pm an cdv ct us ws h1 h2)
theorem em_callD (n : Nat) (D : DefG X.prog X.w X.K X.mg x qual st ps j m) (hr : Room k X.A) (hgd : X.A.guards = some []) (tk : Takes X W) (hb : BindP qual st ps) (ha : AM X W (e :: es) ml) (hjk : j ≤ k := by decide) (hn : ps.length = n := by rfl) (hg : Gl X x := by rfl)
    (hdb : (x == ("__debug__" : Str)) = false := by decide) (he : starEach (e :: es) X.env = (false, eval e X.env) :: starEach es X.env := by rfl) (hpl : (backTo pos (starEach es X.env)).any (·.1) = false := by rfl) :
    EM X W (.Call (.Name x p) (e :: es) [] pos) (mCall n m ml) := by
  obtain ⟨f, fd, h1, h2, h3⟩ := D.ex
  exact em_call n (h3.mono hjk) hr hgd tk h1 h2.kp (h2.binds hb) ha hn hg hdb he hpl
theorem em_callD0 (D : DefG X.prog X.w X.K X.mg x qual st [] j m) (hr : Room k X.A) (hgd : X.A.guards = some []) (tk : Takes X W) (hb : BindP qual st []) (hjk : j ≤ k := by decide) (hg : Gl X x := by rfl)
    (hdb : (x == ("__debug__" : Str)) = false := by decide) : EM X W (.Call (.Name x p) [] [] pos) (fun _ S => m [] S) := by
  obtain ⟨f, fd, h1, h2, h3⟩ := D.ex
  exact em_call0 (h3.mono hjk) hr hgd tk h1 h2.kp (h2.binds hb) rfl hg hdb
theorem em_callDK (a : Nat) (q : List Nat) (D : DefG X.prog X.w X.K X.mg x qual st ps j m) (hr : Room k X.A) (hgd : X.A.guards = some []) (tk : Takes X W) (hb : BindKw qual st ps ks a q) (ha : AM X W (e :: es) ml) (hkw : KM X W kws mk) (hjk : j ≤ k := by decide)
    (hq : (q.all fun i => decide (i < a + ks.length)) = true := by rfl) (hql : q.length = ps.length := by rfl) (hall : (backToKw pos (keywordEach kws X.env)).all (·.1.isSome) = true := by rfl) (hks : (backToKw pos (keywordEach kws X.env)).filterMap (·.1) = ks := by rfl)
    (hg : Gl X x := by rfl) (hdb : (x == ("__debug__" : Str)) = false := by decide) (he : starEach (e :: es) X.env = (false, eval e X.env) :: starEach es X.env := by rfl)
    (hpl : ((backTo pos (starEach (e :: es) X.env)).any (·.1) || (backToKw pos (keywordEach kws X.env)).any (·.1.isNone)) = false := by rfl) :
    EM X W (.Call (.Name x p) (e :: es) kws pos) (mCallK a ks.length q m ml mk) := by
  obtain ⟨f, fd, h1, h2, h3⟩ := D.ex
  exact em_callK a q (h3.mono hjk) hr hgd tk h1 h2.kp (bindK_of h2 hb) ha hkw hq hql hall hks hg hdb he hpl
theorem em_callDK0 (q : List Nat) (D : DefG X.prog X.w X.K X.mg x qual st ps j m) (hr : Room k X.A) (hgd : X.A.guards = some []) (tk : Takes X W) (hb : BindKw qual st ps ks 0 q) (hkw : KM X W kws mk) (hjk : j ≤ k := by decide)
    (hq : (q.all fun i => decide (i < ks.length)) = true := by rfl) (hql : q.length = ps.length := by rfl) (hall : (backToKw pos (keywordEach kws X.env)).all (·.1.isSome) = true := by rfl) (hks : (backToKw pos (keywordEach kws X.env)).filterMap (·.1) = ks := by rfl)
    (hg : Gl X x := by rfl) (hdb : (x == ("__debug__" : Str)) = false := by decide)
    (hpl : ((backTo pos (starEach [] X.env)).any (·.1) || (backToKw pos (keywordEach kws X.env)).any (·.1.isNone)) = false := by rfl) :
    EM X W (.Call (.Name x p) [] kws pos) (mCallK 0 ks.length q m (fun _ S => .ok [] S) mk) := by
  obtain ⟨f, fd, h1, h2, h3⟩ := D.ex
  exact em_callK0 q (h3.mono hjk) hr hgd tk h1 h2.kp (bindK_of h2 hb) hkw hq hql hall hks hg hdb hpl
end
def mkNil : M (List D) := fun _ S => .ok [] S
def mkCons (ma : M D) (mk : M (List D)) : M (List D) := fun ev S => (ma ev S).bind fun d S1 => (mk ev S1).bind fun ds S2 => .ok (d :: ds) S2
end ML


set_option Elab.async false
set_option linter.all false
set_option maxRecDepth 100000
set_option autoImplicit false
set_option maxHeartbeats 4000000
/-! the module's constants; a, b, c = x, y, z -/
namespace ML
open PySem PySem.Spec PyProof.Rows L2
/-- a module's name holds this datum -/
def Cst (K : PySem.W.Frag) (mg : Str → Option Value) (x : Str) (d : D) : Prop := ∃ u v, mg x = some u ∧ RelV v u ∧ ∀ g, Rep K mg g d v
theorem cst_int {K : PySem.W.Frag} {mg : Str → Option Value} {x : Str} {i : Int} {t : Tok} (h : mg x = some (.int i t)) : Cst K mg x (.int i) := ⟨_, .int i, h, ⟨t, rfl⟩, fun _ => .int i⟩
theorem cst_str {K : PySem.W.Frag} {mg : Str → Option Value} {x : Str} {i : Str} {t : Tok} (h : mg x = some (.str i t)) : Cst K mg x (.str i) := ⟨_, .str i, h, ⟨t, rfl⟩, fun _ => .str i⟩
section
variable {X : Cx} {W : WX} {pos : Pos} {a b c : Expr}
theorem em_cst {x : Str} {d : D} (h : Cst X.K X.mg x d) (hg : Gl X x := by rfl) (hd : (x == ("__debug__" : Str)) = false := by decide) : EM X W (.Name x pos) (mC d) := by
  obtain ⟨u, v, h1, h2, h3⟩ := h
  exact em_const h1 h2 h3 hg hd
def par3 (i j l : Nat) (ev : Ev) : List D → Sto → RS := fun ds S => match ds with
  | [x, y, z] => .ok .nx (((ev.set i (some x)).set j (some y)).set l (some z)) S
  | _ => .no
def sPar3 (i j l : Nat) (ml : M (List D)) : MS := fun ev S => bindS (ml ev S) ev (par3 i j l ev)
end
section
variable {K : PySem.W.Frag} {mg : Str → Option Value}
/-! ### what the top has written -/
theorem mk_def {h : Heap} (X : K.In h) (G : h.Ns mainGlobals mg) {x q : Str} {st : Stmt} {f : Addr} {oc : Value} {od an : Option Addr} {osl : Array (Option Value)} {kV doc pm cdv ct : Value}
    (a : PySem.W.nsIn K mainGlobals x = some (some (.ref f))) (l : K.lookup f = some ⟨oc, od, .func (PySem.W.fnOf q q (defArgs st) (defBody st) (defScope st) .none kV doc pm an cdv ct), osl⟩)
    (c : PySem.W.codeIn K cdv q = true) (k : PySem.W.keepIn K (.ref f) = true) : DefF K mg x q st := ⟨f, _, PySem.W.mg_of X G a, fun_mk l c k⟩
theorem mk_low {h : Heap} (X : K.In h) (G : h.Ns mainGlobals mg) {x fld iq : Str} {C fI : Addr} (fo : Low.FldOk fld) {p1 p2 q1 q2 q3 q4 : Pos}
    {nm q : Str} {N : Addr} {bs bm : List Value} {sn : List Str} {sub : List Value} {ab : Bool} {col : Option Bool} {dd : Option Addr} {m0 m1 m2 m3 m5 : Option Value} {oc doc pm cdv ct : Value} {od an : Option Addr} {osl : Array (Option Value)}
    (aC : PySem.W.nsIn K mainGlobals x = some (some (.ref C)))
    (xL : K.lookup C = some (excClassObj nm q C N bs bm true sn sub ab col dd m0 m1 m2 m3 m5 "ValueError.__new__"))
    (sa : PySem.W.findIn K (.ref C) "__setattr__" = some (some (.builtin "object.__setattr__"))) (ga : PySem.W.findIn K (.ref C) "__getattribute__" = some (some (.builtin "BaseException.__getattribute__"))) (gg : PySem.W.findIn K (.ref C) "__getattr__" = some none) (nb : PySem.W.findIn K (.ref C) fld = some none)
    (a1 : PySem.W.findIn K (.ref C) "__init__" = some (some (.ref fI))) (t1 : PySem.W.typeIn K (.ref fI) = some (.type "function"))
    (l1 : K.lookup fI = some ⟨oc, od, .func (PySem.W.fnOf "__init__" iq (Low.iA fld p1 p2) (Low.iB fld q1 q2 q3 q4) (Low.iS fld) .none .none doc pm an cdv ct), osl⟩) (c1 : PySem.W.codeIn K cdv iq = true)
    (kC : PySem.W.keepIn K (.ref C) = true) (eC : PySem.W.subIn K (.ref C) (.type "BaseException") = some true) (tC : PySem.W.typeIn K (.ref C) = some (.type "type")) (hC : PySem.W.hasDictIn K C = true) (hbm : PySem.HandSPX.refsVE bm = true) : ∃ C fI, Low.LowTxt K mg x fld iq C fI :=
  ⟨C, fI, { fo := fo, gC := PySem.W.mg_of X G aC, cls := ⟨nm, q, N, bs, _, sn, sub, ab, col, dd, m0, m1, m2, m3, m5, xL, hbm⟩, sa := sa, ga := ga, gg := gg, noN := nb, iC := a1, tC := t1, kC := kC, exC := eC, tyC := tC, hdC := hC, fn := ⟨_, _, _, _, _, _, _, _, _, _, _, _, _, _, l1, c1⟩ }⟩
abbrev Table := List (Str × Str × Bool)
/-- the table's answer: is an error of the class y one of the class c -/
def tstL (l : Table) (c y : Str) : Option Bool := match l with
  | [] => none
  | p :: r => if (p.1 == c && p.2.1 == y) = true then some p.2.2 else tstL r c y
def AllT (F : Str → Str → Bool → Prop) : Table → Prop
  | [] => True
  | p :: r => F p.1 p.2.1 p.2.2 ∧ AllT F r
theorem AllT.get {F : Str → Str → Bool → Prop} : ∀ {l : Table} {c y : Str} {b : Bool}, AllT F l → tstL l c y = some b → F c y b
  | [], _, _, _, _, h => by cases h
  | p :: r, c, y, b, ⟨h1, h2⟩, h => by
    unfold tstL at h
    split at h
    · rename_i e
      have e' : p.1 = c ∧ p.2.1 = y := by simpa using e
      cases h
      rw [← e'.1, ← e'.2]
      exact h1
    · exact AllT.get h2 h
def SubF (K : PySem.W.Frag) (mg : Str → Option Value) (c y : Str) (b : Bool) : Prop := ∃ Cc Cy, mg c = some (.ref Cc) ∧ mg y = some (.ref Cy) ∧ PySem.W.exmOne K (.ref Cy) (.ref Cc) = some b
def IsF (K : PySem.W.Frag) (mg : Str → Option Value) (c y : Str) (b : Bool) : Prop := ∃ Cc Cy, mg c = some (.ref Cc) ∧ mg y = some (.ref Cy) ∧ ExcC K Cy ∧ PySem.W.kitOne K (.ref Cy) (.ref Cc) = some b
theorem try_ok {l : Table} (h : AllT (SubF K mg) l) {c : Str} (Cc : Addr) (hc : mg c = some (.ref Cc)) (y : Str) (b : Bool) (C : Addr) (ht : tstL l c y = some b) (hy : mg y = some (.ref C)) : PySem.W.exmOne K (.ref C) (.ref Cc) = some b := by
  obtain ⟨Cc', Cy, h1, h2, h3⟩ := h.get ht
  rw [hc] at h1; rw [hy] at h2
  cases h1; cases h2
  exact h3
theorem is_ok {l : Table} (h : AllT (IsF K mg) l) {c : Str} (Cc : Addr) (hc : mg c = some (.ref Cc)) (y : Str) (b : Bool) (ht : tstL l c y = some b) : ∃ C, mg y = some (.ref C) ∧ ExcC K C ∧ PySem.W.kitOne K (.ref C) (.ref Cc) = some b := by
  obtain ⟨Cc', Cy, h1, h2, h3, h4⟩ := h.get ht
  rw [hc] at h1
  cases h1
  exact ⟨Cy, h2, h3, h4⟩
theorem mk_sub {h : Heap} (X : K.In h) (G : h.Ns mainGlobals mg) {c y : Str} {b : Bool} {Cc Cy : Addr} (a : PySem.W.nsIn K mainGlobals c = some (some (.ref Cc))) (d : PySem.W.nsIn K mainGlobals y = some (some (.ref Cy)))
    (h1 : PySem.W.subIn K (.ref Cc) (.type "BaseException") = some true) (h2 : PySem.W.hasDictIn K Cc = true) (h3 : PySem.W.typeIn K (.ref Cc) = some (.type "type")) (h4 : PySem.W.subIn K (.ref Cy) (.ref Cc) = some b) : SubF K mg c y b :=
  ⟨Cc, Cy, PySem.W.mg_of X G a, PySem.W.mg_of X G d, PySem.W.exm_ref h1 h2 h3 h4⟩
theorem mk_is {h : Heap} (X : K.In h) (G : h.Ns mainGlobals mg) {c y : Str} {b : Bool} {Cc Cy : Addr} (a : PySem.W.nsIn K mainGlobals c = some (some (.ref Cc))) (d : PySem.W.nsIn K mainGlobals y = some (some (.ref Cy)))
    (hg : PySem.W.findIn K (.ref Cy) "__getattribute__" = some (some (.builtin "BaseException.__getattribute__"))) (hk : PySem.W.findIn K (.ref Cy) "__getattr__" = some none)
    (hs : PySem.W.subIn K (.ref Cy) (.type "BaseException") = some true) (hd : PySem.W.hasDictIn K Cy = true) (ha : PySem.W.findIn K (.ref Cy) "__class__" = some (some (.builtin "object.__class__")))
    (hn : PySem.W.specialIn K (.builtin "object.__class__") "__get__" = some (some (.builtin "getset_descriptor.__get__"))) (ht : PySem.W.takesIn K (.builtin "object.__class__") = some true) (hm : PySem.W.mroIn K Cy (.type "object") = some true)
    (h4 : PySem.W.kitOne K (.ref Cy) (.ref Cc) = some b) : IsF K mg c y b := ⟨Cc, Cy, PySem.W.mg_of X G a, PySem.W.mg_of X G d, ⟨hg, hk, hs, hd, ha, hn, ht, hm⟩, h4⟩
theorem xf_nil {fld : Str} : ∀ c ∈ ([] : List Str), XF K mg fld c := fun _ h => by cases h
theorem xf_cons {fld x iq : Str} {l : List Str} (h : ∃ C fI, Low.LowTxt K mg x fld iq C fI) (r : ∀ c ∈ l, XF K mg fld c) : ∀ c ∈ x :: l, XF K mg fld c := fun c hc => by
  rcases List.mem_cons.mp hc with rfl | hc
  · obtain ⟨_, _, T⟩ := h; exact T.xf
  · exact r c hc
theorem law_fd {P : Program} {w : World} {x qual p : Str} {st : Stmt} {k : Nat} {m : List D → Sto → R D} {fa : Addr} (D : DefG P w K mg x qual st [p] k m) (hb : BindP qual st [p]) (hmg : mg x = some (.ref fa)) :
    ∃ fd : FuncData, (∀ (s : Shared) (u : Value), BindsTo s fd ⟨[u], []⟩ [(p, u)]) ∧ FnG P w K mg k fa fd [p] m := by
  obtain ⟨f, fd, h1, h2, h3⟩ := D.ex
  rw [hmg] at h1
  cases h1
  obtain ⟨oc, od, kV, doc, pm, an, cdv, ct, osl, e, lk, hcd⟩ := h2.ex
  subst e
  exact ⟨_, fun s u => .of_eq (hb kV doc pm an cdv ct [u] rfl), h3⟩
end
end ML


set_option Elab.async false
set_option linter.all false
set_option maxRecDepth 100000
set_option autoImplicit false
set_option maxHeartbeats 4000000
/-! plain Lean about the mirrors: the parts that each law of this program shares (pot, draw, pick, same), loops by invariants -/
namespace ML
open PySem PySem.Spec PyProof.Rows L2
theorem bind_ok {α β : Type} (a : α) (S : Sto) (f : α → Sto → R β) : (R.ok a S).bind f = f a S := rfl
theorem bindS_ok {α : Type} (a : α) (S : Sto) (ev : Ev) (f : α → Sto → RS) : bindS (R.ok a S) ev f = f a S := rfl
theorem seqS_nx (ev : Ev) (S : Sto) (f : MS) : seqS (.ok .nx ev S) f = f ev S := rfl
theorem seqS_rt (d : D) (ev : Ev) (S : Sto) (f : MS) : seqS (.ok (.rt d) ev S) f = .ok (.rt d) ev S := rfl
theorem asV_non (S : Sto) : asVal (some (some .non)) S = .ok .non S := rfl
theorem asV_bl (x : Bool) (S : Sto) : asVal (some (some (.bl x))) S = .ok (.bl x) S := rfl
theorem asV_int (x : Int) (S : Sto) : asVal (some (some (.int x))) S = .ok (.int x) S := rfl
theorem asV_str (x : Str) (S : Sto) : asVal (some (some (.str x))) S = .ok (.str x) S := rfl
theorem asV_tup (x : List D) (S : Sto) : asVal (some (some (.tup x))) S = .ok (.tup x) S := rfl
theorem asV_lst (x : List D) (S : Sto) : asVal (some (some (.lst x))) S = .ok (.lst x) S := rfl
theorem asV_rol (x : List D) (S : Sto) : asVal (some (some (.rol x))) S = .ok (.rol x) S := rfl
theorem asV_ref (x : Nat) (S : Sto) : asVal (some (some (.ref x))) S = .ok (.ref x) S := rfl

/-! ### loops -/
theorem lc_inv {tg : D → M Ev} {cond : M Bool} {el : M D} {ev : Ev} {c : Src} (I : Sto → Prop) (P : D → Prop) (hl : ∀ S, I S → c.live S = true) :
    ∀ (items : List D) (acc : List D) (S : Sto), (∀ d ∈ items, ∀ S, I S → ∃ ev2 S2 S3 y S4, tg d ev S = .ok ev2 S2 ∧ cond ev2 S2 = .ok true S3 ∧ el ev2 S3 = .ok y S4 ∧ I S4 ∧ P y) → I S → acc.length + items.length ≤ 16777216 →
    ∃ ys S', lcL tg cond el ev c items acc S = .ok (acc ++ ys) S' ∧ ys.length = items.length ∧ (∀ y ∈ ys, P y) ∧ I S'
  | [], acc, S, _, hI, _ => ⟨[], S, by unfold lcL; rw [if_pos (hl S hI), List.append_nil], rfl, (fun y h => by simp at h), hI⟩
  | d :: ds, acc, S, h, hI, hz => by
    obtain ⟨ev2, S2, S3, y, S4, e1, e2, e3, hI4, hP⟩ := h d List.mem_cons_self S hI
    have hz' : acc.length + (ds.length + 1) ≤ 16777216 := by simpa using hz
    obtain ⟨ys, S', q1, q2, q3, q4⟩ := lc_inv I P hl ds (acc ++ [y]) S4 (fun d' hd => h d' (List.mem_cons_of_mem _ hd)) hI4 (by rw [List.length_append, List.length_singleton]; omega)
    refine ⟨y :: ys, S', ?_, by rw [List.length_cons, List.length_cons, q2], fun z hz => ?_, q4⟩
    · unfold lcL
      rw [if_pos (hl S hI), e1, bind_ok, e2, bind_ok, if_pos rfl, e3, bind_ok, if_pos (by omega), q1, List.append_assoc]
      rfl
    · rcases List.mem_cons.mp hz with rfl | hz
      · exact hP
      · exact q3 z hz
/-- nothing is changed, each item gives f of it -/
theorem lc_map {tg : D → M Ev} {cond : M Bool} {el : M D} {ev : Ev} {c : Src} {S : Sto} (f : D → D) (hl : c.live S = true) :
    ∀ (items : List D) (acc : List D), (∀ d ∈ items, ∃ ev2, tg d ev S = .ok ev2 S ∧ cond ev2 S = .ok true S ∧ el ev2 S = .ok (f d) S) → acc.length + items.length ≤ 16777216 →
    lcL tg cond el ev c items acc S = .ok (acc ++ items.map f) S
  | [], acc, _, _ => by unfold lcL; rw [if_pos hl, List.map_nil, List.append_nil]
  | d :: ds, acc, h, hz => by
    obtain ⟨ev2, e1, e2, e3⟩ := h d List.mem_cons_self
    have hz' : acc.length + (ds.length + 1) ≤ 16777216 := by simpa using hz
    unfold lcL
    rw [if_pos hl, e1, bind_ok, e2, bind_ok, if_pos rfl, e3, bind_ok, if_pos (by omega), lc_map f hl ds (acc ++ [f d]) (fun d' hd => h d' (List.mem_cons_of_mem _ hd)) (by rw [List.length_append, List.length_singleton]; omega), List.append_assoc]
    rfl
/-- a for, by what is so ahead of the i-th turn -/
theorem for_post {tg : D → M Ev} {body : MS} {c : Src} (Q : RS → Prop) (I : Nat → Ev → Sto → Prop) (hl : ∀ i ev S, I i ev S → c.live S = true) :
    ∀ (items : List D) (i : Nat) (ev : Ev) (S : Sto), (∀ j d, items[j]? = some d → ∀ ev S, I (i + j) ev S → ∃ ev2 S2, tg d ev S = .ok ev2 S2 ∧ ((∃ ev3 S3, (body ev2 S2 = .ok .nx ev3 S3 ∨ body ev2 S2 = .ok .ct ev3 S3) ∧ I (i + j + 1) ev3 S3) ∨
      (∃ ev3 S3, body ev2 S2 = .ok .bk ev3 S3 ∧ Q (.ok .nx ev3 S3)) ∨ (∃ d' ev3 S3, body ev2 S2 = .ok (.rt d') ev3 S3 ∧ Q (.ok (.rt d') ev3 S3)))) →
    (∀ ev S, I (i + items.length) ev S → Q (.ok .nx ev S)) → I i ev S → Q (forL tg body c items ev S)
  | [], i, ev, S, _, hq, hI => by unfold forL; rw [if_pos (hl i ev S hI)]; exact hq ev S hI
  | d :: ds, i, ev, S, h, hq, hI => by
    obtain ⟨ev2, S2, e1, hc⟩ := h 0 d rfl ev S hI
    unfold forL
    rw [if_pos (hl i ev S hI), e1]
    show Q (loopS (body ev2 S2) (forL tg body c ds))
    rcases hc with ⟨ev3, S3, hb, hI3⟩ | ⟨ev3, S3, hb, hQ⟩ | ⟨d', ev3, S3, hb, hQ⟩
    · have go : Q (forL tg body c ds ev3 S3) := for_post Q I hl ds (i + 1) ev3 S3 (fun j d hd ev S hI => by
        have e : i + 1 + j = i + (j + 1) := by omega
        rw [e] at hI ⊢
        exact h (j + 1) d (by simpa using hd) ev S hI) (fun ev S hI => hq ev S (by
        have e : i + 1 + ds.length = i + (d :: ds).length := by rw [List.length_cons]; omega
        rw [e] at hI
        exact hI)) hI3
      rcases hb with hb | hb <;> rw [hb] <;> exact go
    · rw [hb]; exact hQ
    · rw [hb]; exact hQ
/-! ### draws -/
def drawB : MS := sCons (sIf (mT (m2 (pcmp fun i j => decide (j < i)) (m2 pix (mVar 0) (mC (.int 0))) (mC (.int 0)))) (sCons (sSet 2 (m2 pmod (mL pint (mCons (m2 pix (mVar 0) (mC (.int 0))) (mNil))) (mVar 1))) (sCons (sAsg (tgSub (mVar 0) (mC (.int 0))) (m2 pfdiv (mL pint (mCons (m2 pix (mVar 0) (mC (.int 0))) (mNil))) (mVar 1))) (sRet (mVar 2)))) (sNil)) (sCons (sAsg (tgSub (mVar 0) (mC (.int 1))) (m2 pmod (mL pint (mCons (m2 (padd false) (m2 (pmul false) (m2 pix (mVar 0) (mC (.int 1))) (mC (.int 40127))) (mC (.int 6329))) (mNil))) (mC (.int 2147483587)))) (sRet (m2 pmod (mL pint (mCons (m2 pfdiv (m2 pmod (mL pint (mCons (m2 (pmul false) (m2 pix (mVar 0) (mC (.int 1))) (m2 pix (mVar 0) (mC (.int 1)))) (mNil))) (mC (.int 2147483549))) (mC (.int 23))) (mNil))) (mVar 1))))
def mDraw : List D → Sto → R D := mDef (["pot", "many", "digit"] : List Str).length drawB
/-- a pot stands at n -/
def Pot (S : Sto) (n : Nat) : Prop := ∃ a b : Int, 0 ≤ a ∧ S[n]? = some (.lst [.int a, .int b])
theorem atI0 {α : Type} (x y : α) : atI [x, y] 0 = some x := rfl
theorem atI1 {α : Type} (x y : α) : atI [x, y] 1 = some y := rfl
theorem draw_ok {S : Sto} {n : Nat} {many : Int} (h : Pot S n) (h0 : 0 < many) (h1 : many < 1073741824) : ∃ d a b : Int, mDraw [.ref n, .int many] S = .ok (.int d) (S.set n (.lst [.int a, .int b])) ∧ 0 ≤ a ∧ 0 ≤ d ∧ d < many := by
  obtain ⟨a, b, ha, hS⟩ := h
  by_cases hp : 0 < a
  · refine ⟨a % many, a / many, b, ?_, ?_, Int.emod_nonneg _ (by omega), Int.emod_lt_of_pos _ h0⟩
    · unfold mDraw drawB
      simp [mDef, endS, startD, sCons, seqS, sRet, sRetN, sSet, sIf, sNil, sAsg, sExpr, sPar, par2, bindS, noEx, ML.R.bind, m1, m2, mT, mTr, asB, asTr, mC, mVar, asV_non, asV_bl, asV_int, asV_str, asV_tup, asV_lst, asV_rol, asV_ref, mL, mCons, mNil, mIf, mCall, tgN, tgSub, tgT, tgCons, tgNil, setAt, tNotM, tAndM, tOrM, mAnd, mOr, pnot, pix, pcmp, padd, psub, pmul, pfdiv, pmod, pint, plen, ptup, pisN, pnotN, seqOf, pneg, mSl, oNone, oSome, asI, mLc, mSrc, asSrc, drawn, mYes, evWipe, mkL, plst, hS, hp, h0, h1, atD, ixN]
    · exact Int.ediv_nonneg ha (by omega)
  · have hn : n < S.length := (List.getElem?_eq_some_iff.mp hS).1
    have hb : ∀ x : Int, 0 ≤ x % 2147483587 ∧ x % 2147483587 < 2147483587 := fun x => ⟨Int.emod_nonneg _ (by decide), Int.emod_lt_of_pos _ (by decide)⟩
    obtain ⟨b', hb'⟩ : ∃ b' : Int, b' = (b * 40127 + 6329) % 2147483587 := ⟨_, rfl⟩
    have h2 := hb (b * 40127 + 6329)
    rw [← hb'] at h2
    have h3 : -18446744073709551616 < b' ∧ b' < 18446744073709551616 := by omega
    refine ⟨b' * b' % 2147483549 / 23 % many, a, b', ?_, ha, Int.emod_nonneg _ (by omega), Int.emod_lt_of_pos _ h0⟩
    have hs : ∀ c : Cell, (S.set n c)[n]? = some c := fun c => List.getElem?_set_self hn
    unfold mDraw drawB
    simp [mDef, endS, startD, sCons, seqS, sRet, sRetN, sSet, sIf, sNil, sAsg, sExpr, sPar, par2, bindS, noEx, ML.R.bind, m1, m2, mT, mTr, asB, asTr, mC, mVar, asV_non, asV_bl, asV_int, asV_str, asV_tup, asV_lst, asV_rol, asV_ref, mL, mCons, mNil, mIf, mCall, tgN, tgSub, tgT, tgCons, tgNil, setAt, tNotM, tAndM, tOrM, mAnd, mOr, pnot, pix, pcmp, padd, psub, pmul, pfdiv, pmod, pint, plen, ptup, pisN, pnotN, seqOf, pneg, mSl, oNone, oSome, asI, mLc, mSrc, asSrc, drawn, mYes, evWipe, mkL, plst, hS, hp, h0, h1, hs, ← hb', h3, atD, ixN]
def pickB : MS := sRet (m2 pix (mVar 1) (mCall 2 mDraw (mCons (mVar 0) (mCons (mL plen (mCons (mVar 1) (mNil))) (mNil)))))
def mPick : List D → Sto → R D := mDef (["pot", "some"] : List Str).length pickB
/-- only the cell at n has changed, and it is a pot -/
def Chg (n : Nat) (S S' : Sto) : Prop := ∃ a b : Int, 0 ≤ a ∧ S' = S.set n (.lst [.int a, .int b])
theorem draw_chg {S : Sto} {n : Nat} {many : Int} (h : Pot S n) (h0 : 0 < many) (h1 : many < 1073741824) : ∃ (d : Int) (S' : Sto), mDraw [.ref n, .int many] S = .ok (.int d) S' ∧ Chg n S S' ∧ 0 ≤ d ∧ d < many := by
  obtain ⟨d, a, b, e, ha, h2, h3⟩ := draw_ok h h0 h1
  exact ⟨d, _, e, ⟨a, b, ha, rfl⟩, h2, h3⟩
theorem Pot.lt {S : Sto} {n : Nat} (h : Pot S n) : n < S.length := by obtain ⟨a, b, _, e⟩ := h; exact (List.getElem?_eq_some_iff.mp e).1
theorem Chg.pot {n : Nat} {S S' : Sto} (c : Chg n S S') (h : Pot S n) : Pot S' n := by
  obtain ⟨a, b, ha, rfl⟩ := c
  exact ⟨a, b, ha, by rw [List.getElem?_set_self h.lt]⟩
theorem Chg.other {n m : Nat} {S S' : Sto} (c : Chg n S S') (h : m ≠ n) : S'[m]? = S[m]? := by
  obtain ⟨a, b, ha, rfl⟩ := c
  rw [List.getElem?_set_ne (Ne.symm h)]
theorem Chg.len {n : Nat} {S S' : Sto} (c : Chg n S S') : S'.length = S.length := by
  obtain ⟨a, b, ha, rfl⟩ := c
  rw [List.length_set]
theorem Chg.trans {n : Nat} {S S' S'' : Sto} (c : Chg n S S') (d : Chg n S' S'') : Chg n S S'' := by
  obtain ⟨a, b, ha, rfl⟩ := c
  obtain ⟨a', b', ha', rfl⟩ := d
  exact ⟨a', b', ha', by rw [List.set_set]⟩
theorem Chg.refl {n : Nat} {S : Sto} (h : Pot S n) : Chg n S S := by
  obtain ⟨a, b, ha, e⟩ := h
  refine ⟨a, b, ha, List.ext_getElem? fun i => ?_⟩
  rw [List.getElem?_set]
  split
  · rename_i q
    subst q
    have hn := (List.getElem?_eq_some_iff.mp e).1
    rw [if_pos hn, e]
  · rfl
/-- one of a written tuple's items -/
theorem pick_ok {S : Sto} {n : Nat} {ds : List D} (h : Pot S n) (h0 : ds ≠ []) (h1 : ds.length < 1073741824) : ∃ (d : D) (S' : Sto), mPick [.ref n, .tup ds] S = .ok d S' ∧ Chg n S S' ∧ d ∈ ds := by
  have hl : 0 < ds.length := List.length_pos_iff.mpr h0
  obtain ⟨i, S', e, c, h2, h3⟩ := draw_chg (many := (ds.length : Int)) h (by omega) (by omega)
  have hi : i.toNat < ds.length := by omega
  refine ⟨ds[i.toNat], S', ?_, c, List.getElem_mem hi⟩
  have hat : atD ds i = some ds[i.toNat] := by
    unfold atD ixN
    rw [if_pos h2, if_pos h3]
    exact List.getElem?_eq_getElem hi
  unfold mPick pickB
  simp [mDef, endS, startD, sCons, seqS, sRet, sRetN, sSet, sIf, sNil, sAsg, sExpr, sPar, par2, bindS, noEx, ML.R.bind, m1, m2, mT, mTr, asB, asTr, mC, mVar, asV_non, asV_bl, asV_int, asV_str, asV_tup, asV_lst, asV_rol, asV_ref, mL, mCons, mNil, mIf, mCall, tgN, tgSub, tgT, tgCons, tgNil, setAt, tNotM, tAndM, tOrM, mAnd, mOr, pnot, pix, pcmp, padd, psub, pmul, pfdiv, pmod, pint, plen, ptup, pisN, pnotN, seqOf, pneg, mSl, oNone, oSome, asI, mLc, mSrc, asSrc, drawn, mYes, evWipe, mkL, plst, e, hat]
/-- .. of a list's -/
theorem pickL_ok {S : Sto} {n : Nat} {x : D} {ds : List D} (h : Pot S n) (hx : ∀ S', Chg n S S' → seqOf S' x = some ds) (h0 : ds ≠ []) (h1 : ds.length < 1073741824) : ∃ (d : D) (S' : Sto), mPick [.ref n, x] S = .ok d S' ∧ Chg n S S' ∧ d ∈ ds := by
  have hl : 0 < ds.length := List.length_pos_iff.mpr h0
  obtain ⟨i, S', e, c, h2, h3⟩ := draw_chg (many := (ds.length : Int)) h (by omega) (by omega)
  have hi : i.toNat < ds.length := by omega
  have hat : atD ds i = some ds[i.toNat] := by
    unfold atD ixN
    rw [if_pos h2, if_pos h3]
    exact List.getElem?_eq_getElem hi
  have hx0 := hx S (Chg.refl h)
  have hx1 := hx S' c
  refine ⟨ds[i.toNat], S', ?_, c, List.getElem_mem hi⟩
  unfold mPick pickB
  cases x with
  | lst es => simp only [seqOf, Option.some.injEq] at hx1; subst hx1; simp [mDef, endS, startD, sCons, seqS, sRet, sRetN, sSet, sIf, sNil, sAsg, sExpr, sPar, par2, bindS, noEx, ML.R.bind, m1, m2, mT, mTr, asB, asTr, mC, mVar, asV_non, asV_bl, asV_int, asV_str, asV_tup, asV_lst, asV_rol, asV_ref, mL, mCons, mNil, mIf, mCall, tgN, tgSub, tgT, tgCons, tgNil, setAt, tNotM, tAndM, tOrM, mAnd, mOr, pnot, pix, pcmp, padd, psub, pmul, pfdiv, pmod, pint, plen, ptup, pisN, pnotN, seqOf, pneg, mSl, oNone, oSome, asI, mLc, mSrc, asSrc, drawn, mYes, evWipe, mkL, plst, e, hat]
  | rol es => simp only [seqOf, Option.some.injEq] at hx1; subst hx1; simp [mDef, endS, startD, sCons, seqS, sRet, sRetN, sSet, sIf, sNil, sAsg, sExpr, sPar, par2, bindS, noEx, ML.R.bind, m1, m2, mT, mTr, asB, asTr, mC, mVar, asV_non, asV_bl, asV_int, asV_str, asV_tup, asV_lst, asV_rol, asV_ref, mL, mCons, mNil, mIf, mCall, tgN, tgSub, tgT, tgCons, tgNil, setAt, tNotM, tAndM, tOrM, mAnd, mOr, pnot, pix, pcmp, padd, psub, pmul, pfdiv, pmod, pint, plen, ptup, pisN, pnotN, seqOf, pneg, mSl, oNone, oSome, asI, mLc, mSrc, asSrc, drawn, mYes, evWipe, mkL, plst, e, hat]
  | ref m =>
    have g0 : seqOf S (.ref m) = some ds := hx0
    have g1 : seqOf S' (.ref m) = some ds := hx1
    have q0 : S[m]? = some (.lst ds) := by
      simp only [seqOf] at g0
      split at g0
      · rename_i q; rw [q, Option.some.inj g0]
      · cases g0
    have q1 : S'[m]? = some (.lst ds) := by
      simp only [seqOf] at g1
      split at g1
      · rename_i q; rw [q, Option.some.inj g1]
      · cases g1
    simp [mDef, endS, startD, sCons, seqS, sRet, sRetN, sSet, sIf, sNil, sAsg, sExpr, sPar, par2, bindS, noEx, ML.R.bind, m1, m2, mT, mTr, asB, asTr, mC, mVar, asV_non, asV_bl, asV_int, asV_str, asV_tup, asV_lst, asV_rol, asV_ref, mL, mCons, mNil, mIf, mCall, tgN, tgSub, tgT, tgCons, tgNil, setAt, tNotM, tAndM, tOrM, mAnd, mOr, pnot, pix, pcmp, padd, psub, pmul, pfdiv, pmod, pint, plen, ptup, pisN, pnotN, seqOf, pneg, mSl, oNone, oSome, asI, mLc, mSrc, asSrc, drawn, mYes, evWipe, mkL, plst, e, hat, q0, q1]
  | _ => simp [seqOf] at hx0
end ML


set_option Elab.async false
set_option linter.all false
set_option maxRecDepth 100000
set_option autoImplicit false
set_option maxHeartbeats 4000000
/-! plain Lean about the mirrors: the parts that each law of this program shares (pot, draw, pick, same), loops by invariants -/
namespace ML
open PySem PySem.Spec PyProof.Rows L2
/-! ### the pot of a script -/
def potB : MS := sCons (sSet 2 (m2 (padd false) (m2 (padd false) (m2 (pmul false) (mC (.int 839)) (mVar 1)) (mC (.int 431))) (m2 pmod (mL pint (mCons (mL pabs (mCons (mL psum (mCons (mSl false (mVar 0) (oNone) (oSome (mC (.int 1)))) (mNil))) (mNil))) (mNil))) (mC (.int 1000003))))) (sCons (sSet 3 (mIf (mT (m2 (pcmp fun i j => decide (i < j)) (mVar 1) (mL plen (mCons (mVar 0) (mNil))))) (mL pabs (mCons (m2 pix (mVar 0) (mVar 1)) (mNil))) (mVar 2))) (sRet (mL (plst true) (mCons (mL pmax2 (mCons (mC (.int 0)) (mCons (m2 psub (mVar 3) (m2 ppow (mC (.int 10)) (mC (.int 18)))) (mNil)))) (mCons (m2 (padd false) (m2 pmod (mL pint (mCons (m2 (padd false) (m2 (padd false) (m2 (pmul false) (m2 pmod (mL pint (mCons (mVar 3) (mNil))) (mC (.int 2147483579))) (mC (.int 40127))) (m2 (pmul false) (mC (.int 6329)) (mVar 1))) (mC (.int 431))) (mNil))) (mC (.int 2147483563))) (mC (.int 1))) (mNil))))))
def mPot : List D → Sto → R D := mDef (["script", "k", "spare", "cell"] : List Str).length potB
theorem cutD_map {α β : Type} (f : α → β) (l : List α) (lo hi : Option Int) : cutD (l.map f) lo hi = (cutD l lo hi).map f := by
  unfold cutD
  rw [List.length_map, ← List.map_drop, ← List.map_take]
theorem asIs_map : ∀ l : List Int, asIs (l.map D.int) = some l
  | [] => rfl
  | i :: l => by show (asIs (l.map D.int)).map (i :: ·) = _; rw [asIs_map l]; rfl
theorem pot_ok (ns : List Int) (k : Nat) (hk : k < 64) (S : Sto) : ∃ a b : Int, 0 ≤ a ∧ mPot [.rol (ns.map D.int), .int (k : Int)] S = .ok (.ref S.length) (S ++ [.lst [.int a, .int b]]) := by
  have h1 := asIs_map (cutD ns none (some 1))
  have h2 : cutD (ns.map D.int) none (some 1) = (cutD ns none (some 1)).map D.int := cutD_map _ _ _ _
  by_cases hc : (k : Int) < (ns.length : Int)
  · have hat : atD (ns.map D.int) (k : Int) = some (.int (ns[k]'(by omega))) := by
      unfold atD ixN
      rw [List.length_map, if_pos (by omega), if_pos hc]
      show (ns.map D.int)[((k : Int)).toNat]? = _
      rw [Int.toNat_natCast, List.getElem?_map, List.getElem?_eq_getElem (by omega)]
      rfl
    generalize hcell : mPot [.rol (ns.map D.int), .int (k : Int)] S = r
    unfold mPot potB at hcell
    simp [mDef, endS, startD, sCons, seqS, sRet, sSet, bindS, R.bind, m2, mT, asB, mC, mVar, asVal, mL, mCons, mNil, mIf, pix, pcmp, padd, psub, pmul, pmod, pint, plen, seqOf, mSl, oNone, oSome, asI, plst, mkL, hc, hat, h1, h2, psum, pabs, pslice, ppow, pmax2] at hcell
    exact ⟨_, _, by repeat (first | split | omega), hcell.symm⟩
  · generalize hcell : mPot [.rol (ns.map D.int), .int (k : Int)] S = r
    unfold mPot potB at hcell
    simp [mDef, endS, startD, sCons, seqS, sRet, sSet, bindS, R.bind, m2, mT, asB, mC, mVar, asVal, mL, mCons, mNil, mIf, pix, pcmp, padd, psub, pmul, pmod, pint, plen, seqOf, mSl, oNone, oSome, asI, plst, mkL, hc, h1, h2, psum, pabs, pslice, ppow, pmax2] at hcell
    exact ⟨_, _, by repeat (first | split | omega), hcell.symm⟩
/-! ### the same data -/
def sameB (r : List D → Sto → R D) : MS := sCons (sIf (mT (m1 pisN (mVar 1))) (sRet (m1 pisN (mVar 0))) (sNil)) (sCons (sIf (mTr (mL pisi (mCons (mVar 1) (mCons (mC (.ty "bool")) (mNil))))) (sRet (mAnd (mL pisi (mCons (mVar 0) (mCons (mC (.ty "bool")) (mNil)))) (m2 peq (mVar 0) (mVar 1)))) (sNil)) (sCons (sIf (mTr (mL pisi (mCons (mVar 1) (mCons (mC (.ty "str")) (mNil))))) (sRet (mAnd (mL pisi (mCons (mVar 0) (mCons (mC (.ty "str")) (mNil)))) (m2 peq (mVar 0) (mVar 1)))) (sNil)) (sCons (sIf (mTr (mL pisi (mCons (mVar 1) (mCons (mC (.ty "int")) (mNil))))) (sRet (mAnd (mL pisi (mCons (mVar 0) (mCons (mC (.ty "int")) (mNil)))) (mAnd (m1 pnot (mL pisi (mCons (mVar 0) (mCons (mC (.ty "bool")) (mNil))))) (m2 peq (mVar 0) (mVar 1))))) (sNil)) (sCons (sIf (mTr (mL pisi (mCons (mVar 1) (mCons (mC (.ty "tuple")) (mNil))))) (sCons (sIf (tOrM (tNotM (mTr (mL pisi (mCons (mVar 0) (mCons (mC (.ty "tuple")) (mNil)))))) (mT (m2 pne (mL plen (mCons (mVar 0) (mNil))) (mL plen (mCons (mVar 1) (mNil)))))) (sRet (mC (.bl false))) (sNil)) (sRet (mL pall (mCons (mLc false (([("near", 2), ("far", 3)] : List (Str × Nat)).map (·.2)) id (mZip (mCons (mVar 0) (mCons (mVar 1) (mNil)))) (tgT 2 (tgCons (tgN 2) (tgCons (tgN 3) (tgNil)))) (mYes) (mCall 2 r (mCons (mVar 2) (mCons (mVar 3) (mNil))))) (mNil))))) (sNil)) (sCons (sIf (mTr (mL pisi (mCons (mVar 1) (mCons (mC (.ty "list")) (mNil))))) (sCons (sIf (tOrM (tNotM (mTr (mL pisi (mCons (mVar 0) (mCons (mC (.ty "list")) (mNil)))))) (mT (m2 pne (mL plen (mCons (mVar 0) (mNil))) (mL plen (mCons (mVar 1) (mNil)))))) (sRet (mC (.bl false))) (sNil)) (sRet (mL pall (mCons (mLc false (([("near", 2), ("far", 3)] : List (Str × Nat)).map (·.2)) id (mZip (mCons (mVar 0) (mCons (mVar 1) (mNil)))) (tgT 2 (tgCons (tgN 2) (tgCons (tgN 3) (tgNil)))) (mYes) (mCall 2 r (mCons (mVar 2) (mCons (mVar 3) (mNil))))) (mNil))))) (sNil)) (sRet (m2 peq (mVar 0) (mVar 1))))))))
def rSame : Nat → List D → Sto → R D
  | 0 => fun _ _ => .no
  | n + 1 => mDef (["told", "due", "near", "far"] : List Str).length (sameB (rSame n))
/-- plain data, at most n deep -/
def pd : Nat → D → Bool
  | 0, _ => false
  | n + 1, d => match d with
    | .non => true
    | .bl _ => true
    | .int _ => true
    | .str _ => true
    | .tup ds => decide (ds.length ≤ 16777216) && ds.all (pd n)
    | .lst ds => decide (ds.length ≤ 16777216) && ds.all (pd n)
    | _ => false
theorem zipD_self : ∀ ds : List D, zipD ds ds = ds.map fun d => .tup [d, d]
  | [] => rfl
  | d :: ds => by show .tup [d, d] :: zipD ds ds = _; rw [zipD_self ds]; rfl
theorem asBs_true (n : Nat) : asBs (List.replicate n (.bl true)) = some (List.replicate n true) := by
  induction n with
  | zero => rfl
  | succ n ih => show (asBs (List.replicate n (.bl true))).map (true :: ·) = _; rw [ih]; rfl
theorem map_const {α β : Type} (b : β) : ∀ l : List α, (l.map fun _ => b) = List.replicate l.length b
  | [] => rfl
  | _ :: l => by rw [List.map_cons, map_const b l]; rfl
theorem isi_int (i : Int) (S : Sto) : pisi [.int i, .ty "int"] S = .ok (.bl true) S ∧ pisi [.int i, .ty "bool"] S = .ok (.bl false) S ∧ pisi [.int i, .ty "str"] S = .ok (.bl false) S ∧ pisi [.int i, .ty "tuple"] S = .ok (.bl false) S ∧ pisi [.int i, .ty "list"] S = .ok (.bl false) S := ⟨rfl, rfl, rfl, rfl, rfl⟩
theorem isi_str (i : Str) (S : Sto) : pisi [.str i, .ty "int"] S = .ok (.bl false) S ∧ pisi [.str i, .ty "bool"] S = .ok (.bl false) S ∧ pisi [.str i, .ty "str"] S = .ok (.bl true) S ∧ pisi [.str i, .ty "tuple"] S = .ok (.bl false) S ∧ pisi [.str i, .ty "list"] S = .ok (.bl false) S := ⟨rfl, rfl, rfl, rfl, rfl⟩
theorem isi_bl (i : Bool) (S : Sto) : pisi [.bl i, .ty "int"] S = .ok (.bl true) S ∧ pisi [.bl i, .ty "bool"] S = .ok (.bl true) S ∧ pisi [.bl i, .ty "str"] S = .ok (.bl false) S ∧ pisi [.bl i, .ty "tuple"] S = .ok (.bl false) S ∧ pisi [.bl i, .ty "list"] S = .ok (.bl false) S := ⟨rfl, rfl, rfl, rfl, rfl⟩
theorem isi_tup (i : List D) (S : Sto) : pisi [.tup i, .ty "int"] S = .ok (.bl false) S ∧ pisi [.tup i, .ty "bool"] S = .ok (.bl false) S ∧ pisi [.tup i, .ty "str"] S = .ok (.bl false) S ∧ pisi [.tup i, .ty "tuple"] S = .ok (.bl true) S ∧ pisi [.tup i, .ty "list"] S = .ok (.bl false) S := ⟨rfl, rfl, rfl, rfl, rfl⟩
theorem isi_lst (i : List D) (S : Sto) : pisi [.lst i, .ty "int"] S = .ok (.bl false) S ∧ pisi [.lst i, .ty "bool"] S = .ok (.bl false) S ∧ pisi [.lst i, .ty "str"] S = .ok (.bl false) S ∧ pisi [.lst i, .ty "tuple"] S = .ok (.bl false) S ∧ pisi [.lst i, .ty "list"] S = .ok (.bl true) S := ⟨rfl, rfl, rfl, rfl, rfl⟩
theorem same_ok : ∀ (n : Nat) (d : D) (S : Sto), pd n d = true → rSame n [d, d] S = .ok (.bl true) S
  | 0, _, _, h => by cases h
  | n + 1, d, S, h => by
    have ih := fun d S => same_ok n d S
    have loop : ∀ ds : List D, ds.length ≤ 16777216 → (∀ x ∈ ds, pd n x = true) → ∀ (ev : Ev), ev.length = 4 →
        lcL (tgT 2 (tgCons (tgN 2) (tgCons (tgN 3) tgNil))) mYes (mCall 2 (rSame n) (mCons (mVar 2) (mCons (mVar 3) mNil))) ev ⟨zipD ds ds, []⟩ (zipD ds ds) [] S = .ok (List.replicate ds.length (.bl true)) S := by
      intro ds hl hp ev he
      rw [lc_map (fun _ => .bl true) rfl _ _ (fun x hx => ?_) (by rw [zipD_self, List.length_map]; simpa using hl), zipD_self, List.map_map, List.nil_append]
      · congr 1
        exact map_const (D.bl true) ds
      · rw [zipD_self] at hx
        obtain ⟨d, hd, rfl⟩ := List.mem_map.mp hx
        match ev, he with
        | [e0, e1, e2, e3], _ =>
          refine ⟨[e0, e1, some d, some d], rfl, rfl, ?_⟩
          have q := ih d S (hp d hd)
          have nx : ∀ c ns es, d ≠ .xo c ns es := fun c ns es e => by
            subst e
            have z := hp _ hd
            cases n <;> simp [pd] at z
          have a1 : asVal (some (some d)) S = .ok d S := by
            cases d with
            | xo c ns es => exact absurd rfl (nx c ns es)
            | _ => rfl
          show mCall 2 (rSame n) _ [e0, e1, some d, some d] S = _
          simp only [mCall, mCons, mVar, mNil, List.getElem?_cons_succ, List.getElem?_cons_zero, a1, bind_ok, List.length, if_true, Nat.reduceAdd, q, reduceIte]
    unfold rSame sameB
    cases d with
    | non => simp [mDef, endS, startD, sCons, seqS, sRet, sRetN, sSet, sIf, sNil, sAsg, sExpr, sPar, par2, bindS, noEx, ML.R.bind, m1, m2, mT, mTr, asB, asTr, mC, mVar, asV_non, asV_bl, asV_int, asV_str, asV_tup, asV_lst, asV_rol, asV_ref, mL, mCons, mNil, mIf, mCall, tgN, tgSub, tgT, tgCons, tgNil, setAt, tNotM, tAndM, tOrM, mAnd, mOr, pnot, pix, pcmp, padd, psub, pmul, pfdiv, pmod, pint, plen, ptup, pisN, pnotN, seqOf, pneg, mSl, oNone, oSome, asI, mLc, mSrc, asSrc, drawn, mYes, evWipe, mkL, plst]
    | bl b => simp [mDef, endS, startD, sCons, seqS, sRet, sRetN, sSet, sIf, sNil, sAsg, sExpr, sPar, par2, bindS, noEx, ML.R.bind, m1, m2, mT, mTr, asB, asTr, mC, mVar, asV_non, asV_bl, asV_int, asV_str, asV_tup, asV_lst, asV_rol, asV_ref, mL, mCons, mNil, mIf, mCall, tgN, tgSub, tgT, tgCons, tgNil, setAt, tNotM, tAndM, tOrM, mAnd, mOr, pnot, pix, pcmp, padd, psub, pmul, pfdiv, pmod, pint, plen, ptup, pisN, pnotN, seqOf, pneg, mSl, oNone, oSome, asI, mLc, mSrc, asSrc, drawn, mYes, evWipe, mkL, plst, isi_bl, peq, py, deep, PyData.eqv]
    | int b => simp [mDef, endS, startD, sCons, seqS, sRet, sRetN, sSet, sIf, sNil, sAsg, sExpr, sPar, par2, bindS, noEx, ML.R.bind, m1, m2, mT, mTr, asB, asTr, mC, mVar, asV_non, asV_bl, asV_int, asV_str, asV_tup, asV_lst, asV_rol, asV_ref, mL, mCons, mNil, mIf, mCall, tgN, tgSub, tgT, tgCons, tgNil, setAt, tNotM, tAndM, tOrM, mAnd, mOr, pnot, pix, pcmp, padd, psub, pmul, pfdiv, pmod, pint, plen, ptup, pisN, pnotN, seqOf, pneg, mSl, oNone, oSome, asI, mLc, mSrc, asSrc, drawn, mYes, evWipe, mkL, plst, isi_int, peq]
    | str b => simp [mDef, endS, startD, sCons, seqS, sRet, sRetN, sSet, sIf, sNil, sAsg, sExpr, sPar, par2, bindS, noEx, ML.R.bind, m1, m2, mT, mTr, asB, asTr, mC, mVar, asV_non, asV_bl, asV_int, asV_str, asV_tup, asV_lst, asV_rol, asV_ref, mL, mCons, mNil, mIf, mCall, tgN, tgSub, tgT, tgCons, tgNil, setAt, tNotM, tAndM, tOrM, mAnd, mOr, pnot, pix, pcmp, padd, psub, pmul, pfdiv, pmod, pint, plen, ptup, pisN, pnotN, seqOf, pneg, mSl, oNone, oSome, asI, mLc, mSrc, asSrc, drawn, mYes, evWipe, mkL, plst, isi_str, peq]
    | tup ds =>
      have hp : ds.length ≤ 16777216 ∧ ∀ x ∈ ds, pd n x = true := by simpa [pd] using h
      have hz : mZip (mCons (mVar 0) (mCons (mVar 1) mNil)) [some (D.tup ds), some (D.tup ds), none, none] S = .ok ⟨zipD ds ds, []⟩ S := rfl
      have hl := loop ds hp.1 hp.2 [some (D.tup ds), some (D.tup ds), none, none] rfl
      simp [mDef, endS, startD, sCons, seqS, sRet, sRetN, sSet, sIf, sNil, sAsg, sExpr, sPar, par2, bindS, noEx, ML.R.bind, m1, m2, mT, mTr, asB, asTr, mC, mVar, asV_non, asV_bl, asV_int, asV_str, asV_tup, asV_lst, asV_rol, asV_ref, mL, mCons, mNil, mIf, mCall, tgN, tgSub, tgT, tgCons, tgNil, setAt, tNotM, tAndM, tOrM, mAnd, mOr, pnot, pix, pcmp, padd, psub, pmul, pfdiv, pmod, pint, plen, ptup, pisN, pnotN, seqOf, pneg, mSl, oNone, oSome, asI, mLc, mSrc, asSrc, drawn, mYes, evWipe, mkL, plst, isi_tup, pne, hz, hl, pall, asBs_true]
    | lst ds =>
      have hp : ds.length ≤ 16777216 ∧ ∀ x ∈ ds, pd n x = true := by simpa [pd] using h
      have hz : mZip (mCons (mVar 0) (mCons (mVar 1) mNil)) [some (D.lst ds), some (D.lst ds), none, none] S = .ok ⟨zipD ds ds, []⟩ S := rfl
      have hl := loop ds hp.1 hp.2 [some (D.lst ds), some (D.lst ds), none, none] rfl
      simp [mDef, endS, startD, sCons, seqS, sRet, sRetN, sSet, sIf, sNil, sAsg, sExpr, sPar, par2, bindS, noEx, ML.R.bind, m1, m2, mT, mTr, asB, asTr, mC, mVar, asV_non, asV_bl, asV_int, asV_str, asV_tup, asV_lst, asV_rol, asV_ref, mL, mCons, mNil, mIf, mCall, tgN, tgSub, tgT, tgCons, tgNil, setAt, tNotM, tAndM, tOrM, mAnd, mOr, pnot, pix, pcmp, padd, psub, pmul, pfdiv, pmod, pint, plen, ptup, pisN, pnotN, seqOf, pneg, mSl, oNone, oSome, asI, mLc, mSrc, asSrc, drawn, mYes, evWipe, mkL, plst, isi_lst, pne, hz, hl, pall, asBs_true]
    | _ => simp [pd] at h
end ML


set_option Elab.async false
set_option linter.all false
set_option maxRecDepth 100000
set_option autoImplicit false
set_option maxHeartbeats 4000000
namespace Mk93
open ML PySem PySem.Spec PyProof.Rows L2
/-- is an error of the class y one of the class c: (c, y, answer) -/
def tsub : Table := [("BadText", "BadText", true), ("BadText", "InvalidTable", false), ("BadText", "InvalidText", false)]
def tis : Table := [("RoadError", "BadText", true), ("RoadError", "InvalidTable", true), ("RoadError", "InvalidText", true)]
def b_is_integer : MS := sRet (mAnd (mL pisi (mCons (mVar 0) (mCons (mC (.ty "int")) (mNil)))) (m1 pnot (mL pisi (mCons (mVar 0) (mCons (mC (.ty "bool")) (mNil))))))
def m_is_integer : List D → Sto → R D := mDef (["value"] : List Str).length b_is_integer
def b_is_count : MS := sRet (mAnd (mCall 1 m_is_integer (mCons (mVar 0) (mNil))) (m2 (pcmp fun i j => decide (j ≤ i)) (mVar 0) (mC (.int 0))))
def m_is_count : List D → Sto → R D := mDef (["value"] : List Str).length b_is_count
def b_sizes_are_right : MS := sRet (mAnd (mChain (pcmp fun i j => decide (i ≤ j)) (pcmp fun i j => decide (i < j)) (mC (.int 1)) (mL plen (mCons (mVar 0) (mNil))) (mC (.int 8))) (mL pall (mCons (mLc false (([("at", 1), ("row", 2)] : List (Str × Nat)).map (·.2)) id (mEnum (mCons (mVar 0) (mNil))) (tgT 2 (tgCons (tgN 1) (tgCons (tgN 2) (tgNil)))) (mYes) (m2 peq (mL plen (mCons (mVar 2) (mNil))) (m2 (padd false) (mVar 1) (mC (.int 1))))) (mNil))))
def m_sizes_are_right : List D → Sto → R D := mDef (["rows", "at", "row"] : List Str).length b_sizes_are_right
def b_flaw_of : MS := sCons (sIf (tOrM (tNotM (mTr (mL pisi (mCons (mVar 0) (mCons (mC (.ty "tuple")) (mNil)))))) (tOrM (mT (m2 pne (mL plen (mCons (mVar 0) (mNil))) (mC (.int 2)))) (tOrM (tNotM (mTr (mL pisi (mCons (m2 pix (mVar 0) (mC (.int 0))) (mCons (mC (.ty "str")) (mNil)))))) (mT (m2 pne (m2 pix (mVar 0) (mC (.int 0))) (mC (.str "table"))))))) (sRet (mC (.str "form"))) (sNil)) (sCons (sIf (tOrM (tNotM (mTr (mL pisi (mCons (m2 pix (mVar 0) (mC (.int 1))) (mCons (mC (.ty "tuple")) (mNil)))))) (tNotM (mTr (mL pall (mCons (mLc false (([("row", 1)] : List (Str × Nat)).map (·.2)) id (mSrc (m2 pix (mVar 0) (mC (.int 1)))) (tgN 1) (mYes) (mL pisi (mCons (mVar 1) (mCons (mC (.ty "tuple")) (mNil))))) (mNil)))))) (sRet (mC (.str "rows"))) (sNil)) (sCons (sIf (tNotM (mTr (mCall 1 m_sizes_are_right (mCons (m2 pix (mVar 0) (mC (.int 1))) (mNil))))) (sRet (mC (.str "rows"))) (sNil)) (sCons (sFor (mSrc (m2 pix (mVar 0) (mC (.int 1)))) (tgN 1) (sIf (tNotM (mTr (mL pall (mCons (mLc false (([("far", 2)] : List (Str × Nat)).map (·.2)) id (mSrc (mVar 1)) (tgN 2) (mYes) (mAnd (mCall 1 m_is_count (mCons (mVar 2) (mNil))) (m2 (pcmp fun i j => decide (i ≤ j)) (mVar 2) (mC (.int 999))))) (mNil))))) (sRet (mC (.str "numbers"))) (sNil))) (sRet (mC .non)))))
def m_flaw_of : List D → Sto → R D := mDef (["value", "row", "far"] : List Str).length b_flaw_of
def b_table_is_right : MS := sRet (m1 pisN (mCall 1 m_flaw_of (mCons (mVar 0) (mNil))))
def m_table_is_right : List D → Sto → R D := mDef (["value"] : List Str).length b_table_is_right
def b_check_table : MS := sIf (tNotM (mTr (mCall 1 m_table_is_right (mCons (mVar 0) (mNil))))) (sRaise "InvalidTable" "value" (mCons (mVar 0) (mNil))) (sNil)
def m_check_table : List D → Sto → R D := mDef (["table"] : List Str).length b_check_table
def b_count_in : MS := sCons (sIf (tOrM (tNotM (mT (mChain (pcmp fun i j => decide (i ≤ j)) (pcmp fun i j => decide (i ≤ j)) (mC (.int 1)) (mL plen (mCons (mVar 0) (mNil))) (mC (.int 3))))) (mTr (mL pany (mCons (mLc false (([("sign", 1)] : List (Str × Nat)).map (·.2)) id (mSrc (mVar 0)) (tgN 1) (mYes) (m2 pnin (mVar 1) (mC (.str "0123456789")))) (mNil))))) (sRet (mC .non)) (sNil)) (sRet (mIf (tAndM (mT (m2 peq (m2 pix (mVar 0) (mC (.int 0))) (mC (.str "0")))) (mT (m2 pne (mVar 0) (mC (.str "0"))))) (mC .non) (mL pint (mCons (mVar 0) (mNil)))))
def m_count_in : List D → Sto → R D := mDef (["word", "sign"] : List Str).length b_count_in
def b_row_in : MS := sCons (sSet 1 (mLc false (([("part", 2)] : List (Str × Nat)).map (·.2)) id (mSrc (mMe isStr (psplit false) (mVar 0) (mCons (mC (.str ",")) (mNil)))) (tgN 2) (mYes) (mCall 1 m_count_in (mCons (mVar 2) (mNil))))) (sRet (mIf (mT (m2 pin (mC .non) (mVar 1))) (mC .non) (mL ptuple (mCons (mVar 1) (mNil)))))
def m_row_in : List D → Sto → R D := mDef (["word", "found", "part"] : List Str).length b_row_in
def b_row_word : MS := sRet (mMe isStr pjoin (mC (.str ",")) (mCons (mLc false (([("one", 1)] : List (Str × Nat)).map (·.2)) id (mSrc (mVar 0)) (tgN 1) (mYes) (mL pstr (mCons (mVar 1) (mNil)))) (mNil)))
def m_row_word : List D → Sto → R D := mDef (["numbers", "one"] : List Str).length b_row_word
def b_line_row : MS := sCons (sIf (tOrM (mT (m2 pne (mSl false (mVar 0) (oNone) (oSome (mC (.int 4)))) (mC (.str "row ")))) (mT (m2 (pcmp fun i j => decide (j < i)) (mVar 1) (mC (.int 7))))) (sRet (mC .non)) (sNil)) (sCons (sSet 2 (mCall 1 m_row_in (mCons (mSl false (mVar 0) (oSome (mC (.int 4))) (oNone)) (mNil)))) (sRet (mIf (tAndM (mT (m1 pnotN (mVar 2))) (mT (m2 peq (mL plen (mCons (mVar 2) (mNil))) (mVar 1)))) (mVar 2) (mC .non))))
def m_line_row : List D → Sto → R D := mDef (["line", "size", "found"] : List Str).length b_line_row
def b_read : MS := sCons (sSet 1 (mMe isStr (psplit false) (mVar 0) (mCons (mC (.str "\n")) (mNil)))) (sCons (sIf (tOrM (mT (m2 (pcmp fun i j => decide (i < j)) (mL plen (mCons (mVar 1) (mNil))) (mC (.int 2)))) (mT (m2 pne (m2 pix (mVar 1) (mC (.int 0))) (mC (.str "table"))))) (sRet (mL ptup (mCons (mC .non) (mCons (mC (.int 0)) (mNil))))) (sNil)) (sCons (sSet 2 (mL (plst true) (mNil))) (sCons (sFor (mRange2 (mCons (mC (.int 1)) (mCons (m2 psub (mL plen (mCons (mVar 1) (mNil))) (mC (.int 1))) (mNil)))) (tgN 3) (sCons (sSet 4 (mCall 2 m_line_row (mCons (m2 pix (mVar 1) (mVar 3)) (mCons (mVar 3) (mNil))))) (sCons (sIf (mT (m1 pisN (mVar 4))) (sRet (mL ptup (mCons (mC .non) (mCons (mVar 3) (mNil))))) (sNil)) (sExpr (mMe isSeq pappend (mVar 2) (mCons (mVar 4) (mNil))))))) (sCons (sSet 5 (mL ptup (mCons (mC (.str "table")) (mCons (mL ptuple (mCons (mVar 2) (mNil))) (mNil))))) (sRet (mL ptup (mCons (mIf (tAndM (mT (m2 peq (m2 pix (mVar 1) (m1 pneg (mC (.int 1)))) (mC (.str "")))) (mTr (mCall 1 m_table_is_right (mCons (mVar 5) (mNil))))) (mVar 5) (mC .non)) (mCons (m2 psub (mL plen (mCons (mVar 1) (mNil))) (mC (.int 1))) (mNil)))))))))
def m_read : List D → Sto → R D := mDef (["text", "lines", "rows", "at", "found", "told"] : List Str).length b_read
def b_check_text : MS := sIf (tNotM (mTr (mL pisi (mCons (mVar 0) (mCons (mC (.ty "str")) (mNil)))))) (sRaise "InvalidText" "value" (mCons (mVar 0) (mNil))) (sNil)
def m_check_text : List D → Sto → R D := mDef (["text"] : List Str).length b_check_text
def b_table_text : MS := sCons (sExpr (mCall 1 m_check_table (mCons (mVar 0) (mNil)))) (sRet (mMe isStr pjoin (mC (.str "")) (mCons (mLc false (([("line", 1)] : List (Str × Nat)).map (·.2)) id (mSrc (m2 (padd false) (mL (plst false) (mCons (mC (.str "table")) (mNil))) (mLc false (([("row", 2)] : List (Str × Nat)).map (·.2)) id (mSrc (m2 pix (mVar 0) (mC (.int 1)))) (tgN 2) (mYes) (m2 (padd false) (mC (.str "row ")) (mCall 1 m_row_word (mCons (mVar 2) (mNil))))))) (tgN 1) (mYes) (m2 (padd false) (mVar 1) (mC (.str "\n")))) (mNil))))
def m_table_text : List D → Sto → R D := mDef (["table", "line", "row"] : List Str).length b_table_text
def b_bad_line : MS := sCons (sExpr (mCall 1 m_check_text (mCons (mVar 0) (mNil)))) (sCons (sAsg (tgT 2 (tgCons (tgN 1) (tgCons (tgN 2) (tgNil)))) (mCall 1 m_read (mCons (mVar 0) (mNil)))) (sRet (mIf (mT (m1 pnotN (mVar 1))) (mC .non) (m2 (padd false) (mVar 2) (mC (.int 1))))))
def m_bad_line : List D → Sto → R D := mDef (["text", "table", "good"] : List Str).length b_bad_line
def b_table_of : MS := sCons (sExpr (mCall 1 m_check_text (mCons (mVar 0) (mNil)))) (sCons (sAsg (tgT 2 (tgCons (tgN 1) (tgCons (tgN 2) (tgNil)))) (mCall 1 m_read (mCons (mVar 0) (mNil)))) (sCons (sIf (mT (m1 pisN (mVar 1))) (sRaise "BadText" "line" (mCons (m2 (padd false) (mVar 2) (mC (.int 1))) (mNil))) (sNil)) (sRet (mVar 1))))
def m_table_of : List D → Sto → R D := mDef (["text", "table", "good"] : List Str).length b_table_of
def b__law_pot : MS := sCons (sSet 2 (m2 (padd false) (m2 (padd false) (m2 (pmul false) (mC (.int 839)) (mVar 1)) (mC (.int 431))) (m2 pmod (mL pint (mCons (mL pabs (mCons (mL psum (mCons (mSl false (mVar 0) (oNone) (oSome (mC (.int 1)))) (mNil))) (mNil))) (mNil))) (mC (.int 1000003))))) (sCons (sSet 3 (mIf (mT (m2 (pcmp fun i j => decide (i < j)) (mVar 1) (mL plen (mCons (mVar 0) (mNil))))) (mL pabs (mCons (m2 pix (mVar 0) (mVar 1)) (mNil))) (mVar 2))) (sRet (mL (plst true) (mCons (mL pmax2 (mCons (mC (.int 0)) (mCons (m2 psub (mVar 3) (m2 ppow (mC (.int 10)) (mC (.int 18)))) (mNil)))) (mCons (m2 (padd false) (m2 pmod (mL pint (mCons (m2 (padd false) (m2 (padd false) (m2 (pmul false) (m2 pmod (mL pint (mCons (mVar 3) (mNil))) (mC (.int 2147483579))) (mC (.int 40127))) (m2 (pmul false) (mC (.int 6329)) (mVar 1))) (mC (.int 431))) (mNil))) (mC (.int 2147483563))) (mC (.int 1))) (mNil))))))
def m__law_pot : List D → Sto → R D := mDef (["script", "k", "spare", "cell"] : List Str).length b__law_pot
def b__law_draw : MS := sCons (sIf (mT (m2 (pcmp fun i j => decide (j < i)) (m2 pix (mVar 0) (mC (.int 0))) (mC (.int 0)))) (sCons (sSet 2 (m2 pmod (mL pint (mCons (m2 pix (mVar 0) (mC (.int 0))) (mNil))) (mVar 1))) (sCons (sAsg (tgSub (mVar 0) (mC (.int 0))) (m2 pfdiv (mL pint (mCons (m2 pix (mVar 0) (mC (.int 0))) (mNil))) (mVar 1))) (sRet (mVar 2)))) (sNil)) (sCons (sAsg (tgSub (mVar 0) (mC (.int 1))) (m2 pmod (mL pint (mCons (m2 (padd false) (m2 (pmul false) (m2 pix (mVar 0) (mC (.int 1))) (mC (.int 40127))) (mC (.int 6329))) (mNil))) (mC (.int 2147483587)))) (sRet (m2 pmod (mL pint (mCons (m2 pfdiv (m2 pmod (mL pint (mCons (m2 (pmul false) (m2 pix (mVar 0) (mC (.int 1))) (m2 pix (mVar 0) (mC (.int 1)))) (mNil))) (mC (.int 2147483549))) (mC (.int 23))) (mNil))) (mVar 1))))
def m__law_draw : List D → Sto → R D := mDef (["pot", "many", "digit"] : List Str).length b__law_draw
def b__law_pick : MS := sRet (m2 pix (mVar 1) (mCall 2 m__law_draw (mCons (mVar 0) (mCons (mL plen (mCons (mVar 1) (mNil))) (mNil)))))
def m__law_pick : List D → Sto → R D := mDef (["pot", "some"] : List Str).length b__law_pick
def b__law_same (r : List D → Sto → R D) : MS := sCons (sIf (mT (m1 pisN (mVar 1))) (sRet (m1 pisN (mVar 0))) (sNil)) (sCons (sIf (mTr (mL pisi (mCons (mVar 1) (mCons (mC (.ty "bool")) (mNil))))) (sRet (mAnd (mL pisi (mCons (mVar 0) (mCons (mC (.ty "bool")) (mNil)))) (m2 peq (mVar 0) (mVar 1)))) (sNil)) (sCons (sIf (mTr (mL pisi (mCons (mVar 1) (mCons (mC (.ty "str")) (mNil))))) (sRet (mAnd (mL pisi (mCons (mVar 0) (mCons (mC (.ty "str")) (mNil)))) (m2 peq (mVar 0) (mVar 1)))) (sNil)) (sCons (sIf (mTr (mL pisi (mCons (mVar 1) (mCons (mC (.ty "int")) (mNil))))) (sRet (mAnd (mL pisi (mCons (mVar 0) (mCons (mC (.ty "int")) (mNil)))) (mAnd (m1 pnot (mL pisi (mCons (mVar 0) (mCons (mC (.ty "bool")) (mNil))))) (m2 peq (mVar 0) (mVar 1))))) (sNil)) (sCons (sIf (mTr (mL pisi (mCons (mVar 1) (mCons (mC (.ty "tuple")) (mNil))))) (sCons (sIf (tOrM (tNotM (mTr (mL pisi (mCons (mVar 0) (mCons (mC (.ty "tuple")) (mNil)))))) (mT (m2 pne (mL plen (mCons (mVar 0) (mNil))) (mL plen (mCons (mVar 1) (mNil)))))) (sRet (mC (.bl false))) (sNil)) (sRet (mL pall (mCons (mLc false (([("near", 2), ("far", 3)] : List (Str × Nat)).map (·.2)) id (mZip (mCons (mVar 0) (mCons (mVar 1) (mNil)))) (tgT 2 (tgCons (tgN 2) (tgCons (tgN 3) (tgNil)))) (mYes) (mCall 2 r (mCons (mVar 2) (mCons (mVar 3) (mNil))))) (mNil))))) (sNil)) (sCons (sIf (mTr (mL pisi (mCons (mVar 1) (mCons (mC (.ty "list")) (mNil))))) (sCons (sIf (tOrM (tNotM (mTr (mL pisi (mCons (mVar 0) (mCons (mC (.ty "list")) (mNil)))))) (mT (m2 pne (mL plen (mCons (mVar 0) (mNil))) (mL plen (mCons (mVar 1) (mNil)))))) (sRet (mC (.bl false))) (sNil)) (sRet (mL pall (mCons (mLc false (([("near", 2), ("far", 3)] : List (Str × Nat)).map (·.2)) id (mZip (mCons (mVar 0) (mCons (mVar 1) (mNil)))) (tgT 2 (tgCons (tgN 2) (tgCons (tgN 3) (tgNil)))) (mYes) (mCall 2 r (mCons (mVar 2) (mCons (mVar 3) (mNil))))) (mNil))))) (sNil)) (sRet (m2 peq (mVar 0) (mVar 1))))))))
def r__law_same : Nat → List D → Sto → R D
  | 0 => fun _ _ => .no
  | n + 1 => mDef (["told", "due", "near", "far"] : List Str).length (b__law_same (r__law_same n))
def m__law_same : List D → Sto → R D := r__law_same 8
def b__law_text : MS := sRet (mMe isStr pjoin (mC (.str "")) (mCons (m2 (padd false) (mL (plst false) (mCons (mC (.str "table\n")) (mNil))) (mLc false (([("row", 1)] : List (Str × Nat)).map (·.2)) id (mSrc (m2 pix (mVar 0) (mC (.int 1)))) (tgN 1) (mYes) (m2 (padd false) (m2 (padd false) (mC (.str "row ")) (mMe isStr pjoin (mC (.str ",")) (mCons (mLc false (([("far", 2)] : List (Str × Nat)).map (·.2)) id (mSrc (mVar 1)) (tgN 2) (mYes) (mL pstr (mCons (mVar 2) (mNil)))) (mNil)))) (mC (.str "\n"))))) (mNil)))
def m__law_text : List D → Sto → R D := mDef (["table", "row", "far"] : List Str).length b__law_text
def b__law_table : MS := sCons (sSet 1 (mCall 2 m__law_pick (mCons (mVar 0) (mCons (mL ptup (mCons (mC (.int 3)) (mCons (mC (.int 40)) (mCons (mC (.int 1000)) (mNil))))) (mNil))))) (sCons (sSet 2 (mL (plst true) (mNil))) (sCons (sFor (mRange1 (mCons (m2 (padd false) (mC (.int 1)) (mCall 2 m__law_draw (mCons (mVar 0) (mCons (mC (.int 7)) (mNil))))) (mNil))) (tgN 3) (sExpr (mMe isSeq pappend (mVar 2) (mCons (mL ptuple (mCons (mLc false (([("near", 4)] : List (Str × Nat)).map (·.2)) id (mRange1 (mCons (m2 (padd false) (mVar 3) (mC (.int 1))) (mNil))) (tgN 4) (mYes) (mCall 2 m__law_draw (mCons (mVar 0) (mCons (mVar 1) (mNil))))) (mNil))) (mNil))))) (sRet (mL ptup (mCons (mC (.str "table")) (mCons (mL ptuple (mCons (mVar 2) (mNil))) (mNil)))))))
def m__law_table : List D → Sto → R D := mDef (["pot", "wide", "rows", "town", "near"] : List Str).length b__law_table
def b__law_is_numeral : MS := sRet (mAnd (m2 pne (mVar 0) (mC (.str ""))) (mAnd (mL pall (mCons (mLc false (([("sign", 1)] : List (Str × Nat)).map (·.2)) id (mSrc (mVar 0)) (tgN 1) (mYes) (m2 pin (mVar 1) (mC (.str "0123456789")))) (mNil))) (mAnd (m2 (pcmp fun i j => decide (i < j)) (mL plen (mCons (mVar 0) (mNil))) (mC (.int 4))) (mOr (m2 peq (mVar 0) (mC (.str "0"))) (m2 pne (m2 pix (mVar 0) (mC (.int 0))) (mC (.str "0")))))))
def m__law_is_numeral : List D → Sto → R D := mDef (["word", "sign"] : List Str).length b__law_is_numeral
def b__law_bad : MS := sCons (sSet 1 (mMe isStr (psplit true) (mVar 0) (mCons (mC (.str "\n")) (mNil)))) (sCons (sSet 2 (mMe isSeq ppop (mVar 1) mNil)) (sCons (sFor (mEnum (mCons (mVar 1) (mNil))) (tgT 2 (tgCons (tgN 3) (tgCons (tgN 4) (tgNil)))) (sCons (sIf (tOrM (tAndM (mT (m2 peq (mVar 3) (mC (.int 0)))) (mT (m2 pne (mVar 4) (mC (.str "table"))))) (mT (m2 (pcmp fun i j => decide (j < i)) (mVar 3) (mC (.int 7))))) (sRet (m2 (padd false) (mVar 3) (mC (.int 1)))) (sNil)) (sIf (mT (m2 (pcmp fun i j => decide (j < i)) (mVar 3) (mC (.int 0)))) (sCons (sSet 5 (mMe isStr (psplit false) (mSl false (mVar 4) (oSome (mC (.int 4))) (oNone)) (mCons (mC (.str ",")) (mNil)))) (sIf (tOrM (mT (m2 pne (mSl false (mVar 4) (oNone) (oSome (mC (.int 4)))) (mC (.str "row ")))) (tOrM (mT (m2 pne (mL plen (mCons (mVar 5) (mNil))) (mVar 3))) (tNotM (mTr (mL pall (mCons (mLc false (([("word", 6)] : List (Str × Nat)).map (·.2)) id (mSrc (mVar 5)) (tgN 6) (mYes) (mCall 1 m__law_is_numeral (mCons (mVar 6) (mNil)))) (mNil))))))) (sRet (m2 (padd false) (mVar 3) (mC (.int 1)))) (sNil))) (sNil)))) (sRet (mIf (tAndM (mT (m2 peq (mVar 2) (mC (.str "")))) (mT (m2 (pcmp fun i j => decide (j < i)) (mL plen (mCons (mVar 1) (mNil))) (mC (.int 1))))) (mC .non) (m2 (padd false) (mL plen (mCons (mVar 1) (mNil))) (mC (.int 1)))))))
def m__law_bad : List D → Sto → R D := mDef (["text", "lines", "rest", "at", "line", "words", "word"] : List Str).length b__law_bad
def b__law_bent : MS := sCons (sSet 2 (mMe isStr (psplit false) (mVar 1) (mCons (mC (.str "\n")) (mNil)))) (sCons (sPar 3 4 (mCons (mCall 2 m__law_draw (mCons (mVar 0) (mCons (mL plen (mCons (mVar 2) (mNil))) (mNil)))) (mCons (mCall 2 m__law_draw (mCons (mVar 0) (mCons (mL plen (mCons (mVar 1) (mNil))) (mNil)))) (mNil)))) (sCons (sSet 5 (mCall 2 m__law_pick (mCons (mVar 0) (mCons (mL ptup (mCons (mC (.str "0")) (mCons (mC (.str "1")) (mCons (mC (.str ",")) (mCons (mC (.str " ")) (mCons (mC (.str "\n")) (mCons (mC (.str "row")) (mCons (mC (.str "-")) (mCons (mC (.str "x")) (mCons (mC (.str "00")) (mNil))))))))))) (mNil))))) (sCons (sSet 6 (mL (plst true) (mCons (m2 (padd false) (mSl false (mVar 1) (oNone) (oSome (mVar 4))) (mSl false (mVar 1) (oSome (m2 (padd false) (mVar 4) (mC (.int 1)))) (oNone))) (mCons (m2 (padd false) (m2 (padd false) (mSl false (mVar 1) (oNone) (oSome (mVar 4))) (mVar 5)) (mSl false (mVar 1) (oSome (mVar 4)) (oNone))) (mCons (m2 (padd false) (m2 (padd false) (mSl false (mVar 1) (oNone) (oSome (mVar 4))) (mVar 5)) (mSl false (mVar 1) (oSome (m2 (padd false) (mVar 4) (mC (.int 1)))) (oNone))) (mCons (mSl false (mVar 1) (oNone) (oSome (mVar 4))) (mCons (m2 (padd false) (mVar 1) (mC (.str "row 1\n"))) (mNil)))))))) (sCons (sExpr (mMe isSeq pextend (mVar 6) (mCons (mL (plst false) (mCons (mMe isStr pjoin (mC (.str "\n")) (mCons (m2 (padd false) (mSl false (mVar 2) (oNone) (oSome (mVar 3))) (mSl false (mVar 2) (oSome (m2 (padd false) (mVar 3) (mC (.int 1)))) (oNone))) (mNil))) (mCons (mMe isStr pjoin (mC (.str "\n")) (mCons (m2 (padd false) (m2 (padd false) (mSl false (mVar 2) (oNone) (oSome (mVar 3))) (mSl false (mVar 2) (oSome (mVar 3)) (oSome (m2 (padd false) (mVar 3) (mC (.int 1)))))) (mSl false (mVar 2) (oSome (mVar 3)) (oNone))) (mNil))) (mCons (m2 (padd false) (mVar 1) (mVar 1)) (mCons (m2 (padd false) (mC (.str " ")) (mVar 1)) (mCons (mSl false (mVar 1) (oNone) (oSome (m1 pneg (mC (.int 1))))) (mCons (m1 (prepl "," ", ") (mVar 1)) (mNil)))))))) (mNil)))) (sRet (mCall 2 m__law_pick (mCons (mVar 0) (mCons (mVar 6) (mNil)))))))))
def m__law_bent : List D → Sto → R D := mDef (["pot", "text", "lines", "at", "spot", "sign", "some"] : List Str).length b__law_bent
def b__law_read : MS := sCons (sSet 1 (mC .non)) (sCons (sTry (sSet 1 (mCall 1 m_table_of (mCons (mVar 0) (mNil)))) [⟨tstL tsub "BadText", 2, sSet 1 (mL ptup (mCons (mC (.str "bad")) (mCons (mFld 2 ["BadText"] "line") (mCons (mIsX 2 (tstL tis "RoadError")) (mNil)))))⟩]) (sRet (mVar 1)))
def m__law_read : List D → Sto → R D := mDef (["text", "found", "e"] : List Str).length b__law_read
def b_law : MS := sCons (sAsg (tgT 2 (tgCons (tgN 1) (tgCons (tgN 2) (tgNil)))) (mL ptup (mCons (mCall 2 m__law_pot (mCons (mVar 0) (mCons (mC (.int 0)) (mNil)))) (mCons (mCall 2 m__law_pot (mCons (mVar 0) (mCons (mC (.int 1)) (mNil)))) (mNil))))) (sCons (sFor (mRange1 (mCons (mC (.int 4)) (mNil))) (tgN 3) (sCons (sPar 4 5 (mCons (mCall 1 m__law_table (mCons (mVar 1) (mNil))) (mCons (mCall 1 m__law_table (mCons (mVar 1) (mNil))) (mNil)))) (sCons (sAsg (tgT 2 (tgCons (tgN 6) (tgCons (tgN 7) (tgNil)))) (mL ptup (mCons (mL prepr (mCons (mVar 4) (mNil))) (mCons (mCall 1 m__law_text (mCons (mVar 4) (mNil))) (mNil))))) (sCons (sIf (tNotM (mTr (mCall 2 m__law_same (mCons (mL (plst false) (mCons (mCall 1 m_table_text (mCons (mVar 4) (mNil))) (mCons (mCallK 0 (["table"] : List Str).length [0] m_table_text mNil (mkCons (mVar 4) (mkNil))) (mCons (mCall 1 m_table_of (mCons (mVar 7) (mNil))) (mCons (mCallK 0 (["text"] : List Str).length [0] m_table_of mNil (mkCons (mVar 7) (mkNil))) (mCons (mCall 1 m_bad_line (mCons (mVar 7) (mNil))) (mNil))))))) (mCons (mL (plst false) (mCons (mVar 7) (mCons (mVar 7) (mCons (mVar 4) (mCons (mVar 4) (mCons (mC .non) (mNil))))))) (mNil)))))) (sRet (mC (.bl false))) (sNil)) (sCons (sIf (tOrM (mT (m2 pne (m2 peq (mVar 4) (mVar 5)) (m2 peq (mCall 1 m_table_text (mCons (mVar 5) (mNil))) (mVar 7)))) (mT (m2 pne (mL prepr (mCons (mVar 4) (mNil))) (mVar 6)))) (sRet (mC (.bl false))) (sNil)) (sCons (sSet 8 (m2 (padd false) (mL (plst false) (mCons (mC (.str "")) (mCons (mC (.str "table")) (mCons (mC (.str "table\n")) (mCons (mC (.str "\n")) (mCons (mC (.str "row 1\n")) (mCons (mC (.str "table\n\n")) (mCons (mC (.str "table\nrow \n")) (mCons (mC (.str "table\nrow 1")) (mCons (mC (.str "table\nrow 1\n\n")) (mNil))))))))))) (mLc false (([("turn", 12)] : List (Str × Nat)).map (·.2)) id (mRange1 (mCons (mC (.int 12)) (mNil))) (tgN 12) (mYes) (mCall 2 m__law_bent (mCons (mVar 2) (mCons (mVar 7) (mNil))))))) (sFor (mSrc (mVar 8)) (tgN 9) (sCons (sSet 10 (mCall 1 m__law_bad (mCons (mVar 9) (mNil)))) (sCons (sIf (tNotM (mTr (mCall 2 m__law_same (mCons (mL (plst false) (mCons (mCall 1 m_bad_line (mCons (mVar 9) (mNil))) (mCons (mCallK 0 (["text"] : List Str).length [0] m_bad_line mNil (mkCons (mVar 9) (mkNil))) (mNil)))) (mCons (mL (plst false) (mCons (mVar 10) (mCons (mVar 10) (mNil)))) (mNil)))))) (sRet (mC (.bl false))) (sNil)) (sCons (sSet 11 (mCall 1 m__law_read (mCons (mVar 9) (mNil)))) (sIf (tOrM (tAndM (mT (m1 pnotN (mVar 10))) (mT (m2 pne (mVar 11) (mL ptup (mCons (mC (.str "bad")) (mCons (mVar 10) (mCons (mC (.bl true)) (mNil)))))))) (tAndM (mT (m1 pisN (mVar 10))) (mT (m2 pne (mCall 1 m_table_text (mCons (mVar 11) (mNil))) (mVar 9))))) (sRet (mC (.bl false))) (sNil)))))))))))) (sRet (mC (.bl true))))
def m_law : List D → Sto → R D := mDef (["script", "pot", "late", "step", "table", "other", "shown", "text", "some", "value", "due", "told", "turn"] : List Str).length b_law
end Mk93


set_option Elab.async false
set_option linter.all false
set_option maxRecDepth 100000
set_option autoImplicit false
set_option maxHeartbeats 4000000
namespace Mk93
open ML PySem PySem.Spec PyProof.Rows L2
def top (i : Nat) : Stmt := PySem.Challenge.pw_splitroads_k93_whole_texts_of_tables.main.body.getD i (.Pass ⟨0, 0, 0, 0⟩)
abbrev st_is_integer : Stmt := top 6
abbrev st_is_count : Stmt := top 7
abbrev st_sizes_are_right : Stmt := top 11
abbrev st_flaw_of : Stmt := top 12
abbrev st_table_is_right : Stmt := top 13
abbrev st_check_table : Stmt := top 14
abbrev st_count_in : Stmt := top 19
abbrev st_row_in : Stmt := top 20
abbrev st_row_word : Stmt := top 21
abbrev st_line_row : Stmt := top 22
abbrev st_read : Stmt := top 23
abbrev st_check_text : Stmt := top 24
abbrev st_table_text : Stmt := top 25
abbrev st_bad_line : Stmt := top 26
abbrev st_table_of : Stmt := top 27
abbrev st__law_pot : Stmt := top 29
abbrev st__law_draw : Stmt := top 30
abbrev st__law_pick : Stmt := top 31
abbrev st__law_same : Stmt := top 32
abbrev st__law_text : Stmt := top 33
abbrev st__law_table : Stmt := top 34
abbrev st__law_is_numeral : Stmt := top 35
abbrev st__law_bad : Stmt := top 36
abbrev st__law_bent : Stmt := top 37
abbrev st__law_read : Stmt := top 38
abbrev st_law : Stmt := top 39
structure Env (K : PySem.W.Frag) (mg : Str → Option Value) : Prop where
  f_is_integer : DefF K mg "is_integer" "is_integer" st_is_integer
  f_is_count : DefF K mg "is_count" "is_count" st_is_count
  f_sizes_are_right : DefF K mg "sizes_are_right" "sizes_are_right" st_sizes_are_right
  f_flaw_of : DefF K mg "flaw_of" "flaw_of" st_flaw_of
  f_table_is_right : DefF K mg "table_is_right" "table_is_right" st_table_is_right
  f_check_table : DefF K mg "check_table" "check_table" st_check_table
  f_count_in : DefF K mg "count_in" "count_in" st_count_in
  f_row_in : DefF K mg "row_in" "row_in" st_row_in
  f_row_word : DefF K mg "row_word" "row_word" st_row_word
  f_line_row : DefF K mg "line_row" "line_row" st_line_row
  f_read : DefF K mg "read" "read" st_read
  f_check_text : DefF K mg "check_text" "check_text" st_check_text
  f_table_text : DefF K mg "table_text" "table_text" st_table_text
  f_bad_line : DefF K mg "bad_line" "bad_line" st_bad_line
  f_table_of : DefF K mg "table_of" "table_of" st_table_of
  f__law_pot : DefF K mg "_law_pot" "_law_pot" st__law_pot
  f__law_draw : DefF K mg "_law_draw" "_law_draw" st__law_draw
  f__law_pick : DefF K mg "_law_pick" "_law_pick" st__law_pick
  f__law_same : DefF K mg "_law_same" "_law_same" st__law_same
  f__law_text : DefF K mg "_law_text" "_law_text" st__law_text
  f__law_table : DefF K mg "_law_table" "_law_table" st__law_table
  f__law_is_numeral : DefF K mg "_law_is_numeral" "_law_is_numeral" st__law_is_numeral
  f__law_bad : DefF K mg "_law_bad" "_law_bad" st__law_bad
  f__law_bent : DefF K mg "_law_bent" "_law_bent" st__law_bent
  f__law_read : DefF K mg "_law_read" "_law_read" st__law_read
  f_law : DefF K mg "law" "law" st_law
  b_abs : mg "abs" = none
  b_all : mg "all" = none
  b_any : mg "any" = none
  b_bool : mg "bool" = none
  b_enumerate : mg "enumerate" = none
  b_int : mg "int" = none
  b_isinstance : mg "isinstance" = none
  b_len : mg "len" = none
  b_list : mg "list" = none
  b_max : mg "max" = none
  b_range : mg "range" = none
  b_repr : mg "repr" = none
  b_str : mg "str" = none
  b_sum : mg "sum" = none
  b_tuple : mg "tuple" = none
  b_zip : mg "zip" = none
  k_DIGITS : Cst K mg "DIGITS" (.str "0123456789")
  k_MOST_DIGITS : Cst K mg "MOST_DIGITS" (.int 3)
  k_MOST_FAR : Cst K mg "MOST_FAR" (.int 999)
  k_MOST_ROWS : Cst K mg "MOST_ROWS" (.int 7)
  k_MOST_TOWNS : Cst K mg "MOST_TOWNS" (.int 8)
  x_BadText : ∃ C fI, Low.LowTxt K mg "BadText" "line" "BadText.__init__" C fI
  x_InvalidTable : ∃ C fI, Low.LowTxt K mg "InvalidTable" "value" "RoadError.__init__" C fI
  x_InvalidText : ∃ C fI, Low.LowTxt K mg "InvalidText" "value" "RoadError.__init__" C fI
  x_RoadError : ∃ C fI, Low.LowTxt K mg "RoadError" "value" "RoadError.__init__" C fI
  xf_line : ∀ c ∈ (["BadText"] : List Str), XF K mg "line" c
  xf_value : ∀ c ∈ (["RoadError", "InvalidTable", "InvalidText"] : List Str), XF K mg "value" c
  sub : AllT (SubF K mg) tsub
  isx : AllT (IsF K mg) tis
section
variable {P : Program} {w : World} {K : PySem.W.Frag} {mg : Str → Option Value}
theorem sc_is_integer : FnScope ["value"] ["value"] (defScope st_is_integer) := ⟨rfl, rfl, rfl, by decide +kernel, rfl, by decide +kernel, by decide +kernel⟩
theorem bp_is_integer : BindP "is_integer" st_is_integer ["value"] := fun _ _ _ _ _ _ us hl => match us, hl with | [_], _ => rfl
theorem ok_is_integer (e : Env K mg) : DefG P w K mg "is_integer" "is_integer" st_is_integer ["value"] 1 m_is_integer := by
  exact defG_of (k := 0) e.f_is_integer sc_is_integer (fun f base cdv A outer s H E hr hgd => by
      have nd := sc_is_integer.nd
      exact sms_one (sm_ret (em_and (em_callB c_isi e.b_isinstance rfl (am_cons (em_var 0) (am_cons (em_ty e.b_int rfl) (am_nil)))) (em_one (em_not (em_callB c_isi e.b_isinstance rfl (am_cons (em_var 0) (am_cons (em_ty e.b_bool rfl) (am_nil)))))))))
theorem sc_is_count : FnScope ["value"] ["value"] (defScope st_is_count) := ⟨rfl, rfl, rfl, by decide +kernel, rfl, by decide +kernel, by decide +kernel⟩
theorem bp_is_count : BindP "is_count" st_is_count ["value"] := fun _ _ _ _ _ _ us hl => match us, hl with | [_], _ => rfl
theorem ok_is_count (e : Env K mg) : DefG P w K mg "is_count" "is_count" st_is_count ["value"] 2 m_is_count := by
  exact defG_of (k := 1) e.f_is_count sc_is_count (fun f base cdv A outer s H E hr hgd => by
      have nd := sc_is_count.nd
      exact sms_one (sm_ret (em_and (em_callD 1 (ok_is_integer e) hr hgd takes_body bp_is_integer (am_cons (em_var 0) (am_nil))) (em_one (em_cmp o_ge (em_var 0) (em_int))))))
theorem sc_sizes_are_right : FnScope ["rows", "at", "row"] ["rows"] (defScope st_sizes_are_right) := ⟨rfl, rfl, rfl, by decide +kernel, rfl, by decide +kernel, by decide +kernel⟩
theorem bp_sizes_are_right : BindP "sizes_are_right" st_sizes_are_right ["rows"] := fun _ _ _ _ _ _ us hl => match us, hl with | [_], _ => rfl
theorem ok_sizes_are_right (e : Env K mg) : DefG P w K mg "sizes_are_right" "sizes_are_right" st_sizes_are_right ["rows"] 1 m_sizes_are_right := by
  exact defG_of (k := 0) e.f_sizes_are_right sc_sizes_are_right (fun f base cdv A outer s H E hr hgd => by
      have nd := sc_sizes_are_right.nd
      exact sms_one (sm_ret (em_and (em_chain (fun _ => o_le) (fun _ => o_lt) (em_int) (em_callB c_len e.b_len rfl (am_cons (em_var 0) (am_nil))) (em_cst e.k_MOST_TOWNS)) (em_one (em_callB (c_all rfl) e.b_all rfl (am_cons (em_lc false id (fe_id rfl) (own := [("at", 1), ("row", 2)]) rfl nd (blkOk_by (by kernel_rfl)) (im_enum e.b_enumerate (am_cons (em_var 0) (am_nil))) (fun _ _ _ _ _ => gm_tup rfl (gms_cons (gm_name 1 nd) (gms_cons (gm_name 2 nd) (gms_nil)))) (fun _ _ _ _ _ => tms_nil) (fun _ _ _ _ _ => em_cmp (o_eq (room64 hr)) (em_callB c_len e.b_len rfl (am_cons (em_var 2) (am_nil))) (em_op (o_add false) (em_var 1) (em_int)))) (am_nil)))))))
theorem sc_flaw_of : FnScope ["value", "row", "far"] ["value"] (defScope st_flaw_of) := ⟨rfl, rfl, rfl, by decide +kernel, rfl, by decide +kernel, by decide +kernel⟩
theorem bp_flaw_of : BindP "flaw_of" st_flaw_of ["value"] := fun _ _ _ _ _ _ us hl => match us, hl with | [_], _ => rfl
theorem ok_flaw_of (e : Env K mg) : DefG P w K mg "flaw_of" "flaw_of" st_flaw_of ["value"] 3 m_flaw_of := by
  exact defG_of (k := 2) e.f_flaw_of sc_flaw_of (fun f base cdv A outer s H E hr hgd => by
      have nd := sc_flaw_of.nd
      exact sms_cons (sm_if (tm_w (wm_or (tm_not (tm_val (em_callB c_isi e.b_isinstance rfl (am_cons (em_var 0) (am_cons (em_ty e.b_tuple rfl) (am_nil)))))) (wm_or (tm_cmp (o_ne (room64 hr)) (em_callB c_len e.b_len rfl (am_cons (em_var 0) (am_nil))) (em_int)) (wm_or (tm_not (tm_val (em_callB c_isi e.b_isinstance rfl (am_cons (em_ix (em_var 0) (em_int)) (am_cons (em_ty e.b_str rfl) (am_nil)))))) (wm_or1 (tm_cmp (o_ne (room64 hr)) (em_ix (em_var 0) (em_int)) (em_str))))))) (sms_one (sm_ret (em_str))) (sms_nil)) (sms_cons (sm_if (tm_w (wm_or (tm_not (tm_val (em_callB c_isi e.b_isinstance rfl (am_cons (em_ix (em_var 0) (em_int)) (am_cons (em_ty e.b_tuple rfl) (am_nil)))))) (wm_or1 (tm_not (tm_val (em_callB (c_all rfl) e.b_all rfl (am_cons (em_lc false id (fe_id rfl) (own := [("row", 1)]) rfl nd (blkOk_by (by kernel_rfl)) (im_seq (em_ix (em_var 0) (em_int))) (fun _ _ _ _ _ => gm_name 1 nd) (fun _ _ _ _ _ => tms_nil) (fun _ _ _ _ _ => em_callB c_isi e.b_isinstance rfl (am_cons (em_var 1) (am_cons (em_ty e.b_tuple rfl) (am_nil))))) (am_nil)))))))) (sms_one (sm_ret (em_str))) (sms_nil)) (sms_cons (sm_if (tm_not (tm_val (em_callD 1 (ok_sizes_are_right e) hr hgd takes_body bp_sizes_are_right (am_cons (em_ix (em_var 0) (em_int)) (am_nil))))) (sms_one (sm_ret (em_str))) (sms_nil)) (sms_cons (sm_for [1] (passes_of rfl) rfl (im_seq (em_ix (em_var 0) (em_int))) (gm_name 1 nd) (sms_one (sm_if (tm_not (tm_val (em_callB (c_all rfl) e.b_all rfl (am_cons (em_lc false id (fe_id rfl) (own := [("far", 2)]) rfl nd (blkOk_by (by kernel_rfl)) (im_seq (em_var 1)) (fun _ _ _ _ _ => gm_name 2 nd) (fun _ _ _ _ _ => tms_nil) (fun _ _ _ _ _ => em_and (em_callD 1 (ok_is_count e) hr hgd takes_W0 bp_is_count (am_cons (em_var 2) (am_nil))) (em_one (em_cmp o_le (em_var 2) (em_cst e.k_MOST_FAR))))) (am_nil))))) (sms_one (sm_ret (em_str))) (sms_nil)))) (sms_one (sm_ret (em_non)))))))
theorem sc_table_is_right : FnScope ["value"] ["value"] (defScope st_table_is_right) := ⟨rfl, rfl, rfl, by decide +kernel, rfl, by decide +kernel, by decide +kernel⟩
theorem bp_table_is_right : BindP "table_is_right" st_table_is_right ["value"] := fun _ _ _ _ _ _ us hl => match us, hl with | [_], _ => rfl
theorem ok_table_is_right (e : Env K mg) : DefG P w K mg "table_is_right" "table_is_right" st_table_is_right ["value"] 4 m_table_is_right := by
  exact defG_of (k := 3) e.f_table_is_right sc_table_is_right (fun f base cdv A outer s H E hr hgd => by
      have nd := sc_table_is_right.nd
      exact sms_one (sm_ret (em_isN (em_callD 1 (ok_flaw_of e) hr hgd takes_body bp_flaw_of (am_cons (em_var 0) (am_nil))))))
theorem sc_check_table : FnScope ["table"] ["table"] (defScope st_check_table) := ⟨rfl, rfl, rfl, by decide +kernel, rfl, by decide +kernel, by decide +kernel⟩
theorem bp_check_table : BindP "check_table" st_check_table ["table"] := fun _ _ _ _ _ _ us hl => match us, hl with | [_], _ => rfl
theorem ok_check_table (e : Env K mg) : DefG P w K mg "check_table" "check_table" st_check_table ["table"] 5 m_check_table := by
  obtain ⟨C_InvalidTable, I_InvalidTable, lx_InvalidTable⟩ := e.x_InvalidTable
  have gx_InvalidTable := lx_InvalidTable.gC
  exact defG_of (k := 4) e.f_check_table sc_check_table (fun f base cdv A outer s H E hr hgd => by
      have nd := sc_check_table.nd
      exact sms_one (sm_if (tm_not (tm_val (em_callD 1 (ok_table_is_right e) hr hgd takes_body bp_table_is_right (am_cons (em_var 0) (am_nil))))) (sms_one (sm_raise rfl lx_InvalidTable hr takes_body (am_cons (em_var 0) (am_nil)))) (sms_nil)))
theorem sc_count_in : FnScope ["word", "sign"] ["word"] (defScope st_count_in) := ⟨rfl, rfl, rfl, by decide +kernel, rfl, by decide +kernel, by decide +kernel⟩
theorem bp_count_in : BindP "count_in" st_count_in ["word"] := fun _ _ _ _ _ _ us hl => match us, hl with | [_], _ => rfl
theorem ok_count_in (e : Env K mg) : DefG P w K mg "count_in" "count_in" st_count_in ["word"] 1 m_count_in := by
  exact defG_of (k := 0) e.f_count_in sc_count_in (fun f base cdv A outer s H E hr hgd => by
      have nd := sc_count_in.nd
      exact sms_cons (sm_if (tm_w (wm_or (tm_not (tm_chain (fun _ => o_le) (fun _ => o_le) (em_int) (em_callB c_len e.b_len rfl (am_cons (em_var 0) (am_nil))) (em_cst e.k_MOST_DIGITS))) (wm_or1 (tm_val (em_callB (c_any rfl) e.b_any rfl (am_cons (em_lc false id (fe_id rfl) (own := [("sign", 1)]) rfl nd (blkOk_by (by kernel_rfl)) (im_seq (em_var 0)) (fun _ _ _ _ _ => gm_name 1 nd) (fun _ _ _ _ _ => tms_nil) (fun _ _ _ _ _ => em_cmp (o_nin (room65 hr)) (em_var 1) (em_cst e.k_DIGITS))) (am_nil))))))) (sms_one (sm_ret (em_non))) (sms_nil)) (sms_one (sm_ret (em_if (tm_w (wm_and (tm_cmp (o_eq (room64 hr)) (em_ix (em_var 0) (em_int)) (em_str)) (wm_and1 (tm_cmp (o_ne (room64 hr)) (em_var 0) (em_str))))) (em_non) (em_callTy c_int e.b_int rfl (am_cons (em_var 0) (am_nil)))))))
theorem sc_row_in : FnScope ["word", "found", "part"] ["word"] (defScope st_row_in) := ⟨rfl, rfl, rfl, by decide +kernel, rfl, by decide +kernel, by decide +kernel⟩
theorem bp_row_in : BindP "row_in" st_row_in ["word"] := fun _ _ _ _ _ _ us hl => match us, hl with | [_], _ => rfl
theorem ok_row_in (e : Env K mg) : DefG P w K mg "row_in" "row_in" st_row_in ["word"] 2 m_row_in := by
  exact defG_of (k := 1) e.f_row_in sc_row_in (fun f base cdv A outer s H E hr hgd => by
      have nd := sc_row_in.nd
      exact sms_cons (sm_setLc false id (fe_id rfl) 1 (own := [("part", 2)]) rfl nd (blkOk_by (by kernel_rfl)) (im_seq (em_bm isStr_ty PySem.F.plainAttrs_str PySem.F.slot_str_split PySem.F.type_str_split (m_split false) (em_var 0) (am_cons (em_str) (am_nil)))) (fun _ _ _ _ _ => gm_name 2 nd) (fun _ _ _ _ _ => tms_nil) (fun _ _ _ _ _ => em_callD 1 (ok_count_in e) hr hgd takes_W0 bp_count_in (am_cons (em_var 2) (am_nil))) (sw_true rfl rfl rfl (by decide +kernel))) (sms_one (sm_ret (em_if (tm_cmp (o_in (room65 hr)) (em_non) (em_var 1)) (em_non) (em_callTy c_tuple e.b_tuple rfl (am_cons (em_var 1) (am_nil)))))))
theorem sc_row_word : FnScope ["numbers", "one"] ["numbers"] (defScope st_row_word) := ⟨rfl, rfl, rfl, by decide +kernel, rfl, by decide +kernel, by decide +kernel⟩
theorem bp_row_word : BindP "row_word" st_row_word ["numbers"] := fun _ _ _ _ _ _ us hl => match us, hl with | [_], _ => rfl
theorem ok_row_word (e : Env K mg) : DefG P w K mg "row_word" "row_word" st_row_word ["numbers"] 1 m_row_word := by
  exact defG_of (k := 0) e.f_row_word sc_row_word (fun f base cdv A outer s H E hr hgd => by
      have nd := sc_row_word.nd
      exact sms_one (sm_ret (em_bm isStr_ty PySem.F.plainAttrs_str PySem.F.slot_str_join PySem.F.type_str_join m_join (em_str) (am_cons (em_lc false id (fe_id rfl) (own := [("one", 1)]) rfl nd (blkOk_by (by kernel_rfl)) (im_seq (em_var 0)) (fun _ _ _ _ _ => gm_name 1 nd) (fun _ _ _ _ _ => tms_nil) (fun _ _ _ _ _ => em_callTy c_str e.b_str rfl (am_cons (em_var 1) (am_nil)))) (am_nil)))))
theorem sc_line_row : FnScope ["line", "size", "found"] ["line", "size"] (defScope st_line_row) := ⟨rfl, rfl, rfl, by decide +kernel, rfl, by decide +kernel, by decide +kernel⟩
theorem bp_line_row : BindP "line_row" st_line_row ["line", "size"] := fun _ _ _ _ _ _ us hl => match us, hl with | [_, _], _ => rfl
theorem ok_line_row (e : Env K mg) : DefG P w K mg "line_row" "line_row" st_line_row ["line", "size"] 3 m_line_row := by
  exact defG_of (k := 2) e.f_line_row sc_line_row (fun f base cdv A outer s H E hr hgd => by
      have nd := sc_line_row.nd
      exact sms_cons (sm_if (tm_w (wm_or (tm_cmp (o_ne (room64 hr)) (em_slice false (em_var 0) (om_none) (om_some (em_int))) (em_str)) (wm_or1 (tm_cmp o_gt (em_var 1) (em_cst e.k_MOST_ROWS))))) (sms_one (sm_ret (em_non))) (sms_nil)) (sms_cons (sm_set 2 nd (em_callD 1 (ok_row_in e) hr hgd takes_body bp_row_in (am_cons (em_slice false (em_var 0) (om_some (em_int)) (om_none)) (am_nil)))) (sms_one (sm_ret (em_if (tm_w (wm_and (tm_notN (em_var 2)) (wm_and1 (tm_cmp (o_eq (room64 hr)) (em_callB c_len e.b_len rfl (am_cons (em_var 2) (am_nil))) (em_var 1))))) (em_var 2) (em_non))))))
theorem sc_read : FnScope ["text", "lines", "rows", "at", "found", "told"] ["text"] (defScope st_read) := ⟨rfl, rfl, rfl, by decide +kernel, rfl, by decide +kernel, by decide +kernel⟩
theorem bp_read : BindP "read" st_read ["text"] := fun _ _ _ _ _ _ us hl => match us, hl with | [_], _ => rfl
theorem ok_read (e : Env K mg) : DefG P w K mg "read" "read" st_read ["text"] 5 m_read := by
  exact defG_of (k := 4) e.f_read sc_read (fun f base cdv A outer s H E hr hgd => by
      have nd := sc_read.nd
      exact sms_cons (sm_set 1 nd (em_bm isStr_ty PySem.F.plainAttrs_str PySem.F.slot_str_split PySem.F.type_str_split (m_split false) (em_var 0) (am_cons (em_str) (am_nil)))) (sms_cons (sm_if (tm_w (wm_or (tm_cmp o_lt (em_callB c_len e.b_len rfl (am_cons (em_var 1) (am_nil))) (em_int)) (wm_or1 (tm_cmp (o_ne (room64 hr)) (em_ix (em_var 1) (em_int)) (em_str))))) (sms_one (sm_ret (em_tup (am_cons (em_non) (am_cons (em_int) (am_nil)))))) (sms_nil)) (sms_cons (sm_set 2 nd (em_lst true (am_nil))) (sms_cons (sm_for [3] (passes_of rfl) rfl (im_range2 e.b_range (am_cons (em_int) (am_cons (em_op o_sub (em_callB c_len e.b_len rfl (am_cons (em_var 1) (am_nil))) (em_int)) (am_nil)))) (gm_name 3 nd) (sms_cons (sm_set 4 nd (em_callD 2 (ok_line_row e) hr hgd takes_body bp_line_row (am_cons (em_ix (em_var 1) (em_var 3)) (am_cons (em_var 3) (am_nil))))) (sms_cons (sm_if (tm_isN (em_var 4)) (sms_one (sm_ret (em_tup (am_cons (em_non) (am_cons (em_var 3) (am_nil)))))) (sms_nil)) (sms_one (sm_expr (em_bm isSeq_ty PySem.F.plainAttrs_list PySem.F.slot_list_append PySem.F.type_list_append m_append (em_var 2) (am_cons (em_var 4) (am_nil)))))))) (sms_cons (sm_set 5 nd (em_tup (am_cons (em_str) (am_cons (em_callTy c_tuple e.b_tuple rfl (am_cons (em_var 2) (am_nil))) (am_nil))))) (sms_one (sm_ret (em_tup (am_cons (em_if (tm_w (wm_and (tm_cmp (o_eq (room64 hr)) (em_ix (em_var 1) (em_un u_neg (em_int))) (em_str)) (wm_and1 (tm_val (em_callD 1 (ok_table_is_right e) hr hgd takes_body bp_table_is_right (am_cons (em_var 5) (am_nil))))))) (em_var 5) (em_non)) (am_cons (em_op o_sub (em_callB c_len e.b_len rfl (am_cons (em_var 1) (am_nil))) (em_int)) (am_nil)))))))))))
theorem sc_check_text : FnScope ["text"] ["text"] (defScope st_check_text) := ⟨rfl, rfl, rfl, by decide +kernel, rfl, by decide +kernel, by decide +kernel⟩
theorem bp_check_text : BindP "check_text" st_check_text ["text"] := fun _ _ _ _ _ _ us hl => match us, hl with | [_], _ => rfl
theorem ok_check_text (e : Env K mg) : DefG P w K mg "check_text" "check_text" st_check_text ["text"] 2 m_check_text := by
  obtain ⟨C_InvalidText, I_InvalidText, lx_InvalidText⟩ := e.x_InvalidText
  have gx_InvalidText := lx_InvalidText.gC
  exact defG_of (k := 1) e.f_check_text sc_check_text (fun f base cdv A outer s H E hr hgd => by
      have nd := sc_check_text.nd
      exact sms_one (sm_if (tm_not (tm_val (em_callB c_isi e.b_isinstance rfl (am_cons (em_var 0) (am_cons (em_ty e.b_str rfl) (am_nil)))))) (sms_one (sm_raise rfl lx_InvalidText hr takes_body (am_cons (em_var 0) (am_nil)))) (sms_nil)))
theorem sc_table_text : FnScope ["table", "line", "row"] ["table"] (defScope st_table_text) := ⟨rfl, rfl, rfl, by decide +kernel, rfl, by decide +kernel, by decide +kernel⟩
theorem bp_table_text : BindP "table_text" st_table_text ["table"] := fun _ _ _ _ _ _ us hl => match us, hl with | [_], _ => rfl
theorem ok_table_text (e : Env K mg) : DefG P w K mg "table_text" "table_text" st_table_text ["table"] 6 m_table_text := by
  exact defG_of (k := 5) e.f_table_text sc_table_text (fun f base cdv A outer s H E hr hgd => by
      have nd := sc_table_text.nd
      exact sms_cons (sm_expr (em_callD 1 (ok_check_table e) hr hgd takes_body bp_check_table (am_cons (em_var 0) (am_nil)))) (sms_one (sm_ret (em_bm isStr_ty PySem.F.plainAttrs_str PySem.F.slot_str_join PySem.F.type_str_join m_join (em_str) (am_cons (em_lc false id (fe_id rfl) (own := [("line", 1)]) rfl nd (blkOk_by (by kernel_rfl)) (im_seq (em_op (o_add false) (em_lst false (am_cons (em_str) (am_nil))) (em_lc false id (fe_id rfl) (own := [("row", 2)]) rfl nd (blkOk_by (by kernel_rfl)) (im_seq (em_ix (em_var 0) (em_int))) (fun _ _ _ _ _ => gm_name 2 nd) (fun _ _ _ _ _ => tms_nil) (fun _ _ _ _ _ => em_op (o_add false) (em_str) (em_callD 1 (ok_row_word e) hr hgd takes_W0 bp_row_word (am_cons (em_var 2) (am_nil))))))) (fun _ _ _ _ _ => gm_name 1 nd) (fun _ _ _ _ _ => tms_nil) (fun _ _ _ _ _ => em_op (o_add false) (em_var 1) (em_str))) (am_nil))))))
theorem sc_bad_line : FnScope ["text", "table", "good"] ["text"] (defScope st_bad_line) := ⟨rfl, rfl, rfl, by decide +kernel, rfl, by decide +kernel, by decide +kernel⟩
theorem bp_bad_line : BindP "bad_line" st_bad_line ["text"] := fun _ _ _ _ _ _ us hl => match us, hl with | [_], _ => rfl
theorem ok_bad_line (e : Env K mg) : DefG P w K mg "bad_line" "bad_line" st_bad_line ["text"] 6 m_bad_line := by
  exact defG_of (k := 5) e.f_bad_line sc_bad_line (fun f base cdv A outer s H E hr hgd => by
      have nd := sc_bad_line.nd
      exact sms_cons (sm_expr (em_callD 1 (ok_check_text e) hr hgd takes_body bp_check_text (am_cons (em_var 0) (am_nil)))) (sms_cons (sm_asg [1, 2] (gm_tup rfl (gms_cons (gm_name 1 nd) (gms_cons (gm_name 2 nd) (gms_nil)))) (em_callD 1 (ok_read e) hr hgd takes_body bp_read (am_cons (em_var 0) (am_nil)))) (sms_one (sm_ret (em_if (tm_notN (em_var 1)) (em_non) (em_op (o_add false) (em_var 2) (em_int)))))))
theorem sc_table_of : FnScope ["text", "table", "good"] ["text"] (defScope st_table_of) := ⟨rfl, rfl, rfl, by decide +kernel, rfl, by decide +kernel, by decide +kernel⟩
theorem bp_table_of : BindP "table_of" st_table_of ["text"] := fun _ _ _ _ _ _ us hl => match us, hl with | [_], _ => rfl
theorem ok_table_of (e : Env K mg) : DefG P w K mg "table_of" "table_of" st_table_of ["text"] 6 m_table_of := by
  obtain ⟨C_BadText, I_BadText, lx_BadText⟩ := e.x_BadText
  have gx_BadText := lx_BadText.gC
  exact defG_of (k := 5) e.f_table_of sc_table_of (fun f base cdv A outer s H E hr hgd => by
      have nd := sc_table_of.nd
      exact sms_cons (sm_expr (em_callD 1 (ok_check_text e) hr hgd takes_body bp_check_text (am_cons (em_var 0) (am_nil)))) (sms_cons (sm_asg [1, 2] (gm_tup rfl (gms_cons (gm_name 1 nd) (gms_cons (gm_name 2 nd) (gms_nil)))) (em_callD 1 (ok_read e) hr hgd takes_body bp_read (am_cons (em_var 0) (am_nil)))) (sms_cons (sm_if (tm_isN (em_var 1)) (sms_one (sm_raise rfl lx_BadText hr takes_body (am_cons (em_op (o_add false) (em_var 2) (em_int)) (am_nil)))) (sms_nil)) (sms_one (sm_ret (em_var 1))))))
theorem sc__law_pot : FnScope ["script", "k", "spare", "cell"] ["script", "k"] (defScope st__law_pot) := ⟨rfl, rfl, rfl, by decide +kernel, rfl, by decide +kernel, by decide +kernel⟩
theorem bp__law_pot : BindP "_law_pot" st__law_pot ["script", "k"] := fun _ _ _ _ _ _ us hl => match us, hl with | [_, _], _ => rfl
theorem ok__law_pot (e : Env K mg) : DefG P w K mg "_law_pot" "_law_pot" st__law_pot ["script", "k"] 1 m__law_pot := by
  exact defG_of (k := 0) e.f__law_pot sc__law_pot (fun f base cdv A outer s H E hr hgd => by
      have nd := sc__law_pot.nd
      exact sms_cons (sm_set 2 nd (em_op (o_add false) (em_op (o_add false) (em_op (o_mul false) (em_int) (em_var 1)) (em_int)) (em_op o_mod (em_callTy c_int e.b_int rfl (am_cons (em_callB c_abs e.b_abs rfl (am_cons (em_callB (c_sum rfl) e.b_sum rfl (am_cons (em_slice false (em_var 0) (om_none) (om_some (em_int))) (am_nil))) (am_nil))) (am_nil))) (em_int)))) (sms_cons (sm_set 3 nd (em_if (tm_cmp o_lt (em_var 1) (em_callB c_len e.b_len rfl (am_cons (em_var 0) (am_nil)))) (em_callB c_abs e.b_abs rfl (am_cons (em_ix (em_var 0) (em_var 1)) (am_nil))) (em_var 2))) (sms_one (sm_ret (em_lst true (am_cons (em_callB (c_max2 rfl) e.b_max rfl (am_cons (em_int) (am_cons (em_op o_sub (em_var 3) (em_op o_pow (em_int) (em_int))) (am_nil)))) (am_cons (em_op (o_add false) (em_op o_mod (em_callTy c_int e.b_int rfl (am_cons (em_op (o_add false) (em_op (o_add false) (em_op (o_mul false) (em_op o_mod (em_callTy c_int e.b_int rfl (am_cons (em_var 3) (am_nil))) (em_int)) (em_int)) (em_op (o_mul false) (em_int) (em_var 1))) (em_int)) (am_nil))) (em_int)) (em_int)) (am_nil))))))))
theorem sc__law_draw : FnScope ["pot", "many", "digit"] ["pot", "many"] (defScope st__law_draw) := ⟨rfl, rfl, rfl, by decide +kernel, rfl, by decide +kernel, by decide +kernel⟩
theorem bp__law_draw : BindP "_law_draw" st__law_draw ["pot", "many"] := fun _ _ _ _ _ _ us hl => match us, hl with | [_, _], _ => rfl
theorem ok__law_draw (e : Env K mg) : DefG P w K mg "_law_draw" "_law_draw" st__law_draw ["pot", "many"] 1 m__law_draw := by
  exact defG_of (k := 0) e.f__law_draw sc__law_draw (fun f base cdv A outer s H E hr hgd => by
      have nd := sc__law_draw.nd
      exact sms_cons (sm_if (tm_cmp o_gt (em_ix (em_var 0) (em_int)) (em_int)) (sms_cons (sm_set 2 nd (em_op o_mod (em_callTy c_int e.b_int rfl (am_cons (em_ix (em_var 0) (em_int)) (am_nil))) (em_var 1))) (sms_cons (sm_asg [] (gm_sub (em_var 0) (em_int)) (em_op o_fdiv (em_callTy c_int e.b_int rfl (am_cons (em_ix (em_var 0) (em_int)) (am_nil))) (em_var 1))) (sms_one (sm_ret (em_var 2))))) (sms_nil)) (sms_cons (sm_asg [] (gm_sub (em_var 0) (em_int)) (em_op o_mod (em_callTy c_int e.b_int rfl (am_cons (em_op (o_add false) (em_op (o_mul false) (em_ix (em_var 0) (em_int)) (em_int)) (em_int)) (am_nil))) (em_int))) (sms_one (sm_ret (em_op o_mod (em_callTy c_int e.b_int rfl (am_cons (em_op o_fdiv (em_op o_mod (em_callTy c_int e.b_int rfl (am_cons (em_op (o_mul false) (em_ix (em_var 0) (em_int)) (em_ix (em_var 0) (em_int))) (am_nil))) (em_int)) (em_int)) (am_nil))) (em_var 1))))))
theorem sc__law_pick : FnScope ["pot", "some"] ["pot", "some"] (defScope st__law_pick) := ⟨rfl, rfl, rfl, by decide +kernel, rfl, by decide +kernel, by decide +kernel⟩
theorem bp__law_pick : BindP "_law_pick" st__law_pick ["pot", "some"] := fun _ _ _ _ _ _ us hl => match us, hl with | [_, _], _ => rfl
theorem ok__law_pick (e : Env K mg) : DefG P w K mg "_law_pick" "_law_pick" st__law_pick ["pot", "some"] 2 m__law_pick := by
  exact defG_of (k := 1) e.f__law_pick sc__law_pick (fun f base cdv A outer s H E hr hgd => by
      have nd := sc__law_pick.nd
      exact sms_one (sm_ret (em_ix (em_var 1) (em_callD 2 (ok__law_draw e) hr hgd takes_body bp__law_draw (am_cons (em_var 0) (am_cons (em_callB c_len e.b_len rfl (am_cons (em_var 1) (am_nil))) (am_nil)))))))
theorem sc__law_same : FnScope ["told", "due", "near", "far"] ["told", "due"] (defScope st__law_same) := ⟨rfl, rfl, rfl, by decide +kernel, rfl, by decide +kernel, by decide +kernel⟩
theorem bp__law_same : BindP "_law_same" st__law_same ["told", "due"] := fun _ _ _ _ _ _ us hl => match us, hl with | [_, _], _ => rfl
theorem ok__law_same_at (e : Env K mg) : ∀ n : Nat, DefG P w K mg "_law_same" "_law_same" st__law_same ["told", "due"] (n + 0) (r__law_same n)
  | 0 => DefG.no e.f__law_same
  | n + 1 => by
    have ih := ok__law_same_at e n
    have q : DefG P w K mg "_law_same" "_law_same" st__law_same ["told", "due"] ((n + 0) + 1) (mDef (["told", "due", "near", "far"] : List Str).length (b__law_same (r__law_same n))) := defG_of e.f__law_same sc__law_same (fun f base cdv A outer s H E hr hgd => by
      have nd := sc__law_same.nd
      exact sms_cons (sm_if (tm_isN (em_var 1)) (sms_one (sm_ret (em_isN (em_var 0)))) (sms_nil)) (sms_cons (sm_if (tm_val (em_callB c_isi e.b_isinstance rfl (am_cons (em_var 1) (am_cons (em_ty e.b_bool rfl) (am_nil))))) (sms_one (sm_ret (em_and (em_callB c_isi e.b_isinstance rfl (am_cons (em_var 0) (am_cons (em_ty e.b_bool rfl) (am_nil)))) (em_one (em_cmp (o_eq (room64 hr)) (em_var 0) (em_var 1)))))) (sms_nil)) (sms_cons (sm_if (tm_val (em_callB c_isi e.b_isinstance rfl (am_cons (em_var 1) (am_cons (em_ty e.b_str rfl) (am_nil))))) (sms_one (sm_ret (em_and (em_callB c_isi e.b_isinstance rfl (am_cons (em_var 0) (am_cons (em_ty e.b_str rfl) (am_nil)))) (em_one (em_cmp (o_eq (room64 hr)) (em_var 0) (em_var 1)))))) (sms_nil)) (sms_cons (sm_if (tm_val (em_callB c_isi e.b_isinstance rfl (am_cons (em_var 1) (am_cons (em_ty e.b_int rfl) (am_nil))))) (sms_one (sm_ret (em_and (em_callB c_isi e.b_isinstance rfl (am_cons (em_var 0) (am_cons (em_ty e.b_int rfl) (am_nil)))) (em_and (em_not (em_callB c_isi e.b_isinstance rfl (am_cons (em_var 0) (am_cons (em_ty e.b_bool rfl) (am_nil))))) (em_one (em_cmp (o_eq (room64 hr)) (em_var 0) (em_var 1))))))) (sms_nil)) (sms_cons (sm_if (tm_val (em_callB c_isi e.b_isinstance rfl (am_cons (em_var 1) (am_cons (em_ty e.b_tuple rfl) (am_nil))))) (sms_cons (sm_if (tm_w (wm_or (tm_not (tm_val (em_callB c_isi e.b_isinstance rfl (am_cons (em_var 0) (am_cons (em_ty e.b_tuple rfl) (am_nil)))))) (wm_or1 (tm_cmp (o_ne (room64 hr)) (em_callB c_len e.b_len rfl (am_cons (em_var 0) (am_nil))) (em_callB c_len e.b_len rfl (am_cons (em_var 1) (am_nil))))))) (sms_one (sm_ret (em_bl))) (sms_nil)) (sms_one (sm_ret (em_callB (c_all rfl) e.b_all rfl (am_cons (em_lc false id (fe_id rfl) (own := [("near", 2), ("far", 3)]) rfl nd (blkOk_by (by kernel_rfl)) (im_zip e.b_zip (am_cons (em_var 0) (am_cons (em_var 1) (am_nil)))) (fun _ _ _ _ _ => gm_tup rfl (gms_cons (gm_name 2 nd) (gms_cons (gm_name 3 nd) (gms_nil)))) (fun _ _ _ _ _ => tms_nil) (fun _ _ _ _ _ => em_callD 2 ih hr hgd takes_W0 bp__law_same (am_cons (em_var 2) (am_cons (em_var 3) (am_nil))) (hjk := by omega))) (am_nil)))))) (sms_nil)) (sms_cons (sm_if (tm_val (em_callB c_isi e.b_isinstance rfl (am_cons (em_var 1) (am_cons (em_ty e.b_list rfl) (am_nil))))) (sms_cons (sm_if (tm_w (wm_or (tm_not (tm_val (em_callB c_isi e.b_isinstance rfl (am_cons (em_var 0) (am_cons (em_ty e.b_list rfl) (am_nil)))))) (wm_or1 (tm_cmp (o_ne (room64 hr)) (em_callB c_len e.b_len rfl (am_cons (em_var 0) (am_nil))) (em_callB c_len e.b_len rfl (am_cons (em_var 1) (am_nil))))))) (sms_one (sm_ret (em_bl))) (sms_nil)) (sms_one (sm_ret (em_callB (c_all rfl) e.b_all rfl (am_cons (em_lc false id (fe_id rfl) (own := [("near", 2), ("far", 3)]) rfl nd (blkOk_by (by kernel_rfl)) (im_zip e.b_zip (am_cons (em_var 0) (am_cons (em_var 1) (am_nil)))) (fun _ _ _ _ _ => gm_tup rfl (gms_cons (gm_name 2 nd) (gms_cons (gm_name 3 nd) (gms_nil)))) (fun _ _ _ _ _ => tms_nil) (fun _ _ _ _ _ => em_callD 2 ih hr hgd takes_W0 bp__law_same (am_cons (em_var 2) (am_cons (em_var 3) (am_nil))) (hjk := by omega))) (am_nil)))))) (sms_nil)) (sms_one (sm_ret (em_cmp (o_eq (room64 hr)) (em_var 0) (em_var 1))))))))))
    exact q.mono (by omega)
theorem ok__law_same (e : Env K mg) : DefG P w K mg "_law_same" "_law_same" st__law_same ["told", "due"] 8 m__law_same := ok__law_same_at e 8
theorem sc__law_text : FnScope ["table", "row", "far"] ["table"] (defScope st__law_text) := ⟨rfl, rfl, rfl, by decide +kernel, rfl, by decide +kernel, by decide +kernel⟩
theorem bp__law_text : BindP "_law_text" st__law_text ["table"] := fun _ _ _ _ _ _ us hl => match us, hl with | [_], _ => rfl
theorem ok__law_text (e : Env K mg) : DefG P w K mg "_law_text" "_law_text" st__law_text ["table"] 1 m__law_text := by
  exact defG_of (k := 0) e.f__law_text sc__law_text (fun f base cdv A outer s H E hr hgd => by
      have nd := sc__law_text.nd
      exact sms_one (sm_ret (em_bm isStr_ty PySem.F.plainAttrs_str PySem.F.slot_str_join PySem.F.type_str_join m_join (em_str) (am_cons (em_op (o_add false) (em_lst false (am_cons (em_str) (am_nil))) (em_lc false id (fe_id rfl) (own := [("row", 1)]) rfl nd (blkOk_by (by kernel_rfl)) (im_seq (em_ix (em_var 0) (em_int))) (fun _ _ _ _ _ => gm_name 1 nd) (fun _ _ _ _ _ => tms_nil) (fun _ _ _ _ _ => em_op (o_add false) (em_op (o_add false) (em_str) (em_bm isStr_ty PySem.F.plainAttrs_str PySem.F.slot_str_join PySem.F.type_str_join m_join (em_str) (am_cons (em_lc false id (fe_id rfl) (own := [("far", 2)]) rfl nd (blkOk_by (by kernel_rfl)) (im_seq (em_var 1)) (fun _ _ _ _ _ => gm_name 2 nd) (fun _ _ _ _ _ => tms_nil) (fun _ _ _ _ _ => em_callTy c_str e.b_str rfl (am_cons (em_var 2) (am_nil)))) (am_nil)))) (em_str)))) (am_nil)))))
theorem sc__law_table : FnScope ["pot", "wide", "rows", "town", "near"] ["pot"] (defScope st__law_table) := ⟨rfl, rfl, rfl, by decide +kernel, rfl, by decide +kernel, by decide +kernel⟩
theorem bp__law_table : BindP "_law_table" st__law_table ["pot"] := fun _ _ _ _ _ _ us hl => match us, hl with | [_], _ => rfl
theorem ok__law_table (e : Env K mg) : DefG P w K mg "_law_table" "_law_table" st__law_table ["pot"] 3 m__law_table := by
  exact defG_of (k := 2) e.f__law_table sc__law_table (fun f base cdv A outer s H E hr hgd => by
      have nd := sc__law_table.nd
      exact sms_cons (sm_set 1 nd (em_callD 2 (ok__law_pick e) hr hgd takes_body bp__law_pick (am_cons (em_var 0) (am_cons (em_tup (am_cons (em_int) (am_cons (em_int) (am_cons (em_int) (am_nil))))) (am_nil))))) (sms_cons (sm_set 2 nd (em_lst true (am_nil))) (sms_cons (sm_for [3] (passes_of rfl) rfl (im_range1 e.b_range (am_cons (em_op (o_add false) (em_int) (em_callD 2 (ok__law_draw e) hr hgd takes_body bp__law_draw (am_cons (em_var 0) (am_cons (em_int) (am_nil))))) (am_nil))) (gm_name 3 nd) (sms_one (sm_expr (em_bm isSeq_ty PySem.F.plainAttrs_list PySem.F.slot_list_append PySem.F.type_list_append m_append (em_var 2) (am_cons (em_callTy c_tuple e.b_tuple rfl (am_cons (em_lc false id (fe_id rfl) (own := [("near", 4)]) rfl nd (blkOk_by (by kernel_rfl)) (im_range1 e.b_range (am_cons (em_op (o_add false) (em_var 3) (em_int)) (am_nil))) (fun _ _ _ _ _ => gm_name 4 nd) (fun _ _ _ _ _ => tms_nil) (fun _ _ _ _ _ => em_callD 2 (ok__law_draw e) hr hgd takes_W0 bp__law_draw (am_cons (em_var 0) (am_cons (em_var 1) (am_nil))))) (am_nil))) (am_nil)))))) (sms_one (sm_ret (em_tup (am_cons (em_str) (am_cons (em_callTy c_tuple e.b_tuple rfl (am_cons (em_var 2) (am_nil))) (am_nil)))))))))
theorem sc__law_is_numeral : FnScope ["word", "sign"] ["word"] (defScope st__law_is_numeral) := ⟨rfl, rfl, rfl, by decide +kernel, rfl, by decide +kernel, by decide +kernel⟩
theorem bp__law_is_numeral : BindP "_law_is_numeral" st__law_is_numeral ["word"] := fun _ _ _ _ _ _ us hl => match us, hl with | [_], _ => rfl
theorem ok__law_is_numeral (e : Env K mg) : DefG P w K mg "_law_is_numeral" "_law_is_numeral" st__law_is_numeral ["word"] 1 m__law_is_numeral := by
  exact defG_of (k := 0) e.f__law_is_numeral sc__law_is_numeral (fun f base cdv A outer s H E hr hgd => by
      have nd := sc__law_is_numeral.nd
      exact sms_one (sm_ret (em_and (em_cmp (o_ne (room64 hr)) (em_var 0) (em_str)) (em_and (em_callB (c_all rfl) e.b_all rfl (am_cons (em_lc false id (fe_id rfl) (own := [("sign", 1)]) rfl nd (blkOk_by (by kernel_rfl)) (im_seq (em_var 0)) (fun _ _ _ _ _ => gm_name 1 nd) (fun _ _ _ _ _ => tms_nil) (fun _ _ _ _ _ => em_cmp (o_in (room65 hr)) (em_var 1) (em_str))) (am_nil))) (em_and (em_cmp o_lt (em_callB c_len e.b_len rfl (am_cons (em_var 0) (am_nil))) (em_int)) (em_one (em_or (em_cmp (o_eq (room64 hr)) (em_var 0) (em_str)) (em_one (em_cmp (o_ne (room64 hr)) (em_ix (em_var 0) (em_int)) (em_str))))))))))
theorem sc__law_bad : FnScope ["text", "lines", "rest", "at", "line", "words", "word"] ["text"] (defScope st__law_bad) := ⟨rfl, rfl, rfl, by decide +kernel, rfl, by decide +kernel, by decide +kernel⟩
theorem bp__law_bad : BindP "_law_bad" st__law_bad ["text"] := fun _ _ _ _ _ _ us hl => match us, hl with | [_], _ => rfl
theorem ok__law_bad (e : Env K mg) : DefG P w K mg "_law_bad" "_law_bad" st__law_bad ["text"] 2 m__law_bad := by
  exact defG_of (k := 1) e.f__law_bad sc__law_bad (fun f base cdv A outer s H E hr hgd => by
      have nd := sc__law_bad.nd
      exact sms_cons (sm_set 1 nd (em_bm isStr_ty PySem.F.plainAttrs_str PySem.F.slot_str_split PySem.F.type_str_split (m_split true) (em_var 0) (am_cons (em_str) (am_nil)))) (sms_cons (sm_set 2 nd (em_bm0 isSeq_ty PySem.F.plainAttrs_list PySem.F.slot_list_pop PySem.F.type_list_pop m_pop (em_var 1))) (sms_cons (sm_for [3, 4] (passes_of rfl) rfl (im_enum e.b_enumerate (am_cons (em_var 1) (am_nil))) (gm_tup rfl (gms_cons (gm_name 3 nd) (gms_cons (gm_name 4 nd) (gms_nil)))) (sms_cons (sm_if (tm_w (wm_or (tm_w (wm_and (tm_cmp (o_eq (room64 hr)) (em_var 3) (em_int)) (wm_and1 (tm_cmp (o_ne (room64 hr)) (em_var 4) (em_str))))) (wm_or1 (tm_cmp o_gt (em_var 3) (em_int))))) (sms_one (sm_ret (em_op (o_add false) (em_var 3) (em_int)))) (sms_nil)) (sms_one (sm_if (tm_cmp o_gt (em_var 3) (em_int)) (sms_cons (sm_set 5 nd (em_bm isStr_ty PySem.F.plainAttrs_str PySem.F.slot_str_split PySem.F.type_str_split (m_split false) (em_slice false (em_var 4) (om_some (em_int)) (om_none)) (am_cons (em_str) (am_nil)))) (sms_one (sm_if (tm_w (wm_or (tm_cmp (o_ne (room64 hr)) (em_slice false (em_var 4) (om_none) (om_some (em_int))) (em_str)) (wm_or (tm_cmp (o_ne (room64 hr)) (em_callB c_len e.b_len rfl (am_cons (em_var 5) (am_nil))) (em_var 3)) (wm_or1 (tm_not (tm_val (em_callB (c_all rfl) e.b_all rfl (am_cons (em_lc false id (fe_id rfl) (own := [("word", 6)]) rfl nd (blkOk_by (by kernel_rfl)) (im_seq (em_var 5)) (fun _ _ _ _ _ => gm_name 6 nd) (fun _ _ _ _ _ => tms_nil) (fun _ _ _ _ _ => em_callD 1 (ok__law_is_numeral e) hr hgd takes_W0 bp__law_is_numeral (am_cons (em_var 6) (am_nil)))) (am_nil))))))))) (sms_one (sm_ret (em_op (o_add false) (em_var 3) (em_int)))) (sms_nil)))) (sms_nil))))) (sms_one (sm_ret (em_if (tm_w (wm_and (tm_cmp (o_eq (room64 hr)) (em_var 2) (em_str)) (wm_and1 (tm_cmp o_gt (em_callB c_len e.b_len rfl (am_cons (em_var 1) (am_nil))) (em_int))))) (em_non) (em_op (o_add false) (em_callB c_len e.b_len rfl (am_cons (em_var 1) (am_nil))) (em_int))))))))
theorem sc__law_bent : FnScope ["pot", "text", "lines", "at", "spot", "sign", "some"] ["pot", "text"] (defScope st__law_bent) := ⟨rfl, rfl, rfl, by decide +kernel, rfl, by decide +kernel, by decide +kernel⟩
theorem bp__law_bent : BindP "_law_bent" st__law_bent ["pot", "text"] := fun _ _ _ _ _ _ us hl => match us, hl with | [_, _], _ => rfl
theorem ok__law_bent (e : Env K mg) : DefG P w K mg "_law_bent" "_law_bent" st__law_bent ["pot", "text"] 3 m__law_bent := by
  exact defG_of (k := 2) e.f__law_bent sc__law_bent (fun f base cdv A outer s H E hr hgd => by
      have nd := sc__law_bent.nd
      exact sms_cons (sm_set 2 nd (em_bm isStr_ty PySem.F.plainAttrs_str PySem.F.slot_str_split PySem.F.type_str_split (m_split false) (em_var 1) (am_cons (em_str) (am_nil)))) (sms_cons (sm_par 3 4 rfl nd (am_cons (em_callD 2 (ok__law_draw e) hr hgd takes_body bp__law_draw (am_cons (em_var 0) (am_cons (em_callB c_len e.b_len rfl (am_cons (em_var 2) (am_nil))) (am_nil)))) (am_cons (em_callD 2 (ok__law_draw e) hr hgd takes_body bp__law_draw (am_cons (em_var 0) (am_cons (em_callB c_len e.b_len rfl (am_cons (em_var 1) (am_nil))) (am_nil)))) (am_nil)))) (sms_cons (sm_set 5 nd (em_callD 2 (ok__law_pick e) hr hgd takes_body bp__law_pick (am_cons (em_var 0) (am_cons (em_tup (am_cons (em_str) (am_cons (em_str) (am_cons (em_str) (am_cons (em_str) (am_cons (em_str) (am_cons (em_str) (am_cons (em_str) (am_cons (em_str) (am_cons (em_str) (am_nil))))))))))) (am_nil))))) (sms_cons (sm_set 6 nd (em_lst true (am_cons (em_op (o_add false) (em_slice false (em_var 1) (om_none) (om_some (em_var 4))) (em_slice false (em_var 1) (om_some (em_op (o_add false) (em_var 4) (em_int))) (om_none))) (am_cons (em_op (o_add false) (em_op (o_add false) (em_slice false (em_var 1) (om_none) (om_some (em_var 4))) (em_var 5)) (em_slice false (em_var 1) (om_some (em_var 4)) (om_none))) (am_cons (em_op (o_add false) (em_op (o_add false) (em_slice false (em_var 1) (om_none) (om_some (em_var 4))) (em_var 5)) (em_slice false (em_var 1) (om_some (em_op (o_add false) (em_var 4) (em_int))) (om_none))) (am_cons (em_slice false (em_var 1) (om_none) (om_some (em_var 4))) (am_cons (em_op (o_add false) (em_var 1) (em_str)) (am_nil)))))))) (sms_cons (sm_expr (em_bm isSeq_ty PySem.F.plainAttrs_list PySem.F.slot_list_extend PySem.F.type_list_extend m_extend (em_var 6) (am_cons (em_lst false (am_cons (em_bm isStr_ty PySem.F.plainAttrs_str PySem.F.slot_str_join PySem.F.type_str_join m_join (em_str) (am_cons (em_op (o_add false) (em_slice false (em_var 2) (om_none) (om_some (em_var 3))) (em_slice false (em_var 2) (om_some (em_op (o_add false) (em_var 3) (em_int))) (om_none))) (am_nil))) (am_cons (em_bm isStr_ty PySem.F.plainAttrs_str PySem.F.slot_str_join PySem.F.type_str_join m_join (em_str) (am_cons (em_op (o_add false) (em_op (o_add false) (em_slice false (em_var 2) (om_none) (om_some (em_var 3))) (em_slice false (em_var 2) (om_some (em_var 3)) (om_some (em_op (o_add false) (em_var 3) (em_int))))) (em_slice false (em_var 2) (om_some (em_var 3)) (om_none))) (am_nil))) (am_cons (em_op (o_add false) (em_var 1) (em_var 1)) (am_tok (o_add false) (em_var 1) (amt_cons (em_slice false (em_var 1) (om_none) (om_some (em_un u_neg (em_int)))) (amt_repl (em_var 1) (amt_of am_nil)))))))) (am_nil)))) (sms_one (sm_ret (em_callD 2 (ok__law_pick e) hr hgd takes_body bp__law_pick (am_cons (em_var 0) (am_cons (em_var 6) (am_nil)))))))))))
theorem sc__law_read : FnScope ["text", "found", "e"] ["text"] (defScope st__law_read) := ⟨rfl, rfl, rfl, by decide +kernel, rfl, by decide +kernel, by decide +kernel⟩
theorem bp__law_read : BindP "_law_read" st__law_read ["text"] := fun _ _ _ _ _ _ us hl => match us, hl with | [_], _ => rfl
theorem ok__law_read (e : Env K mg) : DefG P w K mg "_law_read" "_law_read" st__law_read ["text"] 7 m__law_read := by
  obtain ⟨C_BadText, I_BadText, lx_BadText⟩ := e.x_BadText
  have gx_BadText := lx_BadText.gC
  obtain ⟨C_RoadError, I_RoadError, lx_RoadError⟩ := e.x_RoadError
  have gx_RoadError := lx_RoadError.gC
  exact defG_of (k := 6) e.f__law_read sc__law_read (fun f base cdv A outer s H E hr hgd => by
      have nd := sc__law_read.nd
      exact sms_cons (sm_set 1 nd (em_non)) (sms_cons (sm_try rfl rfl nd rfl takes_body (fun W' pn xe tk' po => sms_one (sm_set 1 nd (em_callD 1 (ok_table_of e) hr hgd tk' bp_table_of (am_cons (em_var 0) (am_nil))))) (HsM.cons ⟨rfl, by decide, .inl gx_BadText⟩ rfl rfl (try_ok e.sub _ gx_BadText) (fun _ _ => sms_one (sm_set 1 nd (em_tup (am_cons (em_str) (am_cons (em_fld 2 ["BadText"] e.xf_line) (am_cons (em_isX 2 (tstL tis "RoadError") e.b_isinstance gx_RoadError (is_ok e.isx _ gx_RoadError)) (am_nil))))))) HsM.nil)) (sms_one (sm_ret (em_var 1)))))
theorem sc_law : FnScope ["script", "pot", "late", "step", "table", "other", "shown", "text", "some", "value", "due", "told", "turn"] ["script"] (defScope st_law) := ⟨rfl, rfl, rfl, by decide +kernel, rfl, by decide +kernel, by decide +kernel⟩
theorem bp_law : BindP "law" st_law ["script"] := fun _ _ _ _ _ _ us hl => match us, hl with | [_], _ => rfl
theorem ok_law (e : Env K mg) : DefG P w K mg "law" "law" st_law ["script"] 9 m_law := by
  exact defG_of (k := 8) e.f_law sc_law (fun f base cdv A outer s H E hr hgd => by
      have nd := sc_law.nd
      exact sms_cons (sm_asg [1, 2] (gm_tup rfl (gms_cons (gm_name 1 nd) (gms_cons (gm_name 2 nd) (gms_nil)))) (em_tup (am_cons (em_callD 2 (ok__law_pot e) hr hgd takes_body bp__law_pot (am_cons (em_var 0) (am_cons (em_int) (am_nil)))) (am_cons (em_callD 2 (ok__law_pot e) hr hgd takes_body bp__law_pot (am_cons (em_var 0) (am_cons (em_int) (am_nil)))) (am_nil))))) (sms_cons (sm_for [3] (passes_of rfl) rfl (im_range1 e.b_range (am_cons (em_int) (am_nil))) (gm_name 3 nd) (sms_cons (sm_par 4 5 rfl nd (am_cons (em_callD 1 (ok__law_table e) hr hgd takes_body bp__law_table (am_cons (em_var 1) (am_nil))) (am_cons (em_callD 1 (ok__law_table e) hr hgd takes_body bp__law_table (am_cons (em_var 1) (am_nil))) (am_nil)))) (sms_cons (sm_asg [6, 7] (gm_tup rfl (gms_cons (gm_name 6 nd) (gms_cons (gm_name 7 nd) (gms_nil)))) (em_tup (am_cons (em_callB (c_repr hgd (room64 hr)) e.b_repr rfl (am_cons (em_var 4) (am_nil))) (am_cons (em_callD 1 (ok__law_text e) hr hgd takes_body bp__law_text (am_cons (em_var 4) (am_nil))) (am_nil))))) (sms_cons (sm_if (tm_not (tm_val (em_callD 2 (ok__law_same e) hr hgd takes_body bp__law_same (am_cons (em_lst false (am_cons (em_callD 1 (ok_table_text e) hr hgd takes_body bp_table_text (am_cons (em_var 4) (am_nil))) (am_cons (em_callDK0 (ks := ["table"]) [0] (ok_table_text e) hr hgd takes_body (fun _ _ _ _ _ _ us ws h1 h2 => match us, ws, h1, h2 with | [], [_], _, _ => rfl) (km_cons (em_var 4) (km_nil))) (am_cons (em_callD 1 (ok_table_of e) hr hgd takes_body bp_table_of (am_cons (em_var 7) (am_nil))) (am_cons (em_callDK0 (ks := ["text"]) [0] (ok_table_of e) hr hgd takes_body (fun _ _ _ _ _ _ us ws h1 h2 => match us, ws, h1, h2 with | [], [_], _, _ => rfl) (km_cons (em_var 7) (km_nil))) (am_cons (em_callD 1 (ok_bad_line e) hr hgd takes_body bp_bad_line (am_cons (em_var 7) (am_nil))) (am_nil))))))) (am_cons (em_lst false (am_cons (em_var 7) (am_cons (em_var 7) (am_cons (em_var 4) (am_cons (em_var 4) (am_cons (em_non) (am_nil))))))) (am_nil)))))) (sms_one (sm_ret (em_bl))) (sms_nil)) (sms_cons (sm_if (tm_w (wm_or (tm_cmp (o_ne (room64 hr)) (em_cmp (o_eq (room64 hr)) (em_var 4) (em_var 5)) (em_cmp (o_eq (room64 hr)) (em_callD 1 (ok_table_text e) hr hgd takes_body bp_table_text (am_cons (em_var 5) (am_nil))) (em_var 7))) (wm_or1 (tm_cmp (o_ne (room64 hr)) (em_callB (c_repr hgd (room64 hr)) e.b_repr rfl (am_cons (em_var 4) (am_nil))) (em_var 6))))) (sms_one (sm_ret (em_bl))) (sms_nil)) (sms_cons (sm_set 8 nd (em_op (o_add false) (em_lst false (am_cons (em_str) (am_cons (em_str) (am_cons (em_str) (am_cons (em_str) (am_cons (em_str) (am_cons (em_str) (am_cons (em_str) (am_cons (em_str) (am_cons (em_str) (am_nil))))))))))) (em_lc false id (fe_id rfl) (own := [("turn", 12)]) rfl nd (blkOk_by (by kernel_rfl)) (im_range1 e.b_range (am_cons (em_int) (am_nil))) (fun _ _ _ _ _ => gm_name 12 nd) (fun _ _ _ _ _ => tms_nil) (fun _ _ _ _ _ => em_callD 2 (ok__law_bent e) hr hgd takes_W0 bp__law_bent (am_cons (em_var 2) (am_cons (em_var 7) (am_nil))))))) (sms_one (sm_for [9] (passes_of rfl) rfl (im_seq (em_var 8)) (gm_name 9 nd) (sms_cons (sm_set 10 nd (em_callD 1 (ok__law_bad e) hr hgd takes_body bp__law_bad (am_cons (em_var 9) (am_nil)))) (sms_cons (sm_if (tm_not (tm_val (em_callD 2 (ok__law_same e) hr hgd takes_body bp__law_same (am_cons (em_lst false (am_cons (em_callD 1 (ok_bad_line e) hr hgd takes_body bp_bad_line (am_cons (em_var 9) (am_nil))) (am_cons (em_callDK0 (ks := ["text"]) [0] (ok_bad_line e) hr hgd takes_body (fun _ _ _ _ _ _ us ws h1 h2 => match us, ws, h1, h2 with | [], [_], _, _ => rfl) (km_cons (em_var 9) (km_nil))) (am_nil)))) (am_cons (em_lst false (am_cons (em_var 10) (am_cons (em_var 10) (am_nil)))) (am_nil)))))) (sms_one (sm_ret (em_bl))) (sms_nil)) (sms_cons (sm_set 11 nd (em_callD 1 (ok__law_read e) hr hgd takes_body bp__law_read (am_cons (em_var 9) (am_nil)))) (sms_one (sm_if (tm_w (wm_or (tm_w (wm_and (tm_notN (em_var 10)) (wm_and1 (tm_cmp (o_ne (room64 hr)) (em_var 11) (em_tup (am_cons (em_str) (am_cons (em_var 10) (am_cons (em_bl) (am_nil))))))))) (wm_or1 (tm_w (wm_and (tm_isN (em_var 10)) (wm_and1 (tm_cmp (o_ne (room64 hr)) (em_callD 1 (ok_table_text e) hr hgd takes_body bp_table_text (am_cons (em_var 11) (am_nil))) (em_var 9)))))))) (sms_one (sm_ret (em_bl))) (sms_nil)))))))))))))) (sms_one (sm_ret (em_bl)))))
end
theorem fo_line : Low.FldOk "line" := ⟨by decide, fun _ _ _ _ _ _ _ _ _ _ _ _ _ _ => rfl, fun _ _ => rfl, fun _ _ _ _ _ _ => rfl, fun _ _ _ _ _ _ => rfl, fun _ _ _ _ => rfl⟩
theorem fo_value : Low.FldOk "value" := ⟨by decide, fun _ _ _ _ _ _ _ _ _ _ _ _ _ _ => rfl, fun _ _ => rfl, fun _ _ _ _ _ _ => rfl, fun _ _ _ _ _ _ => rfl, fun _ _ _ _ => rfl⟩
end Mk93


set_option Elab.async false
set_option linter.all false
set_option maxRecDepth 100000
set_option autoImplicit false
set_option maxHeartbeats 4000000
namespace Mk93
open ML PySem PySem.Spec PyProof.Rows L2 TL
/-! ### numerals -/
def dig (c : Nat) : Bool := decide (48 ≤ c) && decide (c ≤ 57)
def cinV : List Nat → Option Nat
  | [a] => if dig a = true then some (a - 48) else none
  | [a, b] => if (dig a && dig b && a != 48) = true then some ((a - 48) * 10 + (b - 48)) else none
  | [a, b, c] => if (dig a && dig b && dig c && a != 48) = true then some ((a - 48) * 100 + (b - 48) * 10 + (c - 48)) else none
  | _ => none
def NW (n : Nat) : Str := Str.ofString (toString ((n : Nat) : Int))
theorem numL1 {n : Nat} (h : n < 10) : numL n = [48 + n] := numL_lt h
theorem numL2 {n : Nat} (h : 10 ≤ n) (h2 : n < 100) : numL n = [48 + n / 10, 48 + n % 10] := by rw [numL_step h, numL_lt (by omega)]; rfl
theorem numL3 {n : Nat} (h : 100 ≤ n) (h2 : n < 1000) : numL n = [48 + n / 100, 48 + n / 10 % 10, 48 + n % 10] := by
  rw [numL_step (by omega), numL2 (n := n / 10) (by omega) (by omega), Nat.div_div_eq_div_mul]
  rfl
theorem cin_num {l : List Nat} {n : Nat} (h : cinV l = some n) : n < 1000 ∧ l = numL n := by
  unfold cinV at h
  split at h
  · rename_i a
    split at h
    · rename_i q
      have q' : 48 ≤ a ∧ a ≤ 57 := by simpa [dig] using q
      cases h
      refine ⟨by omega, ?_⟩
      rw [numL1 (by omega)]
      congr 1
      omega
    · cases h
  · rename_i a b
    split at h
    · rename_i q
      have q' : ((48 ≤ a ∧ a ≤ 57) ∧ 48 ≤ b ∧ b ≤ 57) ∧ a ≠ 48 := by simpa [dig] using q
      cases h
      refine ⟨by omega, ?_⟩
      rw [numL2 (by omega) (by omega)]
      congr 1
      · omega
      · congr 1
        omega
    · cases h
  · rename_i a b c
    split at h
    · rename_i q
      have q' : (((48 ≤ a ∧ a ≤ 57) ∧ 48 ≤ b ∧ b ≤ 57) ∧ 48 ≤ c ∧ c ≤ 57) ∧ a ≠ 48 := by simpa [dig] using q
      cases h
      refine ⟨by omega, ?_⟩
      rw [numL3 (by omega) (by omega)]
      congr 1
      · omega
      · congr 1
        · omega
        · congr 1
          omega
    · cases h
  · cases h
theorem num_cin {n : Nat} (h : n < 1000) : cinV (numL n) = some n := by
  rcases Nat.lt_or_ge n 10 with h1 | h1
  · rw [numL1 h1]
    simp only [cinV]
    rw [if_pos (by simp [dig]; omega)]
    congr 1
    omega
  · rcases Nat.lt_or_ge n 100 with h2 | h2
    · rw [numL2 h1 h2]
      simp only [cinV]
      rw [if_pos (by simp [dig]; omega)]
      congr 1
      omega
    · rw [numL3 h2 h]
      simp only [cinV]
      rw [if_pos (by simp [dig]; omega)]
      congr 1
      omega
def optD : Option Nat → D
  | some n => .int n
  | none => .non
theorem len_tl' (w : Str) : w.length = (tl w).length := len_tl w
/-- each sign of a text is looked at -/
theorem lc_signs {el : M D} {ev : Ev} {S : Sto} (i : Nat) (f : Nat → D) (w : Str) (h : ∀ c, el (ev.set i (some (.str ⟨#[c]⟩))) S = .ok (f c) S) (hz : w.length ≤ 16777216) :
    lcL (tgN i) mYes el ev ⟨w.cps.toList.map fun c => .str ⟨#[c]⟩, []⟩ (w.cps.toList.map fun c => .str ⟨#[c]⟩) [] S = .ok (w.cps.toList.map f) S := by
  have key : ∀ (l : List Nat) (acc : List D) (c0 : Src), c0.live S = true → acc.length + l.length ≤ 16777216 → lcL (tgN i) mYes el ev c0 (l.map fun c => .str ⟨#[c]⟩) acc S = .ok (acc ++ l.map f) S := by
    intro l
    induction l with
    | nil => intro acc c0 hl _; simp only [List.map_nil, lcL]; rw [if_pos hl, List.append_nil]
    | cons c l ih =>
      intro acc c0 hl hz
      have hz' : acc.length + (l.length + 1) ≤ 16777216 := by simpa using hz
      simp only [List.map_cons, lcL]
      rw [if_pos hl]
      show ((R.ok true S).bind fun b S3 => _) = _
      simp only [mYes, bind_ok, if_true, reduceIte]
      rw [h c, bind_ok, if_pos (by omega), ih _ _ hl (by rw [List.length_append, List.length_singleton]; omega), List.append_assoc]
      rfl
  have q := key w.cps.toList [] ⟨w.cps.toList.map fun c => .str ⟨#[c]⟩, []⟩ rfl (by rw [len_tl'] at hz; simpa using hz)
  simpa using q
theorem isDig (c : Nat) (S : Sto) : pnin (.str ⟨#[c]⟩) (.str "0123456789") S = .ok (.bl (!dig c)) S ∧ pin (.str ⟨#[c]⟩) (.str "0123456789") S = .ok (.bl (dig c)) S := by
  have e : decide (c ∈ (Str.ofString "0123456789").cps.toList) = dig c := by
    rw [show (Str.ofString "0123456789").cps.toList = [48, 49, 50, 51, 52, 53, 54, 55, 56, 57] from by decide +kernel]
    unfold dig
    rw [← Bool.decide_and]
    congr 1
    simp
    omega
  have e2 : isIn S (.str ⟨#[c]⟩) (.str "0123456789") = some (dig c) := by
    show (if (1 : Nat) = 1 then some (decide (c ∈ (Str.ofString "0123456789").cps.toList)) else none) = _
    rw [if_pos rfl, e]
  constructor
  · show (match isIn S (.str ⟨#[c]⟩) (.str "0123456789") with | some b => R.ok (D.bl (!b)) S | none => R.no) = _
    rw [e2]
  · show (match isIn S (.str ⟨#[c]⟩) (.str "0123456789") with | some b => R.ok (D.bl b) S | none => R.no) = _
    rw [e2]
theorem asBs_map (f : Nat → Bool) : ∀ l : List Nat, asBs (l.map fun c => D.bl (f c)) = some (l.map f)
  | [] => rfl
  | c :: l => by show (asBs (l.map fun c => D.bl (f c))).map (f c :: ·) = _; rw [asBs_map f l]; rfl
theorem drawn_str (S : Sto) (w : Str) : drawn S (.str w) = some ⟨w.cps.toList.map fun c => .str ⟨#[c]⟩, []⟩ := rfl
theorem str_eq {w : Str} {x : String} {l : List Nat} (h : (Str.ofString x).cps.toList = l) : (w = Str.ofString x) ↔ w.cps.toList = l := ⟨fun e => by rw [e, h], fun e => ext_tl (by show w.cps.toList = (Str.ofString x).cps.toList; rw [e, h])⟩
theorem one_eq {c : Nat} {x : String} {l : List Nat} (h : (Str.ofString x).cps.toList = l) : ((⟨#[c]⟩ : Str) = Str.ofString x) ↔ [c] = l := str_eq h
theorem e_zero : (Str.ofString "0").cps.toList = [48] := by decide +kernel
theorem e_nil : (Str.ofString "").cps.toList = [] := by decide +kernel
theorem d48 : dig 48 = true := rfl
theorem is_numeral (w : Str) (S : Sto) (hz : w.length ≤ 16777216) : m__law_is_numeral [.str w] S = .ok (.bl (cinV w.cps.toList).isSome) S := by
  have hl := fun (ev : Ev) => lc_signs (el := m2 pin (mVar 1) (mC (.str "0123456789"))) (ev := ev) (S := S) 1 (fun c => .bl (dig c)) w
  have hl := fun (ev : Ev) (he : ∃ x, ev = [x, none]) => lc_signs (el := m2 pin (mVar 1) (mC (.str "0123456789"))) (ev := ev) (S := S) 1 (fun c => .bl (dig c)) w (fun c => by obtain ⟨x, rfl⟩ := he; exact (isDig c S).2) hz
  have hl := hl [some (.str w), none] ⟨_, rfl⟩
  have h0 := str_eq (w := w) e_nil
  have h1 := str_eq (w := w) e_zero
  have hlen : w.length = w.cps.toList.length := len_tl w
  have hall : (w.cps.toList.map fun c => dig c).all (fun b => b) = w.cps.toList.all dig := by rw [List.all_map]; rfl
  obtain ⟨l, rfl⟩ : ∃ l : List Nat, w = ⟨l.toArray⟩ := ⟨w.cps.toList, rfl⟩
  have h0 : ((⟨l.toArray⟩ : Str) = Str.ofString "") ↔ l = [] := h0
  have h1 : ((⟨l.toArray⟩ : Str) = Str.ofString "0") ↔ l = [48] := h1
  have hlen : (⟨l.toArray⟩ : Str).length = l.length := hlen
  have hz' : (⟨l.toArray⟩ : Str).length ≤ 16777216 := hz
  have hall : (l.map fun c => dig c).all (fun b => b) = l.all dig := hall
  have hl : lcL (tgN 1) mYes (m2 pin (mVar 1) (mC (D.str (Str.ofString "0123456789")))) [some (D.str ⟨l.toArray⟩), none] { items := List.map (fun c => D.str { cps := #[c] }) l, deps := [] } (List.map (fun c => D.str { cps := #[c] }) l) [] S = R.ok (List.map (fun c => D.bl (dig c)) l) S := hl
  have hd : drawn S (.str ⟨l.toArray⟩) = some ⟨l.map fun c => .str ⟨#[c]⟩, []⟩ := rfl
  have hat : ∀ x r, l = x :: r → atI l 0 = some x := fun x r e => by subst e; simp [atI, ixN]
  show _ = R.ok (D.bl (cinV l).isSome) S
  unfold m__law_is_numeral b__law_is_numeral
  simp only [mDef, endS, startD, sRet, bindS, R.bind, m2, mC, mVar, asVal, mL, mCons, mNil, mAnd, mOr, pne, peq, plen, pcmp, pix, mLc, mSrc, asSrc, noEx, mkL, evWipe, id, List.map, List.length, List.replicate, List.cons_append, List.nil_append, List.getElem?_cons_zero, List.getElem?_cons_succ, List.set_cons_zero, List.set_cons_succ, Nat.reduceSub, Nat.reduceAdd, h0, h1, hlen, hd, hl, pall, seqOf, Option.bind, asBs_map, hz', Bool.false_eq_true, if_false, reduceIte, if_true]
  simp only [hall]
  have one48 : ∀ a : Nat, ((⟨#[a]⟩ : Str) = Str.ofString "0") ↔ a = 48 := fun a => (one_eq e_zero).trans (by simp)
  have hzl : l.length ≤ 16777216 := by rw [← hlen]; exact hz'
  clear hl h0 h1 hd hz' hlen hall
  rcases l with _ | ⟨a, _ | ⟨b, _ | ⟨c, _ | ⟨d, r⟩⟩⟩⟩
  · simp [cinV]
  · rcases Decidable.em (a = 48) with rfl | h
    · simp [cinV, d48, atI, ixN, one48]
    · by_cases ha : dig a = true <;> simp [cinV, ha, h, atI, ixN, one48]
  · rcases Decidable.em (a = 48) with rfl | h
    · by_cases hb : dig b = true <;> simp [cinV, d48, hb, atI, ixN, one48]
    · by_cases ha : dig a = true <;> by_cases hb : dig b = true <;> simp [cinV, ha, hb, h, atI, ixN, one48]
  · rcases Decidable.em (a = 48) with rfl | h
    · by_cases hb : dig b = true <;> by_cases hc : dig c = true <;> simp [cinV, d48, hb, hc, atI, ixN, one48]
    · by_cases ha : dig a = true <;> by_cases hb : dig b = true <;> by_cases hc : dig c = true <;> simp [cinV, ha, hb, hc, h, atI, ixN, one48]
  · have e : ¬ ((r.length : Int) + 1 + 1 + 1 + 1 < 4) := by omega
    have hr : r.length ≤ 16777212 := by simp at hzl; omega
    have e2 : ¬ ((r.length : Int) < 0) := by omega
    by_cases h : (dig a && (dig b && (dig c && (dig d && r.all dig)))) = true <;> simp [cinV, h, e, hr]
theorem int_cin {l : List Nat} {n : Nat} (h : cinV l = some n) : intText? (⟨l.toArray⟩ : Str) = some (n : Int) := by
  obtain ⟨h1, rfl⟩ := cin_num h
  have e : (⟨(numL n).toArray⟩ : Str) = NW n := ext_tl (tl_num n).symm
  rw [e]
  exact int_num (Nat.le_trans (numL_len (k := 3) (by decide) h1) (by decide))
theorem asStr (w : Str) : ∃ l : List Nat, w = ⟨l.toArray⟩ := ⟨w.cps.toList, rfl⟩
theorem count_in (l : List Nat) (S : Sto) (hz : l.length ≤ 16777216) : m_count_in [.str ⟨l.toArray⟩] S = .ok (optD (cinV l)) S := by
  have hlen : (⟨l.toArray⟩ : Str).length = l.length := rfl
  have hl := lc_signs (el := m2 pnin (mVar 1) (mC (.str "0123456789"))) (ev := [some (D.str ⟨l.toArray⟩), none]) (S := S) 1 (fun c => .bl (!dig c)) ⟨l.toArray⟩ (fun c => (isDig c S).1) hz
  have hl : lcL (tgN 1) mYes (m2 pnin (mVar 1) (mC (D.str (Str.ofString "0123456789")))) [some (D.str ⟨l.toArray⟩), none] { items := List.map (fun c => D.str { cps := #[c] }) l, deps := [] } (List.map (fun c => D.str { cps := #[c] }) l) [] S = R.ok (List.map (fun c => D.bl (!dig c)) l) S := hl
  have h1 : ((⟨l.toArray⟩ : Str) = Str.ofString "0") ↔ l = [48] := str_eq (w := ⟨l.toArray⟩) e_zero
  have hd : drawn S (.str ⟨l.toArray⟩) = some ⟨l.map fun c => .str ⟨#[c]⟩, []⟩ := rfl
  have one48 : ∀ a : Nat, ((⟨#[a]⟩ : Str) = Str.ofString "0") ↔ a = 48 := fun a => (one_eq e_zero).trans (by simp)
  have two48 : ∀ a b : Nat, ¬ ((⟨#[a, b]⟩ : Str) = Str.ofString "0") := fun a b h => by have := (str_eq (w := ⟨#[a, b]⟩) e_zero).mp h; simp at this
  have tre48 : ∀ a b c : Nat, ¬ ((⟨#[a, b, c]⟩ : Str) = Str.ofString "0") := fun a b c h => by have := (str_eq (w := ⟨#[a, b, c]⟩) e_zero).mp h; simp at this
  have hint := @int_cin l
  have l1 : ∀ a : Nat, (⟨#[a]⟩ : Str).length = 1 := fun _ => rfl
  have l2 : ∀ a b : Nat, (⟨#[a, b]⟩ : Str).length = 2 := fun _ _ => rfl
  have l3 : ∀ a b c : Nat, (⟨#[a, b, c]⟩ : Str).length = 3 := fun _ _ _ => rfl
  unfold m_count_in b_count_in
  rcases l with _ | ⟨a, _ | ⟨b, _ | ⟨c, _ | ⟨d, r⟩⟩⟩⟩
  · have l0 : (⟨#[]⟩ : Str).length = 0 := rfl
    simp [mDef, endS, startD, sCons, seqS, sRet, sRetN, sSet, sIf, sNil, sAsg, sExpr, sPar, par2, bindS, noEx, ML.R.bind, m1, m2, mT, mTr, asB, asTr, mC, mVar, asV_non, asV_bl, asV_int, asV_str, asV_tup, asV_lst, asV_rol, asV_ref, mL, mCons, mNil, mIf, mCall, tgN, tgSub, tgT, tgCons, tgNil, setAt, tNotM, tAndM, tOrM, mAnd, mOr, pnot, pix, pcmp, padd, psub, pmul, pfdiv, pmod, pint, plen, ptup, pisN, pnotN, seqOf, pneg, mSl, oNone, oSome, asI, mLc, mSrc, asSrc, drawn, mYes, evWipe, mkL, plst, mChain, chain2, cinV, optD, l0]
  · simp at hl
    have d1 : drawn S (.str ⟨#[a]⟩) = some ⟨[.str ⟨#[a]⟩], []⟩ := rfl
    rcases Decidable.em (a = 48) with rfl | h
    · have hi := hint (n := 0) (by simp [cinV, d48])
      try simp at hi
      simp [mDef, endS, startD, sCons, seqS, sRet, sRetN, sSet, sIf, sNil, sAsg, sExpr, sPar, par2, bindS, noEx, ML.R.bind, m1, m2, mT, mTr, asB, asTr, mC, mVar, asV_non, asV_bl, asV_int, asV_str, asV_tup, asV_lst, asV_rol, asV_ref, mL, mCons, mNil, mIf, mCall, tgN, tgSub, tgT, tgCons, tgNil, setAt, tNotM, tAndM, tOrM, mAnd, mOr, pnot, pix, pcmp, padd, psub, pmul, pfdiv, pmod, pint, plen, ptup, pisN, pnotN, seqOf, pneg, mSl, oNone, oSome, asI, mLc, mSrc, asSrc, drawn, mYes, evWipe, mkL, plst, mChain, chain2, l1, d1, hl, cinV, d48, atI, ixN, one48, optD, hi, pany, asBs, peq, pne]
    · by_cases ha : dig a = true
      · have hi := hint (n := a - 48) (by simp [cinV, ha])
        try simp at hi
        simp [mDef, endS, startD, sCons, seqS, sRet, sRetN, sSet, sIf, sNil, sAsg, sExpr, sPar, par2, bindS, noEx, ML.R.bind, m1, m2, mT, mTr, asB, asTr, mC, mVar, asV_non, asV_bl, asV_int, asV_str, asV_tup, asV_lst, asV_rol, asV_ref, mL, mCons, mNil, mIf, mCall, tgN, tgSub, tgT, tgCons, tgNil, setAt, tNotM, tAndM, tOrM, mAnd, mOr, pnot, pix, pcmp, padd, psub, pmul, pfdiv, pmod, pint, plen, ptup, pisN, pnotN, seqOf, pneg, mSl, oNone, oSome, asI, mLc, mSrc, asSrc, drawn, mYes, evWipe, mkL, plst, mChain, chain2, l1, d1, hl, cinV, ha, h, atI, ixN, one48, optD, hi, pany, asBs, peq, pne]
      · simp [mDef, endS, startD, sCons, seqS, sRet, sRetN, sSet, sIf, sNil, sAsg, sExpr, sPar, par2, bindS, noEx, ML.R.bind, m1, m2, mT, mTr, asB, asTr, mC, mVar, asV_non, asV_bl, asV_int, asV_str, asV_tup, asV_lst, asV_rol, asV_ref, mL, mCons, mNil, mIf, mCall, tgN, tgSub, tgT, tgCons, tgNil, setAt, tNotM, tAndM, tOrM, mAnd, mOr, pnot, pix, pcmp, padd, psub, pmul, pfdiv, pmod, pint, plen, ptup, pisN, pnotN, seqOf, pneg, mSl, oNone, oSome, asI, mLc, mSrc, asSrc, drawn, mYes, evWipe, mkL, plst, mChain, chain2, l1, d1, hl, cinV, ha, h, atI, ixN, one48, optD, pany, asBs, peq, pne]
  · simp at hl
    have d1 : drawn S (.str ⟨#[a, b]⟩) = some ⟨[.str ⟨#[a]⟩, .str ⟨#[b]⟩], []⟩ := rfl
    rcases Decidable.em (a = 48) with rfl | h
    · by_cases hb : dig b = true <;> simp [mDef, endS, startD, sCons, seqS, sRet, sRetN, sSet, sIf, sNil, sAsg, sExpr, sPar, par2, bindS, noEx, ML.R.bind, m1, m2, mT, mTr, asB, asTr, mC, mVar, asV_non, asV_bl, asV_int, asV_str, asV_tup, asV_lst, asV_rol, asV_ref, mL, mCons, mNil, mIf, mCall, tgN, tgSub, tgT, tgCons, tgNil, setAt, tNotM, tAndM, tOrM, mAnd, mOr, pnot, pix, pcmp, padd, psub, pmul, pfdiv, pmod, pint, plen, ptup, pisN, pnotN, seqOf, pneg, mSl, oNone, oSome, asI, mLc, mSrc, asSrc, drawn, mYes, evWipe, mkL, plst, mChain, chain2, l2, d1, hl, cinV, d48, hb, atI, ixN, one48, two48, optD, pany, asBs, peq, pne]
    · by_cases ha : dig a = true <;> by_cases hb : dig b = true
      · have hi := hint (n := (a - 48) * 10 + (b - 48)) (by simp [cinV, ha, hb, h])
        try simp at hi
        simp [mDef, endS, startD, sCons, seqS, sRet, sRetN, sSet, sIf, sNil, sAsg, sExpr, sPar, par2, bindS, noEx, ML.R.bind, m1, m2, mT, mTr, asB, asTr, mC, mVar, asV_non, asV_bl, asV_int, asV_str, asV_tup, asV_lst, asV_rol, asV_ref, mL, mCons, mNil, mIf, mCall, tgN, tgSub, tgT, tgCons, tgNil, setAt, tNotM, tAndM, tOrM, mAnd, mOr, pnot, pix, pcmp, padd, psub, pmul, pfdiv, pmod, pint, plen, ptup, pisN, pnotN, seqOf, pneg, mSl, oNone, oSome, asI, mLc, mSrc, asSrc, drawn, mYes, evWipe, mkL, plst, mChain, chain2, l2, d1, hl, cinV, ha, hb, h, atI, ixN, one48, two48, optD, hi, pany, asBs, peq, pne]
      all_goals simp [mDef, endS, startD, sCons, seqS, sRet, sRetN, sSet, sIf, sNil, sAsg, sExpr, sPar, par2, bindS, noEx, ML.R.bind, m1, m2, mT, mTr, asB, asTr, mC, mVar, asV_non, asV_bl, asV_int, asV_str, asV_tup, asV_lst, asV_rol, asV_ref, mL, mCons, mNil, mIf, mCall, tgN, tgSub, tgT, tgCons, tgNil, setAt, tNotM, tAndM, tOrM, mAnd, mOr, pnot, pix, pcmp, padd, psub, pmul, pfdiv, pmod, pint, plen, ptup, pisN, pnotN, seqOf, pneg, mSl, oNone, oSome, asI, mLc, mSrc, asSrc, drawn, mYes, evWipe, mkL, plst, mChain, chain2, l2, d1, hl, cinV, ha, hb, h, atI, ixN, one48, two48, optD, pany, asBs, peq, pne]
  · simp at hl
    have d1 : drawn S (.str ⟨#[a, b, c]⟩) = some ⟨[.str ⟨#[a]⟩, .str ⟨#[b]⟩, .str ⟨#[c]⟩], []⟩ := rfl
    rcases Decidable.em (a = 48) with rfl | h
    · by_cases hb : dig b = true <;> by_cases hc : dig c = true <;> simp [mDef, endS, startD, sCons, seqS, sRet, sRetN, sSet, sIf, sNil, sAsg, sExpr, sPar, par2, bindS, noEx, ML.R.bind, m1, m2, mT, mTr, asB, asTr, mC, mVar, asV_non, asV_bl, asV_int, asV_str, asV_tup, asV_lst, asV_rol, asV_ref, mL, mCons, mNil, mIf, mCall, tgN, tgSub, tgT, tgCons, tgNil, setAt, tNotM, tAndM, tOrM, mAnd, mOr, pnot, pix, pcmp, padd, psub, pmul, pfdiv, pmod, pint, plen, ptup, pisN, pnotN, seqOf, pneg, mSl, oNone, oSome, asI, mLc, mSrc, asSrc, drawn, mYes, evWipe, mkL, plst, mChain, chain2, l3, d1, hl, cinV, d48, hb, hc, atI, ixN, one48, tre48, optD, pany, asBs, peq, pne]
    · by_cases ha : dig a = true <;> by_cases hb : dig b = true <;> by_cases hc : dig c = true
      · have hi := hint (n := (a - 48) * 100 + (b - 48) * 10 + (c - 48)) (by simp [cinV, ha, hb, hc, h])
        try simp at hi
        simp [mDef, endS, startD, sCons, seqS, sRet, sRetN, sSet, sIf, sNil, sAsg, sExpr, sPar, par2, bindS, noEx, ML.R.bind, m1, m2, mT, mTr, asB, asTr, mC, mVar, asV_non, asV_bl, asV_int, asV_str, asV_tup, asV_lst, asV_rol, asV_ref, mL, mCons, mNil, mIf, mCall, tgN, tgSub, tgT, tgCons, tgNil, setAt, tNotM, tAndM, tOrM, mAnd, mOr, pnot, pix, pcmp, padd, psub, pmul, pfdiv, pmod, pint, plen, ptup, pisN, pnotN, seqOf, pneg, mSl, oNone, oSome, asI, mLc, mSrc, asSrc, drawn, mYes, evWipe, mkL, plst, mChain, chain2, l3, d1, hl, cinV, ha, hb, hc, h, atI, ixN, one48, tre48, optD, hi, pany, asBs, peq, pne]
      all_goals simp [mDef, endS, startD, sCons, seqS, sRet, sRetN, sSet, sIf, sNil, sAsg, sExpr, sPar, par2, bindS, noEx, ML.R.bind, m1, m2, mT, mTr, asB, asTr, mC, mVar, asV_non, asV_bl, asV_int, asV_str, asV_tup, asV_lst, asV_rol, asV_ref, mL, mCons, mNil, mIf, mCall, tgN, tgSub, tgT, tgCons, tgNil, setAt, tNotM, tAndM, tOrM, mAnd, mOr, pnot, pix, pcmp, padd, psub, pmul, pfdiv, pmod, pint, plen, ptup, pisN, pnotN, seqOf, pneg, mSl, oNone, oSome, asI, mLc, mSrc, asSrc, drawn, mYes, evWipe, mkL, plst, mChain, chain2, l3, d1, hl, cinV, ha, hb, hc, h, atI, ixN, one48, tre48, optD, pany, asBs, peq, pne]
  · have hr : r.length ≤ 16777212 := by simp at hz; omega
    have e : ¬ ((r.length : Int) + 1 + 1 + 1 + 1 ≤ 3) := by omega
    have e2 : (1 : Int) ≤ (r.length : Int) + 1 + 1 + 1 + 1 := by omega
    have l4 : (⟨(a :: b :: c :: d :: r).toArray⟩ : Str).length = r.length + 1 + 1 + 1 + 1 := rfl
    try simp at l4
    simp [mDef, endS, startD, sCons, seqS, sRet, sRetN, sSet, sIf, sNil, sAsg, sExpr, sPar, par2, bindS, noEx, ML.R.bind, m1, m2, mT, mTr, asB, asTr, mC, mVar, asV_non, asV_bl, asV_int, asV_str, asV_tup, asV_lst, asV_rol, asV_ref, mL, mCons, mNil, mIf, mCall, tgN, tgSub, tgT, tgCons, tgNil, setAt, tNotM, tAndM, tOrM, mAnd, mOr, pnot, pix, pcmp, padd, psub, pmul, pfdiv, pmod, pint, plen, ptup, pisN, pnotN, seqOf, pneg, mSl, oNone, oSome, asI, mLc, mSrc, asSrc, drawn, mYes, evWipe, mkL, plst, mChain, chain2, cinV, e, e2, hr, optD, l4]
end Mk93


set_option Elab.async false
set_option linter.all false
set_option maxRecDepth 100000
set_option autoImplicit false
set_option maxHeartbeats 4000000
namespace Mk93
open ML PySem PySem.Spec PyProof.Rows L2 TL
theorem lc_mapL {α : Type} {tg : D → M Ev} {cond : M Bool} {el : M D} {ev : Ev} {c : Src} {S : Sto} (g f : α → D) (hl : c.live S = true) :
    ∀ (l : List α) (acc : List D), (∀ a ∈ l, ∃ ev2, tg (g a) ev S = .ok ev2 S ∧ cond ev2 S = .ok true S ∧ el ev2 S = .ok (f a) S) → acc.length + l.length ≤ 16777216 →
    lcL tg cond el ev c (l.map g) acc S = .ok (acc ++ l.map f) S
  | [], acc, _, _ => by rw [List.map_nil, List.map_nil]; unfold lcL; rw [if_pos hl, List.append_nil]
  | d :: ds, acc, h, hz => by
    obtain ⟨ev2, e1, e2, e3⟩ := h d List.mem_cons_self
    have hz' : acc.length + (ds.length + 1) ≤ 16777216 := by simpa using hz
    rw [List.map_cons, List.map_cons]
    unfold lcL
    rw [if_pos hl, e1, bind_ok, e2, bind_ok, if_pos rfl, e3, bind_ok, if_pos (by omega), lc_mapL g f hl ds (acc ++ [f d]) (fun d' hd => h d' (List.mem_cons_of_mem _ hd)) (by rw [List.length_append, List.length_singleton]; omega), List.append_assoc]
    rfl
/-! ### rows -/
def intsD (r : List Nat) : List D := r.map fun (n : Nat) => .int (n : Int)
def rowO : Option (List Nat) → D
  | some r => .tup (intsD r)
  | none => .non
def allSome : List (Option Nat) → Option (List Nat)
  | [] => some []
  | none :: _ => none
  | some n :: r => (allSome r).map (n :: ·)
def parts (w : Str) (x : String) : List Str := Txt.split w (Str.ofString x)
def rowV (w : Str) : Option (List Nat) := allSome ((parts w ",").map fun p => cinV p.cps.toList)
theorem py_opts (n : Nat) (S : Sto) : ∀ os : List (Option Nat), pyL (py (n + 1) S) (os.map optD) = some (os.map fun o => match o with | some n => PyData.int (n : Int) | none => PyData.none)
  | [] => rfl
  | none :: r => by show (match py (n + 1) S D.non, pyL (py (n + 1) S) (r.map optD) with | some x, some xs => some (x :: xs) | _, _ => none) = _; rw [py_opts n S r]; rfl
  | some k :: r => by show (match py (n + 1) S (D.int k), pyL (py (n + 1) S) (r.map optD) with | some x, some xs => some (x :: xs) | _, _ => none) = _; rw [py_opts n S r]; rfl
theorem any_none : ∀ os : List (Option Nat), (os.map fun o => match o with | some n => PyData.int (n : Int) | none => PyData.none).any (fun b => PyData.eqv b .none) = (allSome os).isNone
  | [] => rfl
  | none :: r => rfl
  | some k :: r => by
    have ih := any_none r
    show (PyData.eqv (PyData.int k) .none || _) = _
    rw [show (List.map _ r).any _ = (allSome r).isNone from ih]
    show (false || (allSome r).isNone) = ((allSome r).map (k :: ·)).isNone
    cases allSome r <;> rfl
theorem all_ints : ∀ {os : List (Option Nat)} {r : List Nat}, allSome os = some r → os.map optD = intsD r
  | [], r, h => by cases h; rfl
  | none :: _, r, h => by cases h
  | some k :: os, r, h => by
    unfold allSome at h
    cases e : allSome os with
    | none => rw [e] at h; cases h
    | some r' => rw [e] at h; cases h; rw [List.map_cons, all_ints e]; rfl
theorem split_len (w : Str) (x : String) (hx : (Str.ofString x).length = 1) : (parts w x).length ≤ w.length + 2 := split_le w _
theorem row_in (w : Str) (S : Sto) (hz : w.length ≤ 1000000) : m_row_in [.str w] S = .ok (rowO (rowV w)) S := by
  have c44 : (Str.ofString ",").length = 1 := by decide +kernel
  have hsp := split_len w "," c44
  have hpart : ∀ p ∈ parts w ",", p.length ≤ w.length := fun p hp => part_short hp
  have hl := fun ev c (hc : c.live S = true) => lc_mapL (tg := tgN 2) (cond := mYes) (el := mCall 1 m_count_in (mCons (mVar 2) mNil)) (ev := ev) (c := c) (S := S) D.str (fun p => optD (cinV p.cps.toList)) hc (parts w ",") []
  have hl : lcL (tgN 2) mYes (mCall 1 m_count_in (mCons (mVar 2) mNil)) [some (.str w), none, none] ⟨(parts w ",").map D.str, []⟩ ((parts w ",").map D.str) [] S = .ok ((parts w ",").map fun p => optD (cinV p.cps.toList)) S := by
    refine (hl _ _ rfl (fun p hp => ⟨[some (.str w), none, some (.str p)], rfl, rfl, ?_⟩) (by simp; omega)).trans (by rw [List.nil_append])
    have q := count_in p.cps.toList S (by have := hpart p hp; rw [← len_tl']; omega)
    show mCall 1 m_count_in (mCons (mVar 2) mNil) [some (.str w), none, some (.str p)] S = _
    simp [mDef, endS, startD, sCons, seqS, sRet, sRetN, sSet, sIf, sNil, sAsg, sExpr, sPar, par2, bindS, noEx, ML.R.bind, m1, m2, mT, mTr, asB, asTr, mC, mVar, asV_non, asV_bl, asV_int, asV_str, asV_tup, asV_lst, asV_rol, asV_ref, mL, mCons, mNil, mIf, mCall, tgN, tgSub, tgT, tgCons, tgNil, setAt, tNotM, tAndM, tOrM, mAnd, mOr, pnot, pix, pcmp, padd, psub, pmul, pfdiv, pmod, pint, plen, ptup, pisN, pnotN, seqOf, pneg, mSl, oNone, oSome, asI, mLc, mSrc, asSrc, drawn, mYes, evWipe, mkL, plst]
    exact q
  have e1 : ((parts w ",").map fun p => optD (cinV p.cps.toList)) = ((parts w ",").map fun p => cinV p.cps.toList).map optD := by rw [List.map_map]; rfl
  rw [e1] at hl
  have hpy := py_opts 10 S ((parts w ",").map fun p => cinV p.cps.toList)
  have hany := any_none ((parts w ",").map fun p => cinV p.cps.toList)
  have hsplit : Txt.split w (Str.ofString ",") = parts w "," := rfl
  have hall := @all_ints ((parts w ",").map fun p => cinV p.cps.toList)
  have hz2 : w.length + 2 ≤ 16777216 := by omega
  have hz2 : w.length ≤ 16777214 := by omega
  unfold m_row_in b_row_in rowV
  generalize ((parts w ",").map fun p => cinV p.cps.toList) = os at *
  have hin : pin .non (.lst (os.map optD)) S = .ok (.bl (allSome os).isNone) S := by
    have q : isIn S .non (.lst (os.map optD)) = some (allSome os).isNone := by
      show (match py 12 S D.non, py 12 S (.lst (os.map optD)) with | some a, some (.tuple bs) => some (bs.any fun b => PyData.eqv b a) | some a, some (.list bs) => some (bs.any fun b => PyData.eqv b a) | _, _ => none) = _
      have q2 : py 12 S (.lst (os.map optD)) = some (.list (os.map fun o => match o with | some n => PyData.int (n : Int) | none => PyData.none)) := by
        show (match pyL (py 11 S) (os.map optD) with | some xs => some (PyData.list xs) | none => none) = _
        rw [hpy]
      rw [q2]
      show some _ = _
      rw [hany]
    show (match isIn S D.non (.lst (os.map optD)) with | some b => R.ok (D.bl b) S | none => R.no) = _
    rw [q]
  cases e : allSome os with
  | none =>
    rw [e] at hin
    simp [mMe, isStr, psplit, c44, hz2, hsplit, mDef, endS, startD, sCons, seqS, sSet, sRet, bindS, R.bind, m2, mT, asB, mC, mVar, asVal, mCons, mNil, mIf, mLc, mSrc, asSrc, drawn, noEx, mkL, evWipe, hl, hin, rowO]
  | some r =>
    rw [e] at hin
    have hr := hall e
    rw [hr] at hin hl
    simp [mMe, isStr, psplit, c44, hz2, hsplit, mDef, endS, startD, sCons, seqS, sSet, sRet, bindS, R.bind, m2, mT, asB, mC, mVar, asVal, mCons, mNil, mIf, mLc, mSrc, asSrc, drawn, noEx, mkL, evWipe, hl, hin, rowO, mL, ptuple, seqOf, hr]
end Mk93


set_option Elab.async false
set_option linter.all false
set_option maxRecDepth 100000
set_option autoImplicit false
set_option maxHeartbeats 4000000
namespace Mk93
open ML PySem PySem.Spec PyProof.Rows L2 TL
/-! ### tables -/
def rowD (r : List Nat) : D := .tup (intsD r)
def tbl (R : List (List Nat)) : D := .tup [.str "table", .tup (R.map rowD)]
def okR : Nat → List (List Nat) → Prop
  | _, [] => True
  | k, r :: R => r.length = k + 1 ∧ (∀ n ∈ r, n < 1000) ∧ okR (k + 1) R
/-- the word of a row -/
def rowW (r : List Nat) : Str := Txt.join (Str.ofString ",") (r.map NW)
def lineW (r : List Nat) : Str := Str.ofString "row " ++ rowW r
theorem NW_len {n : Nat} (h : n < 1000) : (NW n).length ≤ 3 := by
  rw [len_tl]
  show (tl (NW n)).length ≤ 3
  unfold NW
  rw [tl_num]
  exact numL_len (k := 3) (by decide) h
theorem pstr_nat {n : Nat} (h : n < 1000) (S : Sto) : pstr [.int (n : Int)] S = .ok (.str (NW n)) S := by
  have e : (n : Int).natAbs.log2 < 1920 := by
    rw [Int.natAbs_natCast]
    rcases Nat.eq_zero_or_pos n with rfl | hp
    · decide
    · exact (Nat.log2_lt (by omega)).mpr (Nat.lt_of_lt_of_le h (by decide))
  show (if (n : Int).natAbs.log2 < 1920 then R.ok (D.str (toString (n : Int))) S else R.no) = _
  rw [if_pos e]
  rfl
theorem asSs_map {α : Type} (f : α → Str) : ∀ l : List α, asSs (l.map fun a => D.str (f a)) = some (l.map f)
  | [] => rfl
  | c :: l => by show (asSs (l.map fun a => D.str (f a))).map (f c :: ·) = _; rw [asSs_map f l]; rfl
theorem sum_le {α : Type} (f : α → Nat) (b : Nat) : ∀ l : List α, (∀ a ∈ l, f a ≤ b) → (l.map f).sum ≤ l.length * b
  | [], _ => by simp
  | a :: l, h => by
    have h1 := h a List.mem_cons_self
    have h2 := sum_le f b l fun x hx => h x (List.mem_cons_of_mem _ hx)
    rw [List.map_cons, List.sum_cons, List.length_cons, Nat.succ_mul]
    omega
theorem pjoin_ok {α : Type} (x : Str) (f : α → Str) (l : List α) (S : Sto) (b : Nat) (h : ∀ a ∈ l, (f a).length ≤ b) (hb : l.length * b + l.length * x.length ≤ 16777216) : pjoin (.str x) [.lst (l.map fun a => D.str (f a))] S = .ok (.str (Txt.join x (l.map f))) S := by
  have e : ((l.map f).map fun (z : Str) => z.length).sum + (l.map f).length * x.length ≤ 16777216 := by
    rw [List.map_map, List.length_map]
    have := sum_le (fun a => (f a).length) b l h
    have e2 : (List.map ((fun (x : Str) => x.length) ∘ f) l).sum = (List.map (fun a => (f a).length) l).sum := rfl
    omega
  show (match ((some (l.map fun a => D.str (f a))).bind asSs) with | some zs => if (zs.map fun (z : Str) => z.length).sum + zs.length * x.length ≤ 16777216 then R.ok (D.str (Txt.join x zs)) S else R.no | none => R.no) = _
  rw [Option.bind_some, asSs_map]
  exact if_pos e
theorem row_word (r : List Nat) (S : Sto) (h : ∀ n ∈ r, n < 1000) (hl : r.length ≤ 1000) : m_row_word [rowD r] S = .ok (.str (rowW r)) S := by
  have c44 : (Str.ofString ",").length = 1 := by decide +kernel
  have q : lcL (tgN 1) mYes (mL pstr (mCons (mVar 1) mNil)) [some (rowD r), none] ⟨intsD r, []⟩ (intsD r) [] S = .ok (r.map fun n => D.str (NW n)) S := by
    refine (lc_mapL (fun (n : Nat) => D.int (n : Int)) (fun n => D.str (NW n)) rfl r [] (fun n hn => ⟨[some (rowD r), some (.int (n : Int))], rfl, rfl, ?_⟩) (by simp; omega)).trans (by rw [List.nil_append])
    have e := pstr_nat (h n hn) S
    simp [mDef, endS, startD, sCons, seqS, sRet, sRetN, sSet, sIf, sNil, sAsg, sExpr, sPar, par2, bindS, noEx, ML.R.bind, m1, m2, mT, mTr, asB, asTr, mC, mVar, asV_non, asV_bl, asV_int, asV_str, asV_tup, asV_lst, asV_rol, asV_ref, mL, mCons, mNil, mIf, mCall, tgN, tgSub, tgT, tgCons, tgNil, setAt, tNotM, tAndM, tOrM, mAnd, mOr, pnot, pix, pcmp, padd, psub, pmul, pfdiv, pmod, pint, plen, ptup, pisN, pnotN, seqOf, pneg, mSl, oNone, oSome, asI, mLc, mSrc, asSrc, drawn, mYes, evWipe, mkL, plst]
    exact e
  have hj := pjoin_ok (Str.ofString ",") NW r S 3 (fun n hn => NW_len (h n hn)) (by rw [c44]; omega)
  unfold m_row_word b_row_word
  unfold rowD at q
  simp [rowD, mMe, isStr, mDef, endS, startD, sRet, bindS, R.bind, mC, mVar, asVal, mCons, mNil, mLc, mSrc, asSrc, drawn, noEx, mkL, evWipe, q, hj, rowW]
/-- the text of a table -/
def textW (R : List (List Nat)) : Str := Txt.join (Str.ofString "") ((Str.ofString "table" :: R.map lineW).map fun x => x ++ Str.ofString "\n")
theorem rowW_len (r : List Nat) (h : ∀ n ∈ r, n < 1000) : (rowW r).length ≤ 4 * r.length := by
  have e : (rowW r).length ≤ (r.map fun n => (NW n).length).sum + r.length := by
    unfold rowW
    rw [join_eq, len_tl, tl_join]
    have key : ∀ l : List Nat, (joinL (tl (Str.ofString ",")) ((l.map NW).map tl)).length ≤ (l.map fun n => (NW n).length).sum + l.length := by
      have c44 : (tl (Str.ofString ",")).length = 1 := by decide +kernel
      intro l
      induction l with
      | nil => simp [joinL]
      | cons a l ih =>
        cases l with
        | nil => simp [joinL, len_tl]
        | cons b l =>
          have e3 : joinL (tl (Str.ofString ",")) (((a :: b :: l).map NW).map tl) = tl (NW a) ++ (tl (Str.ofString ",") ++ joinL (tl (Str.ofString ",")) (((b :: l).map NW).map tl)) := rfl
          have e4 : (NW a).length = (tl (NW a)).length := len_tl _
          have e5 : ((a :: b :: l).map fun n => (NW n).length).sum = (NW a).length + ((b :: l).map fun n => (NW n).length).sum := by rw [List.map_cons, List.sum_cons]
          have e6 : (a :: b :: l).length = (b :: l).length + 1 := rfl
          rw [e3, List.length_append, List.length_append, c44, e5, e6]
          omega
    exact key r
  have := sum_le (fun n => (NW n).length) 3 r fun n hn => NW_len (h n hn)
  omega
end Mk93


set_option Elab.async false
set_option linter.all false
set_option maxRecDepth 100000
set_option autoImplicit false
set_option maxHeartbeats 4000000
namespace Mk93
open ML PySem PySem.Spec PyProof.Rows L2 TL
theorem intsD_len (r : List Nat) : (intsD r).length = r.length := by unfold intsD; rw [List.length_map]
theorem is_integer_nat (n : Nat) (S : Sto) : m_is_integer [.int (n : Int)] S = .ok (.bl true) S := by
  unfold m_is_integer b_is_integer
  simp [mDef, endS, startD, sCons, seqS, sRet, sRetN, sSet, sIf, sNil, sAsg, sExpr, sPar, par2, bindS, noEx, ML.R.bind, m1, m2, mT, mTr, asB, asTr, mC, mVar, asV_non, asV_bl, asV_int, asV_str, asV_tup, asV_lst, asV_rol, asV_ref, mL, mCons, mNil, mIf, mCall, tgN, tgSub, tgT, tgCons, tgNil, setAt, tNotM, tAndM, tOrM, mAnd, mOr, pnot, pix, pcmp, padd, psub, pmul, pfdiv, pmod, pint, plen, ptup, pisN, pnotN, seqOf, pneg, mSl, oNone, oSome, asI, mLc, mSrc, asSrc, drawn, mYes, evWipe, mkL, plst, isi_int]
theorem is_count_nat (n : Nat) (S : Sto) : m_is_count [.int (n : Int)] S = .ok (.bl true) S := by
  have h := is_integer_nat n S
  unfold m_is_count b_is_count
  simp [mDef, endS, startD, sCons, seqS, sRet, sRetN, sSet, sIf, sNil, sAsg, sExpr, sPar, par2, bindS, noEx, ML.R.bind, m1, m2, mT, mTr, asB, asTr, mC, mVar, asV_non, asV_bl, asV_int, asV_str, asV_tup, asV_lst, asV_rol, asV_ref, mL, mCons, mNil, mIf, mCall, tgN, tgSub, tgT, tgCons, tgNil, setAt, tNotM, tAndM, tOrM, mAnd, mOr, pnot, pix, pcmp, padd, psub, pmul, pfdiv, pmod, pint, plen, ptup, pisN, pnotN, seqOf, pneg, mSl, oNone, oSome, asI, mLc, mSrc, asSrc, drawn, mYes, evWipe, mkL, plst, h]
def numBody : MS := sIf (tNotM (mTr (mL pall (mCons (mLc false (([("far", 2)] : List (Str × Nat)).map (·.2)) id (mSrc (mVar 1)) (tgN 2) (mYes) (mAnd (mCall 1 m_is_count (mCons (mVar 2) (mNil))) (m2 (pcmp fun i j => decide (i ≤ j)) (mVar 2) (mC (.int 999))))) (mNil))))) (sRet (mC (.str "numbers"))) (sNil)
theorem lc_enum (T : D) (c : Src) (S : Sto) (hc : c.live S = true) : ∀ (Rs : List (List Nat)) (k : Nat) (acc : List D), okR k Rs → acc.length + Rs.length ≤ 16777216 →
    lcL (tgT 2 (tgCons (tgN 1) (tgCons (tgN 2) tgNil))) mYes (m2 peq (mL plen (mCons (mVar 2) mNil)) (m2 (padd false) (mVar 1) (mC (.int 1)))) [some T, none, none] c (enumD k (Rs.map rowD)) acc S = .ok (acc ++ List.replicate Rs.length (.bl true)) S
  | [], k, acc, _, _ => by simp [enumD, lcL, hc]
  | r :: Rs, k, acc, h, hz => by
    have hz' : acc.length + (Rs.length + 1) ≤ 16777216 := by simpa using hz
    have e1 : tgT 2 (tgCons (tgN 1) (tgCons (tgN 2) tgNil)) (.tup [.int (k : Int), rowD r]) [some T, none, none] S = .ok [some T, some (.int (k : Int)), some (rowD r)] S := rfl
    have e3 : m2 peq (mL plen (mCons (mVar 2) mNil)) (m2 (padd false) (mVar 1) (mC (.int 1))) [some T, some (.int (k : Int)), some (rowD r)] S = .ok (.bl true) S := by
      have hl := intsD_len r
      simp [mDef, endS, startD, sCons, seqS, sRet, sRetN, sSet, sIf, sNil, sAsg, sExpr, sPar, par2, bindS, noEx, ML.R.bind, m1, m2, mT, mTr, asB, asTr, mC, mVar, asV_non, asV_bl, asV_int, asV_str, asV_tup, asV_lst, asV_rol, asV_ref, mL, mCons, mNil, mIf, mCall, tgN, tgSub, tgT, tgCons, tgNil, setAt, tNotM, tAndM, tOrM, mAnd, mOr, pnot, pix, pcmp, padd, psub, pmul, pfdiv, pmod, pint, plen, ptup, pisN, pnotN, seqOf, pneg, mSl, oNone, oSome, asI, mLc, mSrc, asSrc, drawn, mYes, evWipe, mkL, plst, rowD, peq, hl, h.1]
    show lcL _ _ _ _ c (.tup [.int (k : Int), rowD r] :: enumD (k + 1) (Rs.map rowD)) acc S = _
    unfold lcL
    rw [if_pos hc, e1, bind_ok]
    show ((R.ok true S).bind fun b S3 => _) = _
    simp only [bind_ok, if_true, reduceIte]
    rw [e3, bind_ok, if_pos (by omega), lc_enum T c S hc Rs (k + 1) (acc ++ [D.bl true]) h.2.2 (by rw [List.length_append, List.length_singleton]; omega), List.append_assoc]
    rfl
theorem sizes (Rs : List (List Nat)) (S : Sto) (h : okR 0 Rs) (hl : Rs.length ≤ 7) : m_sizes_are_right [.tup (Rs.map rowD)] S = .ok (.bl (decide (1 ≤ Rs.length))) S := by
  have q := lc_enum (.tup (Rs.map rowD)) ⟨enumD 0 (Rs.map rowD), []⟩ S rfl Rs 0 [] h (by simp; omega)
  have hz : mEnum (mCons (mVar 0) mNil) [some (.tup (Rs.map rowD)), none, none] S = .ok ⟨enumD 0 (Rs.map rowD), []⟩ S := rfl
  have e1 : (Rs.length : Int) < 8 := by omega
  unfold m_sizes_are_right b_sizes_are_right
  rcases Nat.eq_zero_or_pos Rs.length with h0 | h0
  · have e2 : ¬ (1 : Int) ≤ (Rs.length : Int) := by omega
    simp [mDef, endS, startD, sCons, seqS, sRet, sRetN, sSet, sIf, sNil, sAsg, sExpr, sPar, par2, bindS, noEx, ML.R.bind, m1, m2, mT, mTr, asB, asTr, mC, mVar, asV_non, asV_bl, asV_int, asV_str, asV_tup, asV_lst, asV_rol, asV_ref, mL, mCons, mNil, mIf, mCall, tgN, tgSub, tgT, tgCons, tgNil, setAt, tNotM, tAndM, tOrM, mAnd, mOr, pnot, pix, pcmp, padd, psub, pmul, pfdiv, pmod, pint, plen, ptup, pisN, pnotN, seqOf, pneg, mSl, oNone, oSome, asI, mLc, mSrc, asSrc, drawn, mYes, evWipe, mkL, plst, mChain, chain2, e1, e2, h0]
  · have e2 : (1 : Int) ≤ (Rs.length : Int) := by omega
    have e3 : 0 < Rs.length := h0
    simp [mDef, endS, startD, sCons, seqS, sRet, sRetN, sSet, sIf, sNil, sAsg, sExpr, sPar, par2, bindS, noEx, ML.R.bind, m1, m2, mT, mTr, asB, asTr, mC, mVar, asV_non, asV_bl, asV_int, asV_str, asV_tup, asV_lst, asV_rol, asV_ref, mL, mCons, mNil, mIf, mCall, tgN, tgSub, tgT, tgCons, tgNil, setAt, tNotM, tAndM, tOrM, mAnd, mOr, pnot, pix, pcmp, padd, psub, pmul, pfdiv, pmod, pint, plen, ptup, pisN, pnotN, seqOf, pneg, mSl, oNone, oSome, asI, mLc, mSrc, asSrc, drawn, mYes, evWipe, mkL, plst, mChain, chain2, e1, e2, hz, q, pall, asBs_true]
    omega
theorem numbers (T : D) (S : Sto) : ∀ (Rs : List (List Nat)) (k : Nat) (c : Src) (x y : Option D), c.live S = true → okR k Rs → Rs.length + k ≤ 1000 → ∃ ev, forL (tgN 1) numBody c (Rs.map rowD) [some T, x, y] S = .ok .nx ev S
  | [], k, c, x, y, hc, _, _ => ⟨_, by rw [List.map_nil]; unfold forL; rw [if_pos hc]⟩
  | r :: Rs, k, c, x, y, hc, h, hk => by
    obtain ⟨ev, he⟩ := numbers T S Rs (k + 1) c (some (rowD r)) y hc h.2.2 (by rw [List.length_cons] at hk; omega)
    refine ⟨ev, ?_⟩
    have q : lcL (tgN 2) mYes (mAnd (mCall 1 m_is_count (mCons (mVar 2) (mNil))) (m2 (pcmp fun i j => decide (i ≤ j)) (mVar 2) (mC (.int 999)))) [some T, some (rowD r), none] ⟨intsD r, []⟩ (intsD r) [] S = .ok (List.replicate r.length (.bl true)) S := by
      refine (lc_mapL (fun (n : Nat) => D.int (n : Int)) (fun _ => D.bl true) rfl r [] (fun n hn => ⟨[some T, some (rowD r), some (.int (n : Int))], rfl, rfl, ?_⟩) (by have := h.1; simp at hk ⊢; omega)).trans (by rw [List.nil_append, map_const])
      have e := is_count_nat n S
      have e2 : (n : Int) ≤ 999 := by have := h.2.1 n hn; omega
      simp [mDef, endS, startD, sCons, seqS, sRet, sRetN, sSet, sIf, sNil, sAsg, sExpr, sPar, par2, bindS, noEx, ML.R.bind, m1, m2, mT, mTr, asB, asTr, mC, mVar, asV_non, asV_bl, asV_int, asV_str, asV_tup, asV_lst, asV_rol, asV_ref, mL, mCons, mNil, mIf, mCall, tgN, tgSub, tgT, tgCons, tgNil, setAt, tNotM, tAndM, tOrM, mAnd, mOr, pnot, pix, pcmp, padd, psub, pmul, pfdiv, pmod, pint, plen, ptup, pisN, pnotN, seqOf, pneg, mSl, oNone, oSome, asI, mLc, mSrc, asSrc, drawn, mYes, evWipe, mkL, plst, e, e2]
    have hd : drawn S (rowD r) = some ⟨intsD r, []⟩ := rfl
    have hb : numBody [some T, some (rowD r), y] S = .ok .nx [some T, some (rowD r), y] S := by
      unfold numBody
      unfold rowD at q ⊢
      simp [mDef, endS, startD, sCons, seqS, sRet, sRetN, sSet, sIf, sNil, sAsg, sExpr, sPar, par2, bindS, noEx, ML.R.bind, m1, m2, mT, mTr, asB, asTr, mC, mVar, asV_non, asV_bl, asV_int, asV_str, asV_tup, asV_lst, asV_rol, asV_ref, mL, mCons, mNil, mIf, mCall, tgN, tgSub, tgT, tgCons, tgNil, setAt, tNotM, tAndM, tOrM, mAnd, mOr, pnot, pix, pcmp, padd, psub, pmul, pfdiv, pmod, pint, plen, ptup, pisN, pnotN, seqOf, pneg, mSl, oNone, oSome, asI, mLc, mSrc, asSrc, drawn, mYes, evWipe, mkL, plst, hd, q, pall, asBs_true]
    show forL _ _ c (rowD r :: Rs.map rowD) [some T, x, y] S = _
    unfold forL
    rw [if_pos hc]
    show loopS (numBody [some T, some (rowD r), y] S) _ = _
    rw [hb]
    exact he
theorem flaw (Rs : List (List Nat)) (S : Sto) (h : okR 0 Rs) (hl : Rs.length ≤ 7) : m_flaw_of [tbl Rs] S = .ok (if 1 ≤ Rs.length then .non else .str "rows") S := by
  have q : lcL (tgN 1) mYes (mL pisi (mCons (mVar 1) (mCons (mC (.ty "tuple")) (mNil)))) [some (tbl Rs), none, none] ⟨Rs.map rowD, []⟩ (Rs.map rowD) [] S = .ok (List.replicate Rs.length (.bl true)) S := by
    refine (lc_mapL rowD (fun _ => D.bl true) rfl Rs [] (fun r hr => ⟨[some (tbl Rs), some (rowD r), none], rfl, rfl, rfl⟩) (by simp; omega)).trans (by rw [List.nil_append, map_const])
  have hs := sizes Rs S h hl
  obtain ⟨ev, hn⟩ := numbers (tbl Rs) S Rs 0 ⟨Rs.map rowD, []⟩ none none rfl h (by omega)
  have e1 : ∀ S, pix (tbl Rs) (.int 0) S = .ok (.str "table") S := fun _ => rfl
  have e2 : ∀ S, pix (tbl Rs) (.int 1) S = .ok (.tup (Rs.map rowD)) S := fun _ => rfl
  have e3 : ∀ S, pisi [tbl Rs, .ty "tuple"] S = .ok (.bl true) S := fun _ => rfl
  have e4 : ∀ S, plen [tbl Rs] S = .ok (.int 2) S := fun _ => rfl
  have e5 : ∀ S, asVal (some (some (tbl Rs))) S = .ok (tbl Rs) S := fun _ => rfl
  unfold numBody at hn
  simp only [List.map] at hn
  unfold m_flaw_of b_flaw_of
  rcases Nat.eq_zero_or_pos Rs.length with h0 | h0
  · have e : Rs = [] := List.length_eq_zero_iff.mp h0
    subst e
    rfl
  · have h1 : 1 ≤ Rs.length := h0
    simp [mDef, endS, startD, sCons, seqS, sIf, sNil, sRet, bindS, R.bind, mT, mTr, asB, asTr, mC, mVar, e5, mL, mCons, mNil, tAndM, tOrM, tNotM, mLc, mSrc, asSrc, drawn, noEx, mkL, evWipe, e1, e2, e3, e4, isi_str, isi_tup, pne, m2, q, pall, asBs_true, seqOf, mCall, hs, h1, sFor, hn]
end Mk93


set_option Elab.async false
set_option linter.all false
set_option maxRecDepth 100000
set_option autoImplicit false
set_option maxHeartbeats 4000000
namespace Mk93
open ML PySem PySem.Spec PyProof.Rows L2 TL
theorem table_is_right (Rs : List (List Nat)) (S : Sto) (h : okR 0 Rs) (hl : Rs.length ≤ 7) : m_table_is_right [tbl Rs] S = .ok (.bl (decide (1 ≤ Rs.length))) S := by
  have hf := flaw Rs S h hl
  have e5 : asVal (some (some (tbl Rs))) S = .ok (tbl Rs) S := rfl
  unfold m_table_is_right b_table_is_right
  by_cases h1 : 1 ≤ Rs.length
  · simp [mDef, endS, startD, sRet, bindS, R.bind, m1, mVar, e5, mCons, mNil, mCall, hf, h1, pisN]
  · simp [mDef, endS, startD, sRet, bindS, R.bind, m1, mVar, e5, mCons, mNil, mCall, hf, h1, pisN]
theorem check_table (Rs : List (List Nat)) (S : Sto) (h : okR 0 Rs) (h1 : 1 ≤ Rs.length) (hl : Rs.length ≤ 7) : m_check_table [tbl Rs] S = .ok .non S := by
  have hf := table_is_right Rs S h hl
  have e5 : asVal (some (some (tbl Rs))) S = .ok (tbl Rs) S := rfl
  unfold m_check_table b_check_table
  simp [mDef, endS, startD, sIf, sNil, bindS, R.bind, mVar, e5, mCons, mNil, mCall, hf, h1, tNotM, mTr, asTr]
theorem okR_get : ∀ {Rs : List (List Nat)} {k : Nat}, okR k Rs → ∀ r ∈ Rs, (∀ n ∈ r, n < 1000) ∧ r.length ≤ k + Rs.length
  | r :: Rs, k, h, x, hx => by
    rcases List.mem_cons.mp hx with rfl | hx
    · exact ⟨h.2.1, by rw [List.length_cons]; have := h.1; omega⟩
    · have q := okR_get h.2.2 x hx
      exact ⟨q.1, by rw [List.length_cons]; have := q.2; omega⟩
theorem c10 : (Str.ofString "\n").length = 1 := by decide +kernel
theorem c5 : (Str.ofString "table").length = 5 := by decide +kernel
theorem c4 : (Str.ofString "row ").length = 4 := by decide +kernel
theorem c0 : (Str.ofString "").length = 0 := by decide +kernel
theorem c6 : (Str.ofString "table\n").length = 6 := by decide +kernel
theorem len_app (x y : Str) : (x ++ y).length = x.length + y.length := by rw [len_tl, tl_append, List.length_append, ← len_tl, ← len_tl]
theorem lineW_len (r : List Nat) (h : ∀ n ∈ r, n < 1000) (hl : r.length ≤ 7) : (lineW r).length ≤ 32 := by
  unfold lineW
  rw [len_app, c4]
  have := rowW_len r h
  omega
theorem row_lines (T : D) (Rs : List (List Nat)) (S : Sto) (h : okR 0 Rs) (hl : Rs.length ≤ 7) :
    lcL (tgN 2) mYes (m2 (padd false) (mC (.str "row ")) (mCall 1 m_row_word (mCons (mVar 2) (mNil)))) [some T, none, none] ⟨Rs.map rowD, []⟩ (Rs.map rowD) [] S = .ok (Rs.map fun r => D.str (lineW r)) S := by
  refine (lc_mapL rowD (fun r => D.str (lineW r)) rfl Rs [] (fun r hr => ⟨[some T, none, some (rowD r)], rfl, rfl, ?_⟩) (by simp; omega)).trans (by rw [List.nil_append])
  have q := okR_get h r hr
  have e := row_word r S q.1 (by omega)
  have e2 := rowW_len r q.1
  have e3 : 4 + (rowW r).length ≤ 16777216 := by omega
  have e5 : asVal (some (some (rowD r))) S = .ok (rowD r) S := rfl
  simp [m2, mC, mCall, mCons, mVar, e5, mNil, R.bind, e, padd, c4, e3, lineW]
def linesW (Rs : List (List Nat)) : List Str := Str.ofString "table" :: Rs.map lineW
theorem linesW_len (Rs : List (List Nat)) (h : okR 0 Rs) (hl : Rs.length ≤ 7) : ∀ x ∈ linesW Rs, x.length ≤ 32 := by
  intro x hx
  rcases List.mem_cons.mp hx with rfl | hx
  · rw [c5]; decide
  · obtain ⟨r, hr, rfl⟩ := List.mem_map.mp hx
    have q := okR_get h r hr
    exact lineW_len r q.1 (by omega)
theorem table_text (Rs : List (List Nat)) (S : Sto) (h : okR 0 Rs) (h1 : 1 ≤ Rs.length) (hl : Rs.length ≤ 7) : m_table_text [tbl Rs] S = .ok (.str (textW Rs)) S := by
  have hc := check_table Rs S h h1 hl
  have q1 := row_lines (tbl Rs) Rs S h hl
  have e2 : ∀ S, pix (tbl Rs) (.int 1) S = .ok (.tup (Rs.map rowD)) S := fun _ => rfl
  have e5 : ∀ S, asVal (some (some (tbl Rs))) S = .ok (tbl Rs) S := fun _ => rfl
  have ll : (linesW Rs).length = Rs.length + 1 := by unfold linesW; rw [List.length_cons, List.length_map]
  have e6 : D.str (Str.ofString "table") :: Rs.map (fun r => D.str (lineW r)) = (linesW Rs).map D.str := by unfold linesW; rw [List.map_cons, List.map_map]; rfl
  have hz : 1 + Rs.length ≤ 16777216 := by omega
  have q2 : lcL (tgN 1) mYes (m2 (padd false) (mVar 1) (mC (.str "\n"))) [some (tbl Rs), none, none] ⟨(linesW Rs).map D.str, []⟩ ((linesW Rs).map D.str) [] S = .ok ((linesW Rs).map fun x => D.str (x ++ Str.ofString "\n")) S := by
    refine (lc_mapL D.str (fun x => D.str (x ++ Str.ofString "\n")) rfl (linesW Rs) [] (fun x hx => ⟨[some (tbl Rs), some (.str x), none], rfl, rfl, ?_⟩) (by simp [ll]; omega)).trans (by rw [List.nil_append])
    have e := linesW_len Rs h hl x hx
    have e3 : x.length + 1 ≤ 16777216 := by omega
    have e3 : x.length ≤ 16777215 := by omega
    simp [m2, mC, mVar, asVal, R.bind, padd, c10, e3]
  have hj := pjoin_ok (Str.ofString "") (fun x => x ++ Str.ofString "\n") (linesW Rs) S 33 (fun x hx => by rw [len_app, c10]; have := linesW_len Rs h hl x hx; omega) (by rw [c0, ll]; omega)
  unfold m_table_text b_table_text
  simp [mDef, endS, startD, sCons, seqS, sExpr, sRet, bindS, R.bind, mC, mVar, e5, mCons, mNil, mCall, hc, mMe, isStr, mLc, mSrc, asSrc, m2, e2, mL, plst, mkL, drawn, noEx, evWipe, q1, padd, seqM, hz, e6, q2, hj, textW]
  unfold linesW
  rw [List.map_cons, List.map_map]

theorem tbl_nl : Str.ofString "table\n" = Str.ofString "table" ++ Str.ofString "\n" := by decide +kernel
theorem law_text (Rs : List (List Nat)) (S : Sto) (h : okR 0 Rs) (hl : Rs.length ≤ 7) : m__law_text [tbl Rs] S = .ok (.str (textW Rs)) S := by
  have e2 : ∀ S, pix (tbl Rs) (.int 1) S = .ok (.tup (Rs.map rowD)) S := fun _ => rfl
  have e5 : ∀ S, asVal (some (some (tbl Rs))) S = .ok (tbl Rs) S := fun _ => rfl
  have c44 : (Str.ofString ",").length = 1 := by decide +kernel
  have inner : ∀ r ∈ Rs, lcL (tgN 2) mYes (mL pstr (mCons (mVar 2) mNil)) [some (tbl Rs), some (rowD r), none] ⟨intsD r, []⟩ (intsD r) [] S = .ok (r.map fun n => D.str (NW n)) S := by
    intro r hr
    have q := okR_get h r hr
    refine (lc_mapL (fun (n : Nat) => D.int (n : Int)) (fun n => D.str (NW n)) rfl r [] (fun n hn => ⟨[some (tbl Rs), some (rowD r), some (.int (n : Int))], rfl, rfl, ?_⟩) (by simp; omega)).trans (by rw [List.nil_append])
    have e := pstr_nat (q.1 n hn) S
    simp [mL, mCons, mVar, asVal, mNil, R.bind, e]
  have q1 : lcL (tgN 1) mYes (m2 (padd false) (m2 (padd false) (mC (.str "row ")) (mMe isStr pjoin (mC (.str ",")) (mCons (mLc false [2] id (mSrc (mVar 1)) (tgN 2) (mYes) (mL pstr (mCons (mVar 2) (mNil)))) (mNil)))) (mC (.str "\n"))) [some (tbl Rs), none, none] ⟨Rs.map rowD, []⟩ (Rs.map rowD) [] S = .ok (Rs.map fun r => D.str (lineW r ++ Str.ofString "\n")) S := by
    refine (lc_mapL rowD (fun r => D.str (lineW r ++ Str.ofString "\n")) rfl Rs [] (fun r hr => ⟨[some (tbl Rs), some (rowD r), none], rfl, rfl, ?_⟩) (by simp; omega)).trans (by rw [List.nil_append])
    have q := okR_get h r hr
    have hj := pjoin_ok (Str.ofString ",") NW r S 3 (fun n hn => NW_len (q.1 n hn)) (by rw [c44]; omega)
    have e1 := rowW_len r q.1
    have e3 : 4 + (rowW r).length ≤ 16777216 := by omega
    have e4 := lineW_len r q.1 (by omega)
    have e4 : (lineW r).length + 1 ≤ 16777216 := by omega
    have e4 : (lineW r).length ≤ 16777215 := by omega
    have e6 : asVal (some (some (rowD r))) S = .ok (rowD r) S := rfl
    have e7 : drawn S (rowD r) = some ⟨intsD r, []⟩ := rfl
    have hi := inner r hr
    have e8 : Str.ofString "row " ++ rowW r = lineW r := rfl
    have e9 : Txt.join (Str.ofString ",") (r.map NW) = rowW r := rfl
    simp [m2, mC, mMe, isStr, mCons, mLc, mSrc, asSrc, mVar, e6, e7, hi, mNil, noEx, mkL, evWipe, R.bind, hj, padd, c4, c10, e3, e4, e8, e9]
  have hz : 1 + Rs.length ≤ 16777216 := by omega
  have e6 : D.str (Str.ofString "table\n") :: Rs.map (fun r => D.str (lineW r ++ Str.ofString "\n")) = (linesW Rs).map fun x => D.str (x ++ Str.ofString "\n") := by unfold linesW; rw [List.map_cons, List.map_map, tbl_nl]; rfl
  have ll : (linesW Rs).length = Rs.length + 1 := by unfold linesW; rw [List.length_cons, List.length_map]
  have hj := pjoin_ok (Str.ofString "") (fun x => x ++ Str.ofString "\n") (linesW Rs) S 33 (fun x hx => by rw [len_app, c10]; have := linesW_len Rs h hl x hx; omega) (by rw [c0, ll]; omega)
  unfold m__law_text b__law_text
  simp [mDef, endS, startD, sRet, bindS, R.bind, mC, mVar, e5, mCons, mNil, mMe, isStr, mLc, mSrc, asSrc, m2, e2, mL, plst, mkL, drawn, noEx, evWipe, padd, seqM, hz, q1, e6, hj, textW]
  unfold linesW
  rw [List.map_cons, List.map_map]
end Mk93


set_option Elab.async false
set_option linter.all false
set_option maxRecDepth 100000
set_option autoImplicit false
set_option maxHeartbeats 4000000
namespace Mk93
open ML PySem PySem.Spec PyProof.Rows L2 TL
theorem tl_head4 (w : Str) : tl (cutS w none (some 4)) = (tl w).take 4 := by
  unfold cutS
  rw [tl_mk]
  have h := HT.sIx_nat w.length w.length 4
  have h : HT.sIx w.length w.length (some 4) = min 4 w.length := h
  rw [h, HT.sIx_none, List.drop_zero, Nat.sub_zero, len_tl]
  rcases Nat.le_total 4 (tl w).length with h | h
  · rw [Nat.min_eq_left h]
  · rw [Nat.min_eq_right h, List.take_of_length_le (Nat.le_refl _), List.take_of_length_le h]
theorem tl_tail4 (w : Str) : tl (cutS w (some 4) none) = (tl w).drop 4 := by
  unfold cutS
  rw [tl_mk]
  have h := HT.sIx_nat w.length 0 4
  have h : HT.sIx w.length 0 (some 4) = min 4 w.length := h
  rw [h, HT.sIx_none, len_tl]
  rcases Nat.le_total 4 (tl w).length with h | h
  · rw [Nat.min_eq_left h, List.take_of_length_le]
    rw [List.length_drop]
    exact Nat.le_refl _
  · rw [Nat.min_eq_right h, Nat.sub_self, List.take_zero, List.drop_of_length_le h]
theorem cut4 (w : Str) : cutS w none (some 4) ++ cutS w (some 4) none = w := by
  refine ext_tl ?_
  rw [tl_append, tl_head4, tl_tail4, List.take_append_drop]
theorem cut4_app (w : Str) : cutS (Str.ofString "row " ++ w) none (some 4) = Str.ofString "row " ∧ cutS (Str.ofString "row " ++ w) (some 4) none = w := by
  have e : (tl (Str.ofString "row ")).length = 4 := by decide +kernel
  constructor
  · refine ext_tl ?_
    rw [tl_head4, tl_append, List.take_append_of_le_length (by rw [e]; exact Nat.le_refl _), List.take_of_length_le (by rw [e]; exact Nat.le_refl _)]
  · refine ext_tl ?_
    rw [tl_tail4, tl_append, List.drop_append_of_le_length (by rw [e]; exact Nat.le_refl _), List.drop_of_length_le (by rw [e]; exact Nat.le_refl _), List.nil_append]
/-! ### what a row's word tells -/
theorem allSome_NW : ∀ {ps : List Str} {r : List Nat}, allSome (ps.map fun p => cinV p.cps.toList) = some r → ps = r.map NW ∧ ∀ n ∈ r, n < 1000
  | [], r, h => by
    have e : r = [] := by simpa [allSome] using h.symm
    subst e
    exact ⟨rfl, fun n hn => by simp at hn⟩
  | p :: ps, r, h => by
    rw [List.map_cons] at h
    cases e : cinV p.cps.toList with
    | none => rw [e] at h; cases h
    | some n =>
      rw [e] at h
      have h : (allSome (ps.map fun p => cinV p.cps.toList)).map (n :: ·) = some r := h
      cases e2 : allSome (ps.map fun p => cinV p.cps.toList) with
      | none => rw [e2] at h; cases h
      | some r' =>
        rw [e2] at h
        cases h
        obtain ⟨q1, q2⟩ := allSome_NW e2
        obtain ⟨q3, q4⟩ := cin_num e
        refine ⟨?_, fun m hm => ?_⟩
        · rw [List.map_cons, ← q1]
          congr 1
          exact ext_tl (q4.trans (tl_num n).symm)
        · rcases List.mem_cons.mp hm with rfl | hm
          · exact q3
          · exact q2 m hm
theorem NW_allSome : ∀ {r : List Nat}, (∀ n ∈ r, n < 1000) → allSome ((r.map NW).map fun p => cinV p.cps.toList) = some r
  | [], _ => rfl
  | n :: r, h => by
    have e : cinV (NW n).cps.toList = some n := by
      rw [show (NW n).cps.toList = numL n from tl_num n]
      exact num_cin (h n List.mem_cons_self)
    rw [List.map_cons, List.map_cons, e]
    show (allSome ((r.map NW).map fun p => cinV p.cps.toList)).map (n :: ·) = _
    rw [NW_allSome fun m hm => h m (List.mem_cons_of_mem _ hm)]
    rfl
theorem rowV_some {w : Str} {r : List Nat} (h : rowV w = some r) : w = rowW r ∧ r ≠ [] ∧ ∀ n ∈ r, n < 1000 := by
  obtain ⟨h1, h2⟩ := allSome_NW h
  refine ⟨?_, fun e => ?_, h2⟩
  · unfold rowW
    rw [join_eq, ← h1]
    exact (StrLaws.join_split w _).symm
  · subst e
    have q : 1 ≤ (parts w ",").length := split_pos w _
    rw [h1] at q
    simp at q
theorem e_comma : tl (Str.ofString ",") = [44] := by decide +kernel
theorem e_nl : tl (Str.ofString "\n") = [10] := by decide +kernel
theorem NW_free {n s : Nat} (h : s < 48 ∨ 57 < s) : s ∉ tl (NW n) := by
  unfold NW
  rw [tl_num]
  exact numL_free h
theorem rowV_rowW {r : List Nat} (h0 : r ≠ []) (h : ∀ n ∈ r, n < 1000) : rowV (rowW r) = some r := by
  have e : parts (rowW r) "," = r.map NW := split_join e_comma (by decide +kernel) (fun e => h0 (List.map_eq_nil_iff.mp e)) fun p hp => by
    obtain ⟨n, hn, rfl⟩ := List.mem_map.mp hp
    exact NW_free (.inl (by decide))
  unfold rowV
  rw [e]
  exact NW_allSome h
/-! ### lines -/
def lineV (w : Str) (k : Nat) : Option (List Nat) := if cutS w none (some 4) = Str.ofString "row " ∧ k ≤ 7 then (match rowV (cutS w (some 4) none) with
  | some r => if r.length = k then some r else none
  | none => none) else none
theorem lineV_some {w : Str} {k : Nat} {r : List Nat} (h : lineV w k = some r) : w = lineW r ∧ r.length = k ∧ k ≤ 7 ∧ r ≠ [] ∧ ∀ n ∈ r, n < 1000 := by
  unfold lineV at h
  split at h
  · rename_i h1
    split at h
    · rename_i r' hr
      split at h
      · rename_i hl
        cases h
        obtain ⟨q1, q2, q3⟩ := rowV_some hr
        refine ⟨?_, hl, h1.2, q2, q3⟩
        unfold lineW
        rw [← q1, ← h1.1]
        exact (cut4 w).symm
      · cases h
    · cases h
  · cases h
theorem lineV_lineW {r : List Nat} (h0 : r ≠ []) (h : ∀ n ∈ r, n < 1000) (h7 : r.length ≤ 7) : lineV (lineW r) r.length = some r := by
  unfold lineV lineW
  obtain ⟨e1, e2⟩ := cut4_app (rowW r)
  rw [e1, e2, rowV_rowW h0 h, if_pos ⟨rfl, h7⟩]
  exact if_pos rfl
theorem line_row (w : Str) (k : Nat) (S : Sto) (hz : w.length ≤ 1000000) : m_line_row [.str w, .int (k : Int)] S = .ok (rowO (lineV w k)) S := by
  have hz2 : w.length ≤ 16777216 := by omega
  have hr := row_in (cutS w (some 4) none) S (Nat.le_trans (cutS_length _ _ _) hz)
  unfold m_line_row b_line_row lineV
  by_cases h1 : cutS w none (some 4) = Str.ofString "row "
  · by_cases h2 : k ≤ 7
    · have h3 : ¬ (7 : Int) < (k : Int) := by omega
      cases e : rowV (cutS w (some 4) none) with
      | none =>
        rw [e] at hr
        simp [rowO] at hr
        simp [mDef, endS, startD, sCons, seqS, sRet, sRetN, sSet, sIf, sNil, sAsg, sExpr, sPar, par2, bindS, noEx, ML.R.bind, m1, m2, mT, mTr, asB, asTr, mC, mVar, asV_non, asV_bl, asV_int, asV_str, asV_tup, asV_lst, asV_rol, asV_ref, mL, mCons, mNil, mIf, mCall, tgN, tgSub, tgT, tgCons, tgNil, setAt, tNotM, tAndM, tOrM, mAnd, mOr, pnot, pix, pcmp, padd, psub, pmul, pfdiv, pmod, pint, plen, ptup, pisN, pnotN, seqOf, pneg, mSl, oNone, oSome, asI, mLc, mSrc, asSrc, drawn, mYes, evWipe, mkL, plst, pslice, pne, h1, h2, h3, hr, rowO, hz2]
      | some r =>
        rw [e] at hr
        simp [rowO] at hr
        have e1 := intsD_len r
        by_cases h4 : r.length = k
        · simp [mDef, endS, startD, sCons, seqS, sRet, sRetN, sSet, sIf, sNil, sAsg, sExpr, sPar, par2, bindS, noEx, ML.R.bind, m1, m2, mT, mTr, asB, asTr, mC, mVar, asV_non, asV_bl, asV_int, asV_str, asV_tup, asV_lst, asV_rol, asV_ref, mL, mCons, mNil, mIf, mCall, tgN, tgSub, tgT, tgCons, tgNil, setAt, tNotM, tAndM, tOrM, mAnd, mOr, pnot, pix, pcmp, padd, psub, pmul, pfdiv, pmod, pint, plen, ptup, pisN, pnotN, seqOf, pneg, mSl, oNone, oSome, asI, mLc, mSrc, asSrc, drawn, mYes, evWipe, mkL, plst, pslice, pne, peq, h1, h2, h3, hr, rowO, hz2, e1, h4]
        · have h5 : ¬ (r.length : Int) = (k : Int) := by omega
          simp [mDef, endS, startD, sCons, seqS, sRet, sRetN, sSet, sIf, sNil, sAsg, sExpr, sPar, par2, bindS, noEx, ML.R.bind, m1, m2, mT, mTr, asB, asTr, mC, mVar, asV_non, asV_bl, asV_int, asV_str, asV_tup, asV_lst, asV_rol, asV_ref, mL, mCons, mNil, mIf, mCall, tgN, tgSub, tgT, tgCons, tgNil, setAt, tNotM, tAndM, tOrM, mAnd, mOr, pnot, pix, pcmp, padd, psub, pmul, pfdiv, pmod, pint, plen, ptup, pisN, pnotN, seqOf, pneg, mSl, oNone, oSome, asI, mLc, mSrc, asSrc, drawn, mYes, evWipe, mkL, plst, pslice, pne, peq, h1, h2, h3, hr, rowO, hz2, e1, h4, h5]
    · have h3 : (7 : Int) < (k : Int) := by omega
      simp [mDef, endS, startD, sCons, seqS, sRet, sRetN, sSet, sIf, sNil, sAsg, sExpr, sPar, par2, bindS, noEx, ML.R.bind, m1, m2, mT, mTr, asB, asTr, mC, mVar, asV_non, asV_bl, asV_int, asV_str, asV_tup, asV_lst, asV_rol, asV_ref, mL, mCons, mNil, mIf, mCall, tgN, tgSub, tgT, tgCons, tgNil, setAt, tNotM, tAndM, tOrM, mAnd, mOr, pnot, pix, pcmp, padd, psub, pmul, pfdiv, pmod, pint, plen, ptup, pisN, pnotN, seqOf, pneg, mSl, oNone, oSome, asI, mLc, mSrc, asSrc, drawn, mYes, evWipe, mkL, plst, pslice, pne, h1, h2, h3, rowO, hz2]
  · simp [mDef, endS, startD, sCons, seqS, sRet, sRetN, sSet, sIf, sNil, sAsg, sExpr, sPar, par2, bindS, noEx, ML.R.bind, m1, m2, mT, mTr, asB, asTr, mC, mVar, asV_non, asV_bl, asV_int, asV_str, asV_tup, asV_lst, asV_rol, asV_ref, mL, mCons, mNil, mIf, mCall, tgN, tgSub, tgT, tgCons, tgNil, setAt, tNotM, tAndM, tOrM, mAnd, mOr, pnot, pix, pcmp, padd, psub, pmul, pfdiv, pmod, pint, plen, ptup, pisN, pnotN, seqOf, pneg, mSl, oNone, oSome, asI, mLc, mSrc, asSrc, drawn, mYes, evWipe, mkL, plst, pslice, pne, h1, rowO, hz2]
end Mk93


set_option Elab.async false
set_option linter.all false
set_option maxRecDepth 100000
set_option autoImplicit false
set_option maxHeartbeats 4000000
namespace Mk93
open ML PySem PySem.Spec PyProof.Rows L2 TL
/-- the first place from i on, of n, at which p holds -/
def firstFrom (p : Nat → Bool) : Nat → Nat → Option Nat
  | _, 0 => none
  | i, n + 1 => if p i = true then some i else firstFrom p (i + 1) n
theorem firstFrom_none {p : Nat → Bool} : ∀ {n i : Nat}, firstFrom p i n = none → ∀ j, i ≤ j → j < i + n → p j = false
  | 0, i, _, j, h1, h2 => by omega
  | n + 1, i, h, j, h1, h2 => by
    unfold firstFrom at h
    split at h
    · cases h
    · rename_i hp
      rcases Nat.lt_or_ge i j with q | q
      · exact firstFrom_none h j q (by omega)
      · have e : j = i := by omega
        subst e
        simpa using hp
/-- a loop that leaves with dd at the first place at which p holds -/
theorem for_first {tg : D → M Ev} {body : MS} {c : Src} (p : Nat → Bool) (dd : Nat → D) (I : Nat → Ev → Sto → Prop) (J : Sto → Prop) (hl : ∀ i ev S, I i ev S → c.live S = true) :
    ∀ (items : List D) (i : Nat) (ev : Ev) (S : Sto), (∀ j d, items[j]? = some d → ∀ ev S, I (i + j) ev S → ∃ ev2 S2, tg d ev S = .ok ev2 S2 ∧ (p (i + j) = true → ∃ ev3 S3, body ev2 S2 = .ok (.rt (dd (i + j))) ev3 S3 ∧ J S3) ∧
      (p (i + j) = false → ∃ ev3 S3, body ev2 S2 = .ok .nx ev3 S3 ∧ I (i + j + 1) ev3 S3)) → I i ev S →
    (∀ k, firstFrom p i items.length = some k → ∃ ev3 S3, forL tg body c items ev S = .ok (.rt (dd k)) ev3 S3 ∧ J S3) ∧ (firstFrom p i items.length = none → ∃ ev3 S3, forL tg body c items ev S = .ok .nx ev3 S3 ∧ I (i + items.length) ev3 S3)
  | [], i, ev, S, _, hI => ⟨(fun k h => by cases h), fun _ => ⟨ev, S, (by unfold forL; rw [if_pos (hl i ev S hI)]), hI⟩⟩
  | d :: ds, i, ev, S, h, hI => by
    obtain ⟨ev2, S2, e1, hy, hn⟩ := h 0 d rfl ev S hI
    have e0 : forL tg body c (d :: ds) ev S = loopS (body ev2 S2) (forL tg body c ds) := by
      show (if c.live S = true then _ else _) = _
      rw [if_pos (hl i ev S hI), e1]
      rfl
    cases hp : p i with
    | true =>
      obtain ⟨ev3, S3, e2, hJ⟩ := hy hp
      have f : firstFrom p i (d :: ds).length = some i := by
        show (if p i = true then some i else _) = _
        rw [if_pos hp]
      rw [f, e0, e2]
      exact ⟨fun k hk => by cases hk; exact ⟨ev3, S3, rfl, hJ⟩, fun z => by cases z⟩
    | false =>
      obtain ⟨ev3, S3, e2, hI3⟩ := hn hp
      have f : firstFrom p i (d :: ds).length = firstFrom p (i + 1) ds.length := by
        show (if p i = true then some i else _) = _
        rw [hp, if_neg Bool.false_ne_true]
      rw [f, e0, e2]
      have q := for_first p dd I J hl ds (i + 1) ev3 S3 (fun j d hd ev S hI => by
        have e : i + 1 + j = i + (j + 1) := by omega
        rw [e] at hI ⊢
        exact h (j + 1) d (by simpa using hd) ev S hI) hI3
      have e : i + 1 + ds.length = i + (d :: ds).length := by rw [List.length_cons]; omega
      rw [e] at q
      exact q
/-! ### read -/
def lnAt (ls : List Str) (i : Nat) : Str := ls.getD i (Str.ofString "")
def rowAt (ls : List Str) (j : Nat) : Option (List Nat) := lineV (lnAt ls (j + 1)) (j + 1)
def accOf (ls : List Str) (i : Nat) : List (List Nat) := (List.range i).map fun j => (rowAt ls j).getD []
def pBad (ls : List Str) (j : Nat) : Bool := (rowAt ls j).isNone
theorem okR_of : ∀ (Rs : List (List Nat)) (k : Nat), (∀ j r, Rs[j]? = some r → r.length = k + j + 1 ∧ ∀ n ∈ r, n < 1000) → okR k Rs
  | [], _, _ => trivial
  | r :: Rs, k, h => by
    have h0 := h 0 r rfl
    refine ⟨h0.1, h0.2, okR_of Rs (k + 1) fun j r' hj => ?_⟩
    have q := h (j + 1) r' (by simpa using hj)
    exact ⟨by rw [q.1]; omega, q.2⟩
theorem acc_ok {ls : List Str} {m : Nat} (h : ∀ j, j < m → pBad ls j = false) : okR 0 (accOf ls m) ∧ (accOf ls m).length = m ∧ m ≤ 7 ∧ ∀ j, j < m → ∃ r, (accOf ls m)[j]? = some r ∧ lnAt ls (j + 1) = lineW r ∧ r.length = j + 1 := by
  have key : ∀ j, j < m → ∃ r, rowAt ls j = some r ∧ (accOf ls m)[j]? = some r := fun j hj => by
    have q := h j hj
    unfold pBad at q
    cases e : rowAt ls j with
    | none => rw [e] at q; cases q
    | some r =>
      refine ⟨r, rfl, ?_⟩
      unfold accOf
      rw [List.getElem?_map, List.getElem?_range hj]
      simp [e]
  have len : (accOf ls m).length = m := by unfold accOf; rw [List.length_map, List.length_range]
  refine ⟨okR_of _ 0 fun j r hj => ?_, len, ?_, fun j hj => ?_⟩
  · have hjm : j < m := by rw [← len]; exact (List.getElem?_eq_some_iff.mp hj).1
    obtain ⟨r', e1, e2⟩ := key j hjm
    rw [hj] at e2
    cases e2
    obtain ⟨_, q2, _, _, q5⟩ := lineV_some e1
    exact ⟨by omega, q5⟩
  · rcases Nat.eq_zero_or_pos m with h0 | h0
    · omega
    · obtain ⟨r, e1, _⟩ := key (m - 1) (by omega)
      obtain ⟨_, _, q3, _, _⟩ := lineV_some e1
      omega
  · obtain ⟨r, e1, e2⟩ := key j hj
    obtain ⟨q1, q2, _, _, _⟩ := lineV_some e1
    exact ⟨r, e2, q1, q2⟩
def tblO : Option (List (List Nat)) → D
  | some R => tbl R
  | none => .non
def readV (ls : List Str) : Option (List (List Nat)) × Nat :=
  if ls.length < 2 ∨ lnAt ls 0 ≠ Str.ofString "table" then (none, 0) else
    match firstFrom (pBad ls) 0 (ls.length - 2) with
    | some i => (none, i + 1)
    | none => (if lnAt ls (ls.length - 1) = Str.ofString "" ∧ 1 ≤ ls.length - 2 then some (accOf ls (ls.length - 2)) else none, ls.length - 1)
theorem atD_ls {ls : List Str} {i : Nat} (h : i < ls.length) : atD (ls.map D.str) (i : Int) = some (.str (lnAt ls i)) := by
  unfold atD ixN
  rw [List.length_map, if_pos (by omega), if_pos (by omega)]
  show (ls.map D.str)[((i : Nat) : Int).toNat]? = _
  rw [Int.toNat_natCast, List.getElem?_map, List.getElem?_eq_getElem h]
  simp [lnAt, h]
theorem atD_last {ls : List Str} (h : 1 ≤ ls.length) : atD (ls.map D.str) (-1) = some (.str (lnAt ls (ls.length - 1))) := by
  have e := atD_ls (ls := ls) (i := ls.length - 1) (by omega)
  have q : ixN (ls.map D.str).length (-1) = ixN (ls.map D.str).length ((ls.length - 1 : Nat) : Int) := by
    unfold ixN
    rw [List.length_map, if_neg (by decide), if_pos (by omega), if_pos (by omega), if_pos (by omega)]
    congr 1
    omega
  unfold atD at e ⊢
  rw [q]
  exact e
theorem c10' : ((Str.ofString "\n").length == 0) = false := by decide +kernel
theorem part_len {v p : Str} {x : String} (h : p ∈ parts v x) : p.length ≤ v.length := part_short h
theorem lnAt_len {v : Str} {x : String} (i : Nat) : (lnAt (parts v x) i).length ≤ v.length := by
  by_cases h : i < (parts v x).length
  · have e : lnAt (parts v x) i = (parts v x)[i] := by simp [lnAt, h]
    rw [e]
    exact part_len (List.getElem_mem h)
  · have e : lnAt (parts v x) i = Str.ofString "" := by simp [lnAt, Nat.le_of_not_lt h]
    rw [e, c0]
    exact Nat.zero_le _
def readBody : MS := sCons (sSet 4 (mCall 2 m_line_row (mCons (m2 pix (mVar 1) (mVar 3)) (mCons (mVar 3) mNil)))) (sCons (sIf (mT (m1 pisN (mVar 4))) (sRet (mL ptup (mCons (mC D.non) (mCons (mVar 3) mNil)))) sNil) (sExpr (mMe isSeq pappend (mVar 2) (mCons (mVar 4) mNil))))
theorem acc_next (ls : List Str) (i : Nat) : accOf ls (i + 1) = accOf ls i ++ [(rowAt ls i).getD []] := by unfold accOf; rw [List.range_succ, List.map_append]; rfl
theorem rangeD_get {lo : Int} {n j : Nat} {d : D} (h : (rangeD lo n)[j]? = some d) : j < n ∧ d = .int (lo + (j : Int)) := by
  unfold rangeD at h
  rw [List.getElem?_map] at h
  rcases Nat.lt_or_ge j n with q | q
  · rw [List.getElem?_range q] at h
    cases h
    exact ⟨q, rfl⟩
  · rw [List.getElem?_eq_none (by rw [List.length_range]; exact q)] at h
    cases h
theorem rangeD_len (lo : Int) (n : Nat) : (rangeD lo n).length = n := by unfold rangeD; rw [List.length_map, List.length_range]
theorem read_loop (v : Str) (ls : List Str) (S : Sto) (n : Nat) (hn : n + 2 ≤ ls.length) (hb : ls.length ≤ 1000002) (hlen : ∀ i, (lnAt ls i).length ≤ 1000000) :
    (∀ k, firstFrom (pBad ls) 0 n = some k → ∃ ev3 S3, forL (tgN 3) readBody ⟨rangeD 1 n, []⟩ (rangeD 1 n) [some (.str v), some (.lst (ls.map D.str)), some (.ref S.length), none, none, none] (S ++ [.lst []]) = .ok (.rt (.tup [.non, .int ((k + 1 : Nat) : Int)])) ev3 S3 ∧ ∃ T, S3 = S ++ T) ∧
    (firstFrom (pBad ls) 0 n = none → ∃ ev3 S3, forL (tgN 3) readBody ⟨rangeD 1 n, []⟩ (rangeD 1 n) [some (.str v), some (.lst (ls.map D.str)), some (.ref S.length), none, none, none] (S ++ [.lst []]) = .ok .nx ev3 S3 ∧ ∃ x y, ev3 = [some (.str v), some (.lst (ls.map D.str)), some (.ref S.length), x, y, none] ∧ S3 = S ++ [.lst ((accOf ls n).map rowD)] ∧ n ≤ 1000000) := by
  have q := for_first (tg := tgN 3) (body := readBody) (c := ⟨rangeD 1 n, []⟩) (pBad ls) (fun k => .tup [.non, .int ((k + 1 : Nat) : Int)])
    (fun i ev S' => ∃ x y, ev = [some (.str v), some (.lst (ls.map D.str)), some (.ref S.length), x, y, none] ∧ S' = S ++ [.lst ((accOf ls i).map rowD)] ∧ i ≤ 1000000) (fun S' => ∃ T, S' = S ++ T) (fun _ _ _ _ => rfl) (rangeD 1 n) 0
    [some (.str v), some (.lst (ls.map D.str)), some (.ref S.length), none, none, none] (S ++ [.lst []]) (fun j d hd ev S' hI => ?_) ⟨none, none, rfl, rfl, by decide⟩
  · rw [rangeD_len, Nat.zero_add] at q
    exact q
  · obtain ⟨hj, rfl⟩ := rangeD_get hd
    rw [Nat.zero_add] at hI ⊢
    obtain ⟨x, y, rfl, rfl, hi⟩ := hI
    have hat := atD_ls (ls := ls) (i := j + 1) (by omega)
    have hcast : ((j + 1 : Nat) : Int) = 1 + (j : Int) := by omega
    rw [hcast] at hat
    have hr := line_row (lnAt ls (j + 1)) (j + 1) (S ++ [.lst ((accOf ls j).map rowD)]) (hlen _)
    rw [hcast] at hr
    have hget : (S ++ [Cell.lst ((accOf ls j).map rowD)])[S.length]? = some (.lst ((accOf ls j).map rowD)) := by rw [List.getElem?_append_right (Nat.le_refl _), Nat.sub_self]; rfl
    have hal : ((accOf ls j).map rowD).length < 16777216 := by unfold accOf; rw [List.length_map, List.length_map, List.length_range]; omega
    have hset : ∀ c : Cell, (S ++ [Cell.lst ((accOf ls j).map rowD)]).set S.length c = S ++ [c] := fun c => by rw [List.set_append, if_neg (Nat.lt_irrefl _), Nat.sub_self]; rfl
    generalize hS : S ++ [Cell.lst ((accOf ls j).map rowD)] = S1 at *
    refine ⟨[some (.str v), some (.lst (ls.map D.str)), some (.ref S.length), some (.int (1 + (j : Int))), y, none], S1, rfl, fun hp => ?_, fun hp => ?_⟩
    · have e : lineV (lnAt ls (j + 1)) (j + 1) = none := by
        unfold pBad rowAt at hp
        simpa using hp
      rw [e] at hr
      refine ⟨[some (.str v), some (.lst (ls.map D.str)), some (.ref S.length), some (.int (1 + (j : Int))), some .non, none], S1, ?_, [Cell.lst ((accOf ls j).map rowD)], hS.symm⟩
      unfold readBody
      rw [hcast]
      simp [mDef, endS, startD, sCons, seqS, sRet, sRetN, sSet, sIf, sNil, sAsg, sExpr, sPar, par2, bindS, noEx, ML.R.bind, m1, m2, mT, mTr, asB, asTr, mC, mVar, asV_non, asV_bl, asV_int, asV_str, asV_tup, asV_lst, asV_rol, asV_ref, mL, mCons, mNil, mIf, mCall, tgN, tgSub, tgT, tgCons, tgNil, setAt, tNotM, tAndM, tOrM, mAnd, mOr, pnot, pix, pcmp, padd, psub, pmul, pfdiv, pmod, pint, plen, ptup, pisN, pnotN, seqOf, pneg, mSl, oNone, oSome, asI, mLc, mSrc, asSrc, drawn, mYes, evWipe, mkL, plst, hat, hr, rowO]
    · have hp' : ∃ r, lineV (lnAt ls (j + 1)) (j + 1) = some r := by
        unfold pBad rowAt at hp
        cases e : lineV (lnAt ls (j + 1)) (j + 1) with
        | none => rw [e] at hp; cases hp
        | some r => exact ⟨r, rfl⟩
      obtain ⟨r, e⟩ := hp'
      rw [e] at hr
      refine ⟨[some (.str v), some (.lst (ls.map D.str)), some (.ref S.length), some (.int (1 + (j : Int))), some (rowD r), none], S ++ [.lst ((accOf ls (j + 1)).map rowD)], ?_, _, _, rfl, rfl, by omega⟩
      have er : (rowAt ls j).getD [] = r := by unfold rowAt; rw [e]; rfl
      rw [acc_next, er, List.map_append]
      have hr : m_line_row [D.str (lnAt ls (j + 1)), D.int (1 + ↑j)] S1 = R.ok (rowD r) S1 := hr
      have hseq : isSeq S1 (.ref S.length) = true := by
        unfold isSeq seqOf
        simp [hget]
      have hal2 : (accOf ls j).length < 16777216 := by rw [List.length_map] at hal; exact hal
      have hv : ∀ S', asVal (some (some (rowD r))) S' = .ok (rowD r) S' := fun _ => rfl
      have hpn : pisN (rowD r) S1 = .ok (.bl false) S1 := rfl
      have hsq : seqOf S1 (.lst (ls.map D.str)) = some (ls.map D.str) := rfl
      unfold readBody
      simp [hsq, sCons, seqS, sSet, sIf, sNil, sRet, sExpr, bindS, R.bind, mCall, mCons, mNil, m2, m1, mT, asB, mVar, asV_int, asV_lst, asV_ref, pix, hat, hr, hv, hpn, mMe, hseq, pappend, hget, hal2, hset]
theorem read_ok (v : Str) (S : Sto) (hz : v.length ≤ 1000000) : ∃ T, m_read [.str v] S = .ok (.tup [tblO (readV (parts v "\n")).1, .int ((readV (parts v "\n")).2 : Nat)]) (S ++ T) := by
  have hsp := split_len v "\n" c10
  have hpos : 1 ≤ (parts v "\n").length := split_pos v _
  have hlen := fun i => lnAt_len (v := v) (x := "\n") i
  have hs : Txt.split v (Str.ofString "\n") = parts v "\n" := rfl
  generalize hls : parts v "\n" = ls at *
  have hz2 : v.length ≤ 16777214 := by omega
  have a0 := atD_ls (ls := ls) (i := 0) (by omega)
  have a0 : atD (ls.map D.str) 0 = some (.str (lnAt ls 0)) := a0
  unfold readV
  by_cases h1 : ls.length < 2
  · have h1' : (ls.length : Int) < 2 := by omega
    refine ⟨[], ?_⟩
    rw [if_pos (.inl h1)]
    unfold m_read b_read
    simp [mDef, endS, startD, sCons, seqS, sRet, sRetN, sSet, sIf, sNil, sAsg, sExpr, sPar, par2, bindS, noEx, ML.R.bind, m1, m2, mT, mTr, asB, asTr, mC, mVar, asV_non, asV_bl, asV_int, asV_str, asV_tup, asV_lst, asV_rol, asV_ref, mL, mCons, mNil, mIf, mCall, tgN, tgSub, tgT, tgCons, tgNil, setAt, tNotM, tAndM, tOrM, mAnd, mOr, pnot, pix, pcmp, padd, psub, pmul, pfdiv, pmod, pint, plen, ptup, pisN, pnotN, seqOf, pneg, mSl, oNone, oSome, asI, mLc, mSrc, asSrc, drawn, mYes, evWipe, mkL, plst, mMe, isStr, psplit, c10', hz2, hs, h1', tblO]
  · have h1' : ¬ (ls.length : Int) < 2 := by omega
    by_cases h2 : lnAt ls 0 = Str.ofString "table"
    · rw [if_neg (by rintro (q | q); exact h1 q; exact q h2)]
      obtain ⟨L1, L2⟩ := read_loop v ls S (ls.length - 2) (by omega) (by omega) (fun i => Nat.le_trans (hlen i) hz)
      have hrg : mRange2 (mCons (mC (.int 1)) (mCons (m2 psub (mL plen (mCons (mVar 1) mNil)) (mC (.int 1))) mNil)) [some (.str v), some (.lst (ls.map D.str)), some (.ref S.length), none, none, none] (S ++ [.lst []]) = .ok ⟨rangeD 1 (ls.length - 2), []⟩ (S ++ [.lst []]) := by
        have e1 : ML.inR 1 ∧ ML.inR ((ls.length : Int) - 1) := by unfold ML.inR; omega
        have e2 : ((ls.length : Int) - 1 - 1).toNat = ls.length - 2 := by omega
        simp [mRange2, mCons, mC, m2, mL, mVar, asVal, mNil, R.bind, plen, seqOf, psub, asRange2, e1, e2]
      unfold readBody at L1 L2
      cases e : firstFrom (pBad ls) 0 (ls.length - 2) with
      | some k =>
        obtain ⟨ev3, S3, q, T, rfl⟩ := L1 k e
        refine ⟨T, ?_⟩
        unfold m_read b_read
        simp [mDef, endS, startD, sCons, seqS, sRet, sRetN, sSet, sIf, sNil, sAsg, sExpr, sPar, par2, bindS, noEx, ML.R.bind, m1, m2, mT, mTr, asB, asTr, mC, mVar, asV_non, asV_bl, asV_int, asV_str, asV_tup, asV_lst, asV_rol, asV_ref, mL, mCons, mNil, mIf, mCall, tgN, tgSub, tgT, tgCons, tgNil, setAt, tNotM, tAndM, tOrM, mAnd, mOr, pnot, pix, pcmp, padd, psub, pmul, pfdiv, pmod, pint, plen, ptup, pisN, pnotN, seqOf, pneg, mSl, oNone, oSome, asI, mLc, mSrc, asSrc, drawn, mYes, evWipe, mkL, plst, mMe, isStr, psplit, c10', hz2, hs, h1', tblO, a0, pne, h2, hrg, sFor, q]
      | none =>
        obtain ⟨ev3, S3, q, x, y, rfl, rfl, hn⟩ := L2 e
        refine ⟨[.lst ((accOf ls (ls.length - 2)).map rowD)], ?_⟩
        have hacc := acc_ok (m := ls.length - 2) (fun j hj => firstFrom_none e j (Nat.zero_le _) (by omega))
        have hget : (S ++ [Cell.lst ((accOf ls (ls.length - 2)).map rowD)])[S.length]? = some (.lst ((accOf ls (ls.length - 2)).map rowD)) := by rw [List.getElem?_append_right (Nat.le_refl _), Nat.sub_self]; rfl
        have hlast := atD_last (ls := ls) (by omega)
        have htr := table_is_right (accOf ls (ls.length - 2)) (S ++ [Cell.lst ((accOf ls (ls.length - 2)).map rowD)]) hacc.1 (by rw [hacc.2.1]; exact hacc.2.2.1)
        rw [hacc.2.1] at htr
        have htv : ∀ S', asVal (some (some (tbl (accOf ls (ls.length - 2))))) S' = .ok (tbl (accOf ls (ls.length - 2))) S' := fun _ => rfl
        have htb : D.tup [.str "table", .tup ((accOf ls (ls.length - 2)).map rowD)] = tbl (accOf ls (ls.length - 2)) := rfl
        have hcast : ((ls.length - 1 : Nat) : Int) = (ls.length : Int) - 1 := by omega
        generalize accOf ls (ls.length - 2) = A at *
        generalize S ++ [Cell.lst (A.map rowD)] = S1 at *
        unfold m_read b_read
        by_cases h3 : lnAt ls (ls.length - 1) = Str.ofString ""
        · by_cases h4 : 1 ≤ ls.length - 2
          · simp [mDef, endS, startD, sCons, seqS, sRet, sRetN, sSet, sIf, sNil, sAsg, sExpr, sPar, par2, bindS, noEx, ML.R.bind, m1, m2, mT, mTr, asB, asTr, mC, mVar, asV_non, asV_bl, asV_int, asV_str, asV_tup, asV_lst, asV_rol, asV_ref, mL, mCons, mNil, mIf, mCall, tgN, tgSub, tgT, tgCons, tgNil, setAt, tNotM, tAndM, tOrM, mAnd, mOr, pnot, pix, pcmp, padd, psub, pmul, pfdiv, pmod, pint, plen, ptup, pisN, pnotN, seqOf, pneg, mSl, oNone, oSome, asI, mLc, mSrc, asSrc, drawn, mYes, evWipe, mkL, plst, mMe, isStr, psplit, c10', hz2, hs, h1', tblO, a0, pne, h2, hrg, sFor, q, ptuple, hget, hlast, peq, h3, htb, htv, htr, h4, hcast]
          · simp [mDef, endS, startD, sCons, seqS, sRet, sRetN, sSet, sIf, sNil, sAsg, sExpr, sPar, par2, bindS, noEx, ML.R.bind, m1, m2, mT, mTr, asB, asTr, mC, mVar, asV_non, asV_bl, asV_int, asV_str, asV_tup, asV_lst, asV_rol, asV_ref, mL, mCons, mNil, mIf, mCall, tgN, tgSub, tgT, tgCons, tgNil, setAt, tNotM, tAndM, tOrM, mAnd, mOr, pnot, pix, pcmp, padd, psub, pmul, pfdiv, pmod, pint, plen, ptup, pisN, pnotN, seqOf, pneg, mSl, oNone, oSome, asI, mLc, mSrc, asSrc, drawn, mYes, evWipe, mkL, plst, mMe, isStr, psplit, c10', hz2, hs, h1', tblO, a0, pne, h2, hrg, sFor, q, ptuple, hget, hlast, peq, h3, htb, htv, htr, h4, hcast]
        · simp [mDef, endS, startD, sCons, seqS, sRet, sRetN, sSet, sIf, sNil, sAsg, sExpr, sPar, par2, bindS, noEx, ML.R.bind, m1, m2, mT, mTr, asB, asTr, mC, mVar, asV_non, asV_bl, asV_int, asV_str, asV_tup, asV_lst, asV_rol, asV_ref, mL, mCons, mNil, mIf, mCall, tgN, tgSub, tgT, tgCons, tgNil, setAt, tNotM, tAndM, tOrM, mAnd, mOr, pnot, pix, pcmp, padd, psub, pmul, pfdiv, pmod, pint, plen, ptup, pisN, pnotN, seqOf, pneg, mSl, oNone, oSome, asI, mLc, mSrc, asSrc, drawn, mYes, evWipe, mkL, plst, mMe, isStr, psplit, c10', hz2, hs, h1', tblO, a0, pne, h2, hrg, sFor, q, ptuple, hget, hlast, peq, h3, htb, htv, htr, hcast]
    · refine ⟨[], ?_⟩
      rw [if_pos (.inr h2)]
      unfold m_read b_read
      simp [mDef, endS, startD, sCons, seqS, sRet, sRetN, sSet, sIf, sNil, sAsg, sExpr, sPar, par2, bindS, noEx, ML.R.bind, m1, m2, mT, mTr, asB, asTr, mC, mVar, asV_non, asV_bl, asV_int, asV_str, asV_tup, asV_lst, asV_rol, asV_ref, mL, mCons, mNil, mIf, mCall, tgN, tgSub, tgT, tgCons, tgNil, setAt, tNotM, tAndM, tOrM, mAnd, mOr, pnot, pix, pcmp, padd, psub, pmul, pfdiv, pmod, pint, plen, ptup, pisN, pnotN, seqOf, pneg, mSl, oNone, oSome, asI, mLc, mSrc, asSrc, drawn, mYes, evWipe, mkL, plst, mMe, isStr, psplit, c10', hz2, hs, h1', tblO, a0, pne, h2]
end Mk93


set_option Elab.async false
set_option linter.all false
set_option maxRecDepth 100000
set_option autoImplicit false
set_option maxHeartbeats 4000000
namespace Mk93
open ML PySem PySem.Spec PyProof.Rows L2 TL
/-! ### the law's own reading -/
def pB (ls : List Str) (i : Nat) : Bool := if i = 0 then !decide (lnAt ls 0 = Str.ofString "table") else (lineV (lnAt ls i) i).isNone
def badV (ls : List Str) : Option Nat :=
  match firstFrom (pB ls) 0 (ls.length - 1) with
  | some i => some (i + 1)
  | none => if lnAt ls (ls.length - 1) = Str.ofString "" ∧ 1 < ls.length - 1 then none else some ls.length
theorem firstFrom_shift {p q : Nat → Bool} (h : ∀ i, p (i + 1) = q i) : ∀ n i, firstFrom p (i + 1) n = (firstFrom q i n).map (· + 1)
  | 0, _ => rfl
  | n + 1, i => by
    unfold firstFrom
    rw [h i]
    split
    · rfl
    · exact firstFrom_shift h n (i + 1)
theorem readV_bad {ls : List Str} (h : ls.length < 2 ∨ lnAt ls 0 ≠ Str.ofString "table") : readV ls = (none, 0) := if_pos h
theorem readV_else {ls : List Str} (h : ¬ (ls.length < 2 ∨ lnAt ls 0 ≠ Str.ofString "table")) : readV ls = (match firstFrom (pBad ls) 0 (ls.length - 2) with
    | some i => (none, i + 1)
    | none => (if lnAt ls (ls.length - 1) = Str.ofString "" ∧ 1 ≤ ls.length - 2 then some (accOf ls (ls.length - 2)) else none, ls.length - 1)) := if_neg h
theorem badV_some {ls : List Str} {i : Nat} (h : firstFrom (pB ls) 0 (ls.length - 1) = some i) : badV ls = some (i + 1) := by unfold badV; rw [h]
theorem badV_none {ls : List Str} (h : firstFrom (pB ls) 0 (ls.length - 1) = none) : badV ls = if lnAt ls (ls.length - 1) = Str.ofString "" ∧ 1 < ls.length - 1 then none else some ls.length := by unfold badV; rw [h]
theorem bad_read (ls : List Str) (h : 1 ≤ ls.length) : badV ls = (match (readV ls).1 with | some _ => none | none => some ((readV ls).2 + 1)) := by
  by_cases h1 : ls.length < 2
  · have e : firstFrom (pB ls) 0 (ls.length - 1) = none := by rw [show ls.length - 1 = 0 by omega]; rfl
    rw [readV_bad (.inl h1), badV_none e, if_neg (fun q => by have := q.2; omega)]
    show some ls.length = some 1
    congr 1
    omega
  · by_cases h2 : lnAt ls 0 = Str.ofString "table"
    · have h12 : ¬ (ls.length < 2 ∨ lnAt ls 0 ≠ Str.ofString "table") := by rintro (q | q); exact h1 q; exact q h2
      have p0 : pB ls 0 = false := by unfold pB; simp [h2]
      have e1 : firstFrom (pB ls) 0 (ls.length - 1) = (firstFrom (pBad ls) 0 (ls.length - 2)).map (· + 1) := by
        have z : ls.length - 1 = (ls.length - 2) + 1 := by omega
        rw [z]
        show (if pB ls 0 = true then _ else firstFrom (pB ls) (0 + 1) (ls.length - 2)) = _
        rw [p0, if_neg Bool.false_ne_true]
        exact firstFrom_shift (fun i => rfl) _ _
      rw [readV_else h12]
      cases e : firstFrom (pBad ls) 0 (ls.length - 2) with
      | some i =>
        rw [e] at e1
        rw [badV_some e1]
      | none =>
        rw [e] at e1
        rw [badV_none e1]
        by_cases h3 : lnAt ls (ls.length - 1) = Str.ofString "" ∧ 1 ≤ ls.length - 2
        · have h4 : lnAt ls (ls.length - 1) = Str.ofString "" ∧ 1 < ls.length - 1 := And.intro h3.1 (by have := h3.2; omega)
          simp only [if_pos h3, if_pos h4]
        · have h4 : ¬ (lnAt ls (ls.length - 1) = Str.ofString "" ∧ 1 < ls.length - 1) := fun q => h3 (And.intro q.1 (by have := q.2; omega))
          simp only [if_neg h3, if_neg h4]
          congr 1
          omega
    · rw [readV_bad (.inr h2)]
      have p0 : pB ls 0 = true := by unfold pB; simp [h2]
      have e1 : firstFrom (pB ls) 0 (ls.length - 1) = some 0 := by
        rw [show ls.length - 1 = (ls.length - 2) + 1 by omega]
        show (if pB ls 0 = true then some 0 else _) = _
        rw [if_pos p0]
      rw [badV_some e1]
theorem allSome_all : ∀ ps : List Str, (ps.map fun p => (cinV p.cps.toList).isSome).all (fun b => b) = (allSome (ps.map fun p => cinV p.cps.toList)).isSome
  | [] => rfl
  | p :: ps => by
    have ih := allSome_all ps
    rw [List.map_cons, List.map_cons, List.all_cons, ih]
    cases cinV p.cps.toList with
    | none => rfl
    | some n =>
      show (true && (allSome (ps.map fun p => cinV p.cps.toList)).isSome) = ((allSome (ps.map fun p => cinV p.cps.toList)).map (n :: ·)).isSome
      cases allSome (ps.map fun p => cinV p.cps.toList) <;> rfl
theorem allSome_len {ps : List Str} {r : List Nat} (h : allSome (ps.map fun p => cinV p.cps.toList) = some r) : r.length = ps.length := by
  have q := (allSome_NW h).1
  rw [q, List.length_map]
/-- what the law asks of a line behind the first -/
def badLine (w : Str) (i : Nat) : Bool := !decide (cutS w none (some 4) = Str.ofString "row ") || (!decide ((parts (cutS w (some 4) none) ",").length = i) || !((parts (cutS w (some 4) none) ",").map fun p => (cinV p.cps.toList).isSome).all fun b => b)
theorem badLine_is (w : Str) (i : Nat) (h7 : i ≤ 7) : badLine w i = (lineV w i).isNone := by
  unfold badLine lineV
  rw [allSome_all]
  by_cases h1 : cutS w none (some 4) = Str.ofString "row "
  · rw [if_pos ⟨h1, h7⟩]
    show (_ || (_ || !(rowV (cutS w (some 4) none)).isSome)) = _
    cases e : rowV (cutS w (some 4) none) with
    | none => simp
    | some r =>
      have hl : r.length = (parts (cutS w (some 4) none) ",").length := allSome_len e
      by_cases h2 : (parts (cutS w (some 4) none) ",").length = i
      · simp [h1, h2, hl]
      · simp [h1, h2, hl]
  · rw [if_neg (fun q => h1 q.1)]
    simp [h1]
def badBody : MS := sCons (sIf (tOrM (tAndM (mT (m2 peq (mVar 3) (mC (.int 0)))) (mT (m2 pne (mVar 4) (mC (.str "table"))))) (mT (m2 (pcmp fun i j => decide (j < i)) (mVar 3) (mC (.int 7))))) (sRet (m2 (padd false) (mVar 3) (mC (.int 1)))) (sNil)) (sIf (mT (m2 (pcmp fun i j => decide (j < i)) (mVar 3) (mC (.int 0)))) (sCons (sSet 5 (mMe isStr (psplit false) (mSl false (mVar 4) (oSome (mC (.int 4))) (oNone)) (mCons (mC (.str ",")) (mNil)))) (sIf (tOrM (mT (m2 pne (mSl false (mVar 4) (oNone) (oSome (mC (.int 4)))) (mC (.str "row ")))) (tOrM (mT (m2 pne (mL plen (mCons (mVar 5) (mNil))) (mVar 3))) (tNotM (mTr (mL pall (mCons (mLc false [6] id (mSrc (mVar 5)) (tgN 6) (mYes) (mCall 1 m__law_is_numeral (mCons (mVar 6) (mNil)))) (mNil))))))) (sRet (m2 (padd false) (mVar 3) (mC (.int 1)))) (sNil))) (sNil))
theorem bad_body (v w : Str) (x2 : D) (c : Nat) (i : Nat) (y z : Option D) (S : Sto) (hw : w.length ≤ 1000000) :
    (pB' : Bool) → pB' = (if i = 0 then !decide (w = Str.ofString "table") else (lineV w i).isNone) →
    ∃ ev3, badBody [some (.str v), some (.ref c), some x2, some (.int (i : Int)), some (.str w), y, z] S = (if pB' = true then .ok (.rt (.int ((i : Int) + 1))) ev3 S else .ok .nx ev3 S) ∧ ∃ y, ev3 = [some (.str v), some (.ref c), some x2, some (.int (i : Int)), some (.str w), y, z] := by
  intro pB' hp
  have hz2 : w.length ≤ 16777216 := by omega
  rcases Nat.eq_zero_or_pos i with h0 | h0
  · subst h0
    rw [if_pos rfl] at hp
    subst hp
    by_cases h1 : w = Str.ofString "table"
    · refine ⟨_, ?_, y, rfl⟩
      unfold badBody
      simp [mDef, endS, startD, sCons, seqS, sRet, sRetN, sSet, sIf, sNil, sAsg, sExpr, sPar, par2, bindS, noEx, ML.R.bind, m1, m2, mT, mTr, asB, asTr, mC, mVar, asV_non, asV_bl, asV_int, asV_str, asV_tup, asV_lst, asV_rol, asV_ref, mL, mCons, mNil, mIf, mCall, tgN, tgSub, tgT, tgCons, tgNil, setAt, tNotM, tAndM, tOrM, mAnd, mOr, pnot, pix, pcmp, padd, psub, pmul, pfdiv, pmod, pint, plen, ptup, pisN, pnotN, seqOf, pneg, mSl, oNone, oSome, asI, mLc, mSrc, asSrc, drawn, mYes, evWipe, mkL, plst, peq, pne, h1]
    · refine ⟨_, ?_, y, rfl⟩
      unfold badBody
      simp [mDef, endS, startD, sCons, seqS, sRet, sRetN, sSet, sIf, sNil, sAsg, sExpr, sPar, par2, bindS, noEx, ML.R.bind, m1, m2, mT, mTr, asB, asTr, mC, mVar, asV_non, asV_bl, asV_int, asV_str, asV_tup, asV_lst, asV_rol, asV_ref, mL, mCons, mNil, mIf, mCall, tgN, tgSub, tgT, tgCons, tgNil, setAt, tNotM, tAndM, tOrM, mAnd, mOr, pnot, pix, pcmp, padd, psub, pmul, pfdiv, pmod, pint, plen, ptup, pisN, pnotN, seqOf, pneg, mSl, oNone, oSome, asI, mLc, mSrc, asSrc, drawn, mYes, evWipe, mkL, plst, peq, pne, h1]
  · rw [if_neg (by omega)] at hp
    have hi0 : ¬ (i : Int) = 0 := by omega
    have hi0' : ¬ i = 0 := by omega
    have hi1 : (0 : Int) < (i : Int) := by omega
    by_cases h7 : i ≤ 7
    · rw [← badLine_is w i h7] at hp
      have h7' : ¬ (7 : Int) < (i : Int) := by omega
      have c44 : ((Str.ofString ",").length == 0) = false := by decide +kernel
      have hcl := cutS_length w (some 4) none
      have hsp := split_len (cutS w (some 4) none) "," (by decide +kernel)
      have hcz : (cutS w (some 4) none).length ≤ 16777214 := by omega
      have hs : Txt.split (cutS w (some 4) none) (Str.ofString ",") = parts (cutS w (some 4) none) "," := rfl
      have hpl : ∀ p ∈ parts (cutS w (some 4) none) ",", p.length ≤ 1000000 := fun p hp => Nat.le_trans (part_len hp) (Nat.le_trans hcl hw)
      unfold badLine at hp
      generalize parts (cutS w (some 4) none) "," = ps at *
      have q : lcL (tgN 6) mYes (mCall 1 m__law_is_numeral (mCons (mVar 6) (mNil))) [some (.str v), some (.ref c), some x2, some (.int (i : Int)), some (.str w), some (.lst (ps.map D.str)), none] ⟨ps.map D.str, []⟩ (ps.map D.str) [] S = .ok (ps.map fun p => D.bl (cinV p.cps.toList).isSome) S := by
        refine (lc_mapL D.str (fun p => D.bl (cinV p.cps.toList).isSome) rfl ps [] (fun p hp => ⟨[some (.str v), some (.ref c), some x2, some (.int (i : Int)), some (.str w), some (.lst (ps.map D.str)), some (.str p)], rfl, rfl, ?_⟩) (by simp; omega)).trans (by rw [List.nil_append])
        have e := is_numeral p S (by have := hpl p hp; omega)
        simp [mDef, endS, startD, sCons, seqS, sRet, sRetN, sSet, sIf, sNil, sAsg, sExpr, sPar, par2, bindS, noEx, ML.R.bind, m1, m2, mT, mTr, asB, asTr, mC, mVar, asV_non, asV_bl, asV_int, asV_str, asV_tup, asV_lst, asV_rol, asV_ref, mL, mCons, mNil, mIf, mCall, tgN, tgSub, tgT, tgCons, tgNil, setAt, tNotM, tAndM, tOrM, mAnd, mOr, pnot, pix, pcmp, padd, psub, pmul, pfdiv, pmod, pint, plen, ptup, pisN, pnotN, seqOf, pneg, mSl, oNone, oSome, asI, mLc, mSrc, asSrc, drawn, mYes, evWipe, mkL, plst, e]
      refine ⟨[some (.str v), some (.ref c), some x2, some (.int (i : Int)), some (.str w), some (.lst (ps.map D.str)), z], ?_, _, rfl⟩
      have hab : asBs (ps.map fun p => D.bl (cinV p.cps.toList).isSome) = some (ps.map fun p => (cinV p.cps.toList).isSome) := by
        clear q hp hs hsp hpl
        induction ps with
        | nil => rfl
        | cons p ps ih =>
          rw [List.map_cons, List.map_cons]
          show (asBs _).map _ = _
          rw [ih]
          rfl
      generalize hA : (ps.map fun p => (cinV p.cps.toList).isSome) = A at *
      have hcI : ((ps.length : Nat) : Int) = (i : Int) ↔ ps.length = i := by omega
      unfold badBody
      subst hp
      by_cases k1 : cutS w none (some 4) = Str.ofString "row "
      · by_cases k2 : ps.length = i
        · cases k3 : A.all fun b => b with
          | true =>
            simp [mDef, endS, startD, sCons, seqS, sRet, sRetN, sSet, sIf, sNil, sAsg, sExpr, sPar, par2, bindS, noEx, ML.R.bind, m1, m2, mT, mTr, asB, asTr, mC, mVar, asV_non, asV_bl, asV_int, asV_str, asV_tup, asV_lst, asV_rol, asV_ref, mL, mCons, mNil, mIf, mCall, tgN, tgSub, tgT, tgCons, tgNil, setAt, tNotM, tAndM, tOrM, mAnd, mOr, pnot, pix, pcmp, padd, psub, pmul, pfdiv, pmod, pint, plen, ptup, pisN, pnotN, seqOf, pneg, mSl, oNone, oSome, asI, mLc, mSrc, asSrc, drawn, mYes, evWipe, mkL, plst, peq, pne, hi0', h7', hi1, mMe, isStr, psplit, pslice, hz2, hcz, c44, hs, q, hab, pall, k1, k2, k3, hcI]
            trace_state
          | false =>
            simp [mDef, endS, startD, sCons, seqS, sRet, sRetN, sSet, sIf, sNil, sAsg, sExpr, sPar, par2, bindS, noEx, ML.R.bind, m1, m2, mT, mTr, asB, asTr, mC, mVar, asV_non, asV_bl, asV_int, asV_str, asV_tup, asV_lst, asV_rol, asV_ref, mL, mCons, mNil, mIf, mCall, tgN, tgSub, tgT, tgCons, tgNil, setAt, tNotM, tAndM, tOrM, mAnd, mOr, pnot, pix, pcmp, padd, psub, pmul, pfdiv, pmod, pint, plen, ptup, pisN, pnotN, seqOf, pneg, mSl, oNone, oSome, asI, mLc, mSrc, asSrc, drawn, mYes, evWipe, mkL, plst, peq, pne, hi0', h7', hi1, mMe, isStr, psplit, pslice, hz2, hcz, c44, hs, q, hab, pall, k1, k2, k3, hcI]
        · simp [mDef, endS, startD, sCons, seqS, sRet, sRetN, sSet, sIf, sNil, sAsg, sExpr, sPar, par2, bindS, noEx, ML.R.bind, m1, m2, mT, mTr, asB, asTr, mC, mVar, asV_non, asV_bl, asV_int, asV_str, asV_tup, asV_lst, asV_rol, asV_ref, mL, mCons, mNil, mIf, mCall, tgN, tgSub, tgT, tgCons, tgNil, setAt, tNotM, tAndM, tOrM, mAnd, mOr, pnot, pix, pcmp, padd, psub, pmul, pfdiv, pmod, pint, plen, ptup, pisN, pnotN, seqOf, pneg, mSl, oNone, oSome, asI, mLc, mSrc, asSrc, drawn, mYes, evWipe, mkL, plst, peq, pne, hi0', h7', hi1, mMe, isStr, psplit, pslice, hz2, hcz, c44, hs, pall, k1, k2, hcI]
      · simp [mDef, endS, startD, sCons, seqS, sRet, sRetN, sSet, sIf, sNil, sAsg, sExpr, sPar, par2, bindS, noEx, ML.R.bind, m1, m2, mT, mTr, asB, asTr, mC, mVar, asV_non, asV_bl, asV_int, asV_str, asV_tup, asV_lst, asV_rol, asV_ref, mL, mCons, mNil, mIf, mCall, tgN, tgSub, tgT, tgCons, tgNil, setAt, tNotM, tAndM, tOrM, mAnd, mOr, pnot, pix, pcmp, padd, psub, pmul, pfdiv, pmod, pint, plen, ptup, pisN, pnotN, seqOf, pneg, mSl, oNone, oSome, asI, mLc, mSrc, asSrc, drawn, mYes, evWipe, mkL, plst, peq, pne, hi0', h7', hi1, mMe, isStr, psplit, pslice, hz2, hcz, c44, hs, pall, k1]
    · have e : lineV w i = none := by unfold lineV; rw [if_neg (fun q => h7 q.2)]
      rw [e] at hp
      subst hp
      have h7' : (7 : Int) < (i : Int) := by omega
      refine ⟨_, ?_, y, rfl⟩
      unfold badBody
      simp [mDef, endS, startD, sCons, seqS, sRet, sRetN, sSet, sIf, sNil, sAsg, sExpr, sPar, par2, bindS, noEx, ML.R.bind, m1, m2, mT, mTr, asB, asTr, mC, mVar, asV_non, asV_bl, asV_int, asV_str, asV_tup, asV_lst, asV_rol, asV_ref, mL, mCons, mNil, mIf, mCall, tgN, tgSub, tgT, tgCons, tgNil, setAt, tNotM, tAndM, tOrM, mAnd, mOr, pnot, pix, pcmp, padd, psub, pmul, pfdiv, pmod, pint, plen, ptup, pisN, pnotN, seqOf, pneg, mSl, oNone, oSome, asI, mLc, mSrc, asSrc, drawn, mYes, evWipe, mkL, plst, peq, pne, hi0', h7']
theorem drop_get {ls : List Str} {j : Nat} {e : D} (h : ((ls.map D.str).dropLast)[j]? = some e) : j < ls.length - 1 ∧ e = .str (lnAt ls j) := by
  have hj : j < ((ls.map D.str).dropLast).length := (List.getElem?_eq_some_iff.mp h).1
  rw [List.length_dropLast, List.length_map] at hj
  rw [List.getElem?_dropLast, if_pos (by rw [List.length_map]; omega), List.getElem?_map, List.getElem?_eq_getElem (by omega)] at h
  refine ⟨hj, ?_⟩
  cases h
  have hj2 : j < ls.length := by omega
  simp [lnAt, hj2]
theorem live_one {S : Sto} {c : Nat} {it L : List D} (h : S[c]? = some (.lst L)) : Src.live ⟨it, [(c, L)]⟩ S = true := by
  simp only [Src.live, List.all_cons, List.all_nil, Bool.and_true, h]
  exact beqL_self L
theorem bad_loop (v : Str) (ls : List Str) (S : Sto) (c : Nat) (x2 : D) (hc : S[c]? = some (.lst ((ls.map D.str).dropLast))) (hlen : ∀ i, (lnAt ls i).length ≤ 1000000) :
    (∀ k, firstFrom (pB ls) 0 (ls.length - 1) = some k → ∃ ev3 S3, forL (tgT 2 (tgCons (tgN 3) (tgCons (tgN 4) tgNil))) badBody ⟨enumD 0 ((ls.map D.str).dropLast), [(c, (ls.map D.str).dropLast)]⟩ (enumD 0 ((ls.map D.str).dropLast)) [some (.str v), some (.ref c), some x2, none, none, none, none] S = .ok (.rt (.int ((k : Int) + 1))) ev3 S3 ∧ S3 = S) ∧
    (firstFrom (pB ls) 0 (ls.length - 1) = none → ∃ ev3 S3, forL (tgT 2 (tgCons (tgN 3) (tgCons (tgN 4) tgNil))) badBody ⟨enumD 0 ((ls.map D.str).dropLast), [(c, (ls.map D.str).dropLast)]⟩ (enumD 0 ((ls.map D.str).dropLast)) [some (.str v), some (.ref c), some x2, none, none, none, none] S = .ok .nx ev3 S3 ∧ S3 = S ∧ ∃ a b y z, ev3 = [some (.str v), some (.ref c), some x2, a, b, y, z]) := by
  have hlE : (enumD 0 ((ls.map D.str).dropLast)).length = ls.length - 1 := by rw [enumD_len, List.length_dropLast, List.length_map]
  have q := for_first (tg := tgT 2 (tgCons (tgN 3) (tgCons (tgN 4) tgNil))) (body := badBody) (c := ⟨enumD 0 ((ls.map D.str).dropLast), [(c, (ls.map D.str).dropLast)]⟩) (pB ls) (fun k => .int ((k : Int) + 1))
    (fun i ev S' => S' = S ∧ ∃ a b y z, ev = [some (.str v), some (.ref c), some x2, a, b, y, z]) (fun S' => S' = S) (fun i ev S' h => by rw [h.1]; exact live_one hc) (enumD 0 ((ls.map D.str).dropLast)) 0
    [some (.str v), some (.ref c), some x2, none, none, none, none] S (fun j d hd ev S' hI => ?_) ⟨rfl, none, none, none, none, rfl⟩
  · rw [hlE] at q
    exact q
  · obtain ⟨rfl, a, b, y, z, rfl⟩ := hI
    obtain ⟨e, he, rfl⟩ := enumD_get _ _ _ _ hd
    obtain ⟨hj, rfl⟩ := drop_get he
    rw [Nat.zero_add]
    obtain ⟨ev3, hb, y', rfl⟩ := bad_body v (lnAt ls j) x2 c j y z S' (hlen j) (pB ls j) (by
      unfold pB
      by_cases h0 : j = 0
      · subst h0; rfl
      · rw [if_neg h0, if_neg h0])
    refine ⟨[some (.str v), some (.ref c), some x2, some (.int (j : Int)), some (.str (lnAt ls j)), y, z], S', rfl, fun hp => ?_, fun hp => ?_⟩
    · rw [hp, if_pos rfl] at hb
      exact ⟨_, S', hb, rfl⟩
    · rw [hp, if_neg Bool.false_ne_true] at hb
      exact ⟨_, S', hb, rfl, _, _, _, _, rfl⟩
theorem law_bad (v : Str) (S : Sto) (hz : v.length ≤ 1000000) : ∃ T, m__law_bad [.str v] S = .ok (optD (badV (parts v "\n"))) (S ++ T) := by
  have hsp := split_len v "\n" c10
  have hpos : 1 ≤ (parts v "\n").length := split_pos v _
  have hlen := fun i => Nat.le_trans (lnAt_len (v := v) (x := "\n") i) hz
  have hs : Txt.split v (Str.ofString "\n") = parts v "\n" := rfl
  generalize hls : parts v "\n" = ls at *
  have hz2 : v.length ≤ 16777214 := by omega
  have hget : ∀ c : Cell, (S ++ [c])[S.length]? = some c := fun c => by rw [List.getElem?_append_right (Nat.le_refl _), Nat.sub_self]; rfl
  have hset : ∀ c d : Cell, (S ++ [c]).set S.length d = S ++ [d] := fun c d => by rw [List.set_append, if_neg (Nat.lt_irrefl _), Nat.sub_self]; rfl
  have hsq : isSeq (S ++ [.lst (ls.map D.str)]) (.ref S.length) = true := by unfold isSeq seqOf; simp
  have hgl : (ls.map D.str).getLast? = some (.str (lnAt ls (ls.length - 1))) := by
    rw [List.getLast?_eq_getElem?, List.length_map, List.getElem?_map, List.getElem?_eq_getElem (by omega)]
    have hj2 : ls.length - 1 < ls.length := by omega
    simp [lnAt, hj2]
  obtain ⟨L1, L2⟩ := bad_loop v ls (S ++ [.lst ((ls.map D.str).dropLast)]) S.length (.str (lnAt ls (ls.length - 1))) (hget _) hlen
  have hen : mEnum (mCons (mVar 1) mNil) [some (.str v), some (.ref S.length), some (.str (lnAt ls (ls.length - 1))), none, none, none, none] (S ++ [.lst ((ls.map D.str).dropLast)]) = .ok ⟨enumD 0 ((ls.map D.str).dropLast), [(S.length, (ls.map D.str).dropLast)]⟩ (S ++ [.lst ((ls.map D.str).dropLast)]) := by
    simp [mEnum, mCons, mVar, asV_ref, mNil, R.bind, asEnum, drawn]
  have hdl : ((ls.map D.str).dropLast).length = ls.length - 1 := by rw [List.length_dropLast, List.length_map]
  have hcast : ((ls.length - 1 : Nat) : Int) = (ls.length : Int) - 1 := by omega
  unfold badBody at L1 L2
  generalize hL : (ls.map D.str).dropLast = L' at *
  generalize hrest : lnAt ls (ls.length - 1) = rest at *
  refine ⟨[.lst L'], ?_⟩
  unfold m__law_bad b__law_bad
  cases e : firstFrom (pB ls) 0 (ls.length - 1) with
  | some k =>
    obtain ⟨ev3, S3, q, rfl⟩ := L1 k e
    rw [badV_some e]
    simp [mDef, endS, startD, sCons, seqS, sRet, sRetN, sSet, sIf, sNil, sAsg, sExpr, sPar, par2, bindS, noEx, ML.R.bind, m1, m2, mT, mTr, asB, asTr, mC, mVar, asV_non, asV_bl, asV_int, asV_str, asV_tup, asV_lst, asV_rol, asV_ref, mL, mCons, mNil, mIf, mCall, tgN, tgSub, tgT, tgCons, tgNil, setAt, tNotM, tAndM, tOrM, mAnd, mOr, pnot, pix, pcmp, padd, psub, pmul, pfdiv, pmod, pint, plen, ptup, pisN, pnotN, seqOf, pneg, mSl, oNone, oSome, asI, mLc, mSrc, asSrc, drawn, mYes, evWipe, mkL, plst, mMe, isStr, psplit, c10', hz2, hs, hget, hset, hsq, ppop, hgl, sFor, hen, q, optD, hL]
  | none =>
    obtain ⟨ev3, S3, q, rfl, a, b, y, z, rfl⟩ := L2 e
    rw [badV_none e, hrest]
    by_cases h3 : rest = Str.ofString ""
    · subst h3
      by_cases h4 : 1 < ls.length - 1
      · have h5 : (1 : Int) < (L'.length : Int) := by omega
        simp [mDef, endS, startD, sCons, seqS, sRet, sRetN, sSet, sIf, sNil, sAsg, sExpr, sPar, par2, bindS, noEx, ML.R.bind, m1, m2, mT, mTr, asB, asTr, mC, mVar, asV_non, asV_bl, asV_int, asV_str, asV_tup, asV_lst, asV_rol, asV_ref, mL, mCons, mNil, mIf, mCall, tgN, tgSub, tgT, tgCons, tgNil, setAt, tNotM, tAndM, tOrM, mAnd, mOr, pnot, pix, pcmp, padd, psub, pmul, pfdiv, pmod, pint, plen, ptup, pisN, pnotN, seqOf, pneg, mSl, oNone, oSome, asI, mLc, mSrc, asSrc, drawn, mYes, evWipe, mkL, plst, mMe, isStr, psplit, c10', hz2, hs, hget, hset, hsq, ppop, hgl, sFor, hen, q, optD, peq, h4, h5, hL]
      · have h5 : ¬ (1 : Int) < (L'.length : Int) := by omega
        have h6 : (L'.length : Int) + 1 = (ls.length : Int) := by omega
        simp [mDef, endS, startD, sCons, seqS, sRet, sRetN, sSet, sIf, sNil, sAsg, sExpr, sPar, par2, bindS, noEx, ML.R.bind, m1, m2, mT, mTr, asB, asTr, mC, mVar, asV_non, asV_bl, asV_int, asV_str, asV_tup, asV_lst, asV_rol, asV_ref, mL, mCons, mNil, mIf, mCall, tgN, tgSub, tgT, tgCons, tgNil, setAt, tNotM, tAndM, tOrM, mAnd, mOr, pnot, pix, pcmp, padd, psub, pmul, pfdiv, pmod, pint, plen, ptup, pisN, pnotN, seqOf, pneg, mSl, oNone, oSome, asI, mLc, mSrc, asSrc, drawn, mYes, evWipe, mkL, plst, mMe, isStr, psplit, c10', hz2, hs, hget, hset, hsq, ppop, hgl, sFor, hen, q, optD, peq, h4, h5, h6, hL]
    · have h6 : (L'.length : Int) + 1 = (ls.length : Int) := by omega
      simp [mDef, endS, startD, sCons, seqS, sRet, sRetN, sSet, sIf, sNil, sAsg, sExpr, sPar, par2, bindS, noEx, ML.R.bind, m1, m2, mT, mTr, asB, asTr, mC, mVar, asV_non, asV_bl, asV_int, asV_str, asV_tup, asV_lst, asV_rol, asV_ref, mL, mCons, mNil, mIf, mCall, tgN, tgSub, tgT, tgCons, tgNil, setAt, tNotM, tAndM, tOrM, mAnd, mOr, pnot, pix, pcmp, padd, psub, pmul, pfdiv, pmod, pint, plen, ptup, pisN, pnotN, seqOf, pneg, mSl, oNone, oSome, asI, mLc, mSrc, asSrc, drawn, mYes, evWipe, mkL, plst, mMe, isStr, psplit, c10', hz2, hs, hget, hset, hsq, ppop, hgl, sFor, hen, q, optD, peq, h3, h6, hL]
end Mk93


set_option Elab.async false
set_option linter.all false
set_option maxRecDepth 100000
set_option autoImplicit false
set_option maxHeartbeats 4000000
namespace Mk93
open ML PySem PySem.Spec PyProof.Rows L2 TL
theorem check_text (v : Str) (S : Sto) : m_check_text [.str v] S = .ok .non S := by
  unfold m_check_text b_check_text
  simp [mDef, endS, startD, sCons, seqS, sRet, sRetN, sSet, sIf, sNil, sAsg, sExpr, sPar, par2, bindS, noEx, ML.R.bind, m1, m2, mT, mTr, asB, asTr, mC, mVar, asV_non, asV_bl, asV_int, asV_str, asV_tup, asV_lst, asV_rol, asV_ref, mL, mCons, mNil, mIf, mCall, tgN, tgSub, tgT, tgCons, tgNil, setAt, tNotM, tAndM, tOrM, mAnd, mOr, pnot, pix, pcmp, padd, psub, pmul, pfdiv, pmod, pint, plen, ptup, pisN, pnotN, seqOf, pneg, mSl, oNone, oSome, asI, mLc, mSrc, asSrc, drawn, mYes, evWipe, mkL, plst, isi_str]
theorem tbl_v (R : List (List Nat)) (S : Sto) : asVal (some (some (tbl R))) S = .ok (tbl R) S := rfl
theorem tbl_isN (R : List (List Nat)) (S : Sto) : pisN (tbl R) S = .ok (.bl false) S := rfl
theorem tbl_notN (R : List (List Nat)) (S : Sto) : pnotN (tbl R) S = .ok (.bl true) S := rfl
theorem bad_line (v : Str) (S : Sto) (hz : v.length ≤ 1000000) : ∃ T, m_bad_line [.str v] S = .ok (optD (badV (parts v "\n"))) (S ++ T) := by
  obtain ⟨T, hr⟩ := read_ok v S hz
  have hb := bad_read (parts v "\n") (split_pos v _)
  have hc := check_text v S
  refine ⟨T, ?_⟩
  rw [hb]
  unfold m_bad_line b_bad_line
  cases e : (readV (parts v "\n")).1 with
  | none =>
    rw [e] at hr
    simp [mDef, endS, startD, sCons, seqS, sRet, sRetN, sSet, sIf, sNil, sAsg, sExpr, sPar, par2, bindS, noEx, ML.R.bind, m1, m2, mT, mTr, asB, asTr, mC, mVar, asV_non, asV_bl, asV_int, asV_str, asV_tup, asV_lst, asV_rol, asV_ref, mL, mCons, mNil, mIf, mCall, tgN, tgSub, tgT, tgCons, tgNil, setAt, tNotM, tAndM, tOrM, mAnd, mOr, pnot, pix, pcmp, padd, psub, pmul, pfdiv, pmod, pint, plen, ptup, pisN, pnotN, seqOf, pneg, mSl, oNone, oSome, asI, mLc, mSrc, asSrc, drawn, mYes, evWipe, mkL, plst, hc, hr, tblO, optD]
  | some R =>
    rw [e] at hr
    simp [mDef, endS, startD, sCons, seqS, sRet, sRetN, sSet, sIf, sNil, sAsg, sExpr, sPar, par2, bindS, noEx, ML.R.bind, m1, m2, mT, mTr, asB, asTr, mC, mVar, asV_non, asV_bl, asV_int, asV_str, asV_tup, asV_lst, asV_rol, asV_ref, mL, mCons, mNil, mIf, mCall, tgN, tgSub, tgT, tgCons, tgNil, setAt, tNotM, tAndM, tOrM, mAnd, mOr, pnot, pix, pcmp, padd, psub, pmul, pfdiv, pmod, pint, plen, ptup, pisN, pnotN, seqOf, pneg, mSl, oNone, oSome, asI, mLc, mSrc, asSrc, drawn, mYes, evWipe, mkL, plst, hc, hr, tblO, optD, tbl]
theorem table_of (v : Str) (S : Sto) (hz : v.length ≤ 1000000) : ∃ T, m_table_of [.str v] S = (match (readV (parts v "\n")).1 with
    | some R => .ok (tbl R) (S ++ T)
    | none => .ex ⟨"BadText", ["line"], [.int (((readV (parts v "\n")).2 : Int) + 1)]⟩ (S ++ T)) := by
  obtain ⟨T, hr⟩ := read_ok v S hz
  have hc := check_text v S
  refine ⟨T, ?_⟩
  unfold m_table_of b_table_of
  cases e : (readV (parts v "\n")).1 with
  | none =>
    rw [e] at hr
    simp [mDef, endS, startD, sCons, seqS, sRet, sRetN, sSet, sIf, sNil, sAsg, sExpr, sPar, par2, bindS, noEx, ML.R.bind, m1, m2, mT, mTr, asB, asTr, mC, mVar, asV_non, asV_bl, asV_int, asV_str, asV_tup, asV_lst, asV_rol, asV_ref, mL, mCons, mNil, mIf, mCall, tgN, tgSub, tgT, tgCons, tgNil, setAt, tNotM, tAndM, tOrM, mAnd, mOr, pnot, pix, pcmp, padd, psub, pmul, pfdiv, pmod, pint, plen, ptup, pisN, pnotN, seqOf, pneg, mSl, oNone, oSome, asI, mLc, mSrc, asSrc, drawn, mYes, evWipe, mkL, plst, hc, hr, tblO, sRaise, asRaise]
  | some R =>
    rw [e] at hr
    simp [mDef, endS, startD, sCons, seqS, sRet, sRetN, sSet, sIf, sNil, sAsg, sExpr, sPar, par2, bindS, noEx, ML.R.bind, m1, m2, mT, mTr, asB, asTr, mC, mVar, asV_non, asV_bl, asV_int, asV_str, asV_tup, asV_lst, asV_rol, asV_ref, mL, mCons, mNil, mIf, mCall, tgN, tgSub, tgT, tgCons, tgNil, setAt, tNotM, tAndM, tOrM, mAnd, mOr, pnot, pix, pcmp, padd, psub, pmul, pfdiv, pmod, pint, plen, ptup, pisN, pnotN, seqOf, pneg, mSl, oNone, oSome, asI, mLc, mSrc, asSrc, drawn, mYes, evWipe, mkL, plst, hc, hr, tblO, tbl]
def readD (ls : List Str) : D := match (readV ls).1 with
  | some R => tbl R
  | none => .tup [.str "bad", .int (((readV ls).2 : Int) + 1), .bl true]
theorem law_read (v : Str) (S : Sto) (hz : v.length ≤ 1000000) : ∃ T, m__law_read [.str v] S = .ok (readD (parts v "\n")) (S ++ T) := by
  obtain ⟨T, hr⟩ := table_of v S hz
  refine ⟨T, ?_⟩
  unfold readD m__law_read b__law_read
  cases e : (readV (parts v "\n")).1 with
  | none =>
    rw [e] at hr
    have t1 : tstL tsub "BadText" "BadText" = some true := by decide +kernel
    have t2 : tstL tis "RoadError" "BadText" = some true := by decide +kernel
    simp [mDef, endS, startD, sCons, seqS, sRet, sRetN, sSet, sIf, sNil, sAsg, sExpr, sPar, par2, bindS, noEx, ML.R.bind, m1, m2, mT, mTr, asB, asTr, mC, mVar, asV_non, asV_bl, asV_int, asV_str, asV_tup, asV_lst, asV_rol, asV_ref, mL, mCons, mNil, mIf, mCall, tgN, tgSub, tgT, tgCons, tgNil, setAt, tNotM, tAndM, tOrM, mAnd, mOr, pnot, pix, pcmp, padd, psub, pmul, pfdiv, pmod, pint, plen, ptup, pisN, pnotN, seqOf, pneg, mSl, oNone, oSome, asI, mLc, mSrc, asSrc, drawn, mYes, evWipe, mkL, plst, hr, sTry, tryH, t1, t2, outS, mFld, readX, mIsX, testX, evNoX, noXo]
  | some R =>
    rw [e] at hr
    have hn : noXo (some (tbl R)) = some (tbl R) := rfl
    simp [mDef, endS, startD, sCons, seqS, sRet, sRetN, sSet, sIf, sNil, sAsg, sExpr, sPar, par2, bindS, noEx, ML.R.bind, m1, m2, mT, mTr, asB, asTr, mC, mVar, asV_non, asV_bl, asV_int, asV_str, asV_tup, asV_lst, asV_rol, asV_ref, mL, mCons, mNil, mIf, mCall, tgN, tgSub, tgT, tgCons, tgNil, setAt, tNotM, tAndM, tOrM, mAnd, mOr, pnot, pix, pcmp, padd, psub, pmul, pfdiv, pmod, pint, plen, ptup, pisN, pnotN, seqOf, pneg, mSl, oNone, oSome, asI, mLc, mSrc, asSrc, drawn, mYes, evWipe, mkL, plst, hr, sTry, evNoX, noXo, tbl]
end Mk93


set_option Elab.async false
set_option linter.all false
set_option maxRecDepth 100000
set_option autoImplicit false
set_option maxHeartbeats 4000000
namespace Mk93
open ML PySem PySem.Spec PyProof.Rows L2 TL
theorem draw_is : m__law_draw = mDraw := rfl
theorem pick_is : m__law_pick = mPick := rfl
/-- every pot is one still -/
def Keep (S S' : Sto) : Prop := ∀ m, Pot S m → Pot S' m
theorem Keep.refl (S : Sto) : Keep S S := fun _ h => h
theorem Keep.trans {a b c : Sto} (h : Keep a b) (k : Keep b c) : Keep a c := fun m p => k m (h m p)
theorem keep_app (S T : Sto) : Keep S (S ++ T) := fun m ⟨a, b, ha, e⟩ => ⟨a, b, ha, by rw [List.getElem?_append_left (List.getElem?_eq_some_iff.mp e).1]; exact e⟩
theorem chg_keep {n : Nat} {S S' : Sto} (c : Chg n S S') (h : Pot S n) : Keep S S' := fun m p => by
  by_cases hm : m = n
  · subst hm; exact c.pot h
  · obtain ⟨a, b, ha, e⟩ := p
    exact ⟨a, b, ha, by rw [c.other hm]; exact e⟩
theorem okR_snoc : ∀ {Rs : List (List Nat)} {k : Nat} {r : List Nat}, okR k Rs → r.length = k + Rs.length + 1 → (∀ n ∈ r, n < 1000) → okR k (Rs ++ [r])
  | [], k, r, _, h1, h2 => ⟨by simpa using h1, h2, trivial⟩
  | x :: Rs, k, r, h, h1, h2 => ⟨h.1, h.2.1, okR_snoc h.2.2 (by rw [List.length_cons] at h1; omega) h2⟩
theorem asNats : ∀ {ys : List D}, (∀ y ∈ ys, ∃ k : Nat, y = .int (k : Int) ∧ k < 1000) → ∃ r : List Nat, ys = intsD r ∧ ∀ n ∈ r, n < 1000
  | [], _ => ⟨[], rfl, fun n h => by simp at h⟩
  | y :: ys, h => by
    obtain ⟨k, rfl, hk⟩ := h y List.mem_cons_self
    obtain ⟨r, rfl, hr⟩ := asNats fun z hz => h z (List.mem_cons_of_mem _ hz)
    refine ⟨k :: r, rfl, fun n hn => ?_⟩
    rcases List.mem_cons.mp hn with rfl | hn
    · exact hk
    · exact hr n hn
theorem inR_small {x : Int} (h : 0 ≤ x) (h2 : x ≤ 1000000) : ML.inR x := by
  have a : -(2 ^ 62) ≤ (0 : Int) := by decide
  have b : (1000000 : Int) < 2 ^ 62 := by decide
  exact ⟨Int.le_trans a h, Int.lt_of_le_of_lt h2 b⟩
theorem append_ok {S : Sto} {c : Nat} {ds : List D} {y : D} (h : S[c]? = some (.lst ds)) (hl : ds.length < 16777216) : pappend (.ref c) [y] S = .ok .non (S.set c (.lst (ds ++ [y]))) := by
  simp only [pappend, h, if_pos hl]
theorem lc_end {own : List Nat} {mi : M Src} {tg : D → M Ev} {cond : M Bool} {el : M D} {ev : Ev} {S S1 S2 : Sto} {c : Src} {ys : List D} (h1 : mi ev S = .ok c S1) (h2 : lcL tg cond el (evWipe ev own) c c.items [] S1 = .ok ys S2) : mLc false own id mi tg cond el ev S = .ok (.lst ys) S2 := by
  unfold mLc
  rw [h1, bind_ok, id, h2]
  rfl
theorem hrg1 (i : Nat) (hi : i < 8) (S : Sto) : asRange1 [.int ((i : Int) + 1)] S = .ok ⟨rangeD 0 (i + 1), []⟩ S := by
  have e2 : ((i : Int) + 1).toNat = i + 1 := by omega
  show (if ML.inR ((i : Int) + 1) then R.ok (⟨rangeD 0 ((i : Int) + 1).toNat, []⟩ : Src) S else R.no) = _
  rw [if_pos (inR_small (by omega) (by omega)), e2]
def tabBody : MS := sExpr (mMe isSeq pappend (mVar 2) (mCons (mL ptuple (mCons (mLc false [4] id (mRange1 (mCons (m2 (padd false) (mVar 3) (mC (.int 1))) (mNil))) (tgN 4) (mYes) (mCall 2 mDraw (mCons (mVar 0) (mCons (mVar 1) (mNil))))) (mNil))) (mNil)))
theorem tab_turn (n c : Nat) (hnc : c ≠ n) (wide : Int) (hw : 0 < wide ∧ wide ≤ 1000) (i : Nat) (hi : i < 8) (y : Option D) (S : Sto) (Rs : List (List Nat)) (hp : Pot S n) (hc : S[c]? = some (.lst (Rs.map rowD))) (hR : okR 0 Rs) (hl : Rs.length = i) :
    ∃ S' r, tabBody [some (.ref n), some (.int wide), some (.ref c), some (.int (i : Int)), y] S = .ok .nx [some (.ref n), some (.int wide), some (.ref c), some (.int (i : Int)), y] S' ∧ Pot S' n ∧ S'[c]? = some (.lst ((Rs ++ [r]).map rowD)) ∧ okR 0 (Rs ++ [r]) ∧ Keep S S' := by
  have hrg : mRange1 (mCons (m2 (padd false) (mVar 3) (mC (.int 1))) (mNil)) [some (.ref n), some (.int wide), some (.ref c), some (.int (i : Int)), y] S = .ok ⟨rangeD 0 (i + 1), []⟩ S := by
    have e3 : mCons (m2 (padd false) (mVar 3) (mC (.int 1))) mNil [some (.ref n), some (.int wide), some (.ref c), some (.int (i : Int)), y] S = .ok [.int ((i : Int) + 1)] S := rfl
    unfold mRange1
    rw [e3, bind_ok, hrg1 i hi S]
  obtain ⟨ys, S', q, qlen, qP, qI⟩ := lc_inv (tg := tgN 4) (cond := mYes) (el := mCall 2 mDraw (mCons (mVar 0) (mCons (mVar 1) mNil))) (ev := [some (.ref n), some (.int wide), some (.ref c), some (.int (i : Int)), none]) (c := ⟨rangeD 0 (i + 1), []⟩)
    (fun S' => Pot S' n ∧ S'[c]? = some (.lst (Rs.map rowD)) ∧ Keep S S') (fun d => ∃ k : Nat, d = .int (k : Int) ∧ k < 1000) (fun _ _ => rfl) (rangeD 0 (i + 1)) [] S (fun d hd S1 hI => by
      obtain ⟨h1, h2, h3⟩ := hI
      obtain ⟨k, S2, e, ch, k0, k1⟩ := draw_chg h1 hw.1 (by omega)
      refine ⟨[some (.ref n), some (.int wide), some (.ref c), some (.int (i : Int)), some d], S1, S1, .int k, S2, rfl, rfl, ?_, ⟨ch.pot h1, by rw [ch.other hnc]; exact h2, h3.trans (chg_keep ch h1)⟩, k.toNat, by rw [Int.toNat_of_nonneg k0], by omega⟩
      simp [mDef, endS, startD, sCons, seqS, sRet, sRetN, sSet, sIf, sNil, sAsg, sExpr, sPar, par2, bindS, noEx, ML.R.bind, m1, m2, mT, mTr, asB, asTr, mC, mVar, asV_non, asV_bl, asV_int, asV_str, asV_tup, asV_lst, asV_rol, asV_ref, mL, mCons, mNil, mIf, mCall, tgN, tgSub, tgT, tgCons, tgNil, setAt, tNotM, tAndM, tOrM, mAnd, mOr, pnot, pix, pcmp, padd, psub, pmul, pfdiv, pmod, pint, plen, ptup, pisN, pnotN, seqOf, pneg, mSl, oNone, oSome, asI, mLc, mSrc, asSrc, drawn, mYes, evWipe, mkL, plst, e]) ⟨hp, hc, Keep.refl S⟩ (by rw [rangeD_len]; simp; omega)
  obtain ⟨r, rfl, hr⟩ := asNats qP
  rw [List.nil_append] at q
  obtain ⟨p1, p2, p3⟩ := qI
  have hrl : r.length = 0 + Rs.length + 1 := by
    rw [intsD_len, rangeD_len] at qlen
    omega
  have hcl : c < S'.length := (List.getElem?_eq_some_iff.mp p2).1
  have hsq : isSeq S (.ref c) = true := by unfold isSeq seqOf; simp [hc]
  have hsq' : isSeq S' (.ref c) = true := by unfold isSeq seqOf; simp [p2]
  have hal : Rs.length < 16777216 := by omega
  have hrd : D.tup (intsD r) = rowD r := rfl
  refine ⟨S'.set c (.lst ((Rs ++ [r]).map rowD)), r, ?_, ?_, by rw [List.getElem?_set_self hcl], okR_snoc hR hrl hr, p3.trans fun m ⟨a, b, ha, e⟩ => ?_⟩
  · have h1 : mLc false [4] id (mRange1 (mCons (m2 (padd false) (mVar 3) (mC (.int 1))) (mNil))) (tgN 4) (mYes) (mCall 2 mDraw (mCons (mVar 0) (mCons (mVar 1) (mNil)))) [some (.ref n), some (.int wide), some (.ref c), some (.int (i : Int)), y] S = .ok (.lst (intsD r)) S' := by
      exact lc_end hrg q
    clear hrg q
    unfold tabBody
    generalize mLc false [4] id (mRange1 (mCons (m2 (padd false) (mVar 3) (mC (.int 1))) (mNil))) (tgN 4) (mYes) (mCall 2 mDraw (mCons (mVar 0) (mCons (mVar 1) (mNil)))) = mm at h1 ⊢
    have h2 : mL ptuple (mCons mm mNil) [some (.ref n), some (.int wide), some (.ref c), some (.int (i : Int)), y] S = .ok (rowD r) S' := by
      unfold mL mCons
      rw [h1]
      rfl
    have h3 : (mMe isSeq pappend (mVar 2) (mCons (mL ptuple (mCons mm mNil)) mNil)) [some (.ref n), some (.int wide), some (.ref c), some (.int (i : Int)), y] S = .ok .non (S'.set c (.lst (Rs.map rowD ++ [rowD r]))) := by
      have e0 : mVar 2 [some (.ref n), some (.int wide), some (.ref c), some (.int (i : Int)), y] S = .ok (.ref c) S := rfl
      have e1 : mCons (mL ptuple (mCons mm mNil)) mNil [some (.ref n), some (.int wide), some (.ref c), some (.int (i : Int)), y] S = .ok [rowD r] S' := by
        unfold mCons
        unfold mCons at h2
        rw [h2]
        rfl
      have hal' : (Rs.map rowD).length < 16777216 := by rw [List.length_map]; exact hal
      unfold mMe
      rw [e0, bind_ok, if_pos hsq, e1, bind_ok]
      exact append_ok p2 hal'
    unfold sExpr
    rw [h3, List.map_append]
    rfl
  · obtain ⟨a, b, ha, e⟩ := p1
    exact ⟨a, b, ha, by rw [List.getElem?_set_ne hnc]; exact e⟩
  · by_cases hm : c = m
    · subst hm
      rw [p2] at e
      exfalso
      have e' : Rs.map rowD = [D.int a, D.int b] := by simpa using e
      cases Rs with
      | nil => simp at e'
      | cons x Rs => simp [rowD] at e'
    · exact ⟨a, b, ha, by rw [List.getElem?_set_ne hm]; exact e⟩
end Mk93


set_option Elab.async false
set_option linter.all false
set_option maxRecDepth 100000
set_option autoImplicit false
set_option maxHeartbeats 4000000
namespace Mk93
open ML PySem PySem.Spec PyProof.Rows L2 TL
theorem sCons_nx {m1 m2 : MS} {ev ev1 : Ev} {S S1 : Sto} (h : m1 ev S = .ok .nx ev1 S1) : sCons m1 m2 ev S = m2 ev1 S1 := by unfold sCons; rw [h]; rfl
theorem sSet_ok {i : Nat} {ma : M D} {ev : Ev} {S S1 : Sto} {d : D} (h : ma ev S = .ok d S1) : sSet i ma ev S = .ok .nx (ev.set i (some d)) S1 := by unfold sSet; rw [h]; rfl
theorem mCons_ok {ma : M D} {ml : M (List D)} {ev : Ev} {S S1 S2 : Sto} {d : D} {ds : List D} (h : ma ev S = .ok d S1) (k : ml ev S1 = .ok ds S2) : mCons ma ml ev S = .ok (d :: ds) S2 := by unfold mCons; rw [h, bind_ok, k]; rfl
theorem m2_ok {p : P2} {ma mb : M D} {ev : Ev} {S S1 S2 : Sto} {x y : D} (h : ma ev S = .ok x S1) (k : mb ev S1 = .ok y S2) : m2 p ma mb ev S = p x y S2 := by unfold m2; rw [h, bind_ok, k]; rfl
theorem mL_ok {p : PL} {ml : M (List D)} {ev : Ev} {S S1 : Sto} {ds : List D} (h : ml ev S = .ok ds S1) : mL p ml ev S = p ds S1 := by unfold mL; rw [h]; rfl
theorem sRet_ok {ma : M D} {ev : Ev} {S S1 : Sto} {d : D} (h : ma ev S = .ok d S1) : sRet ma ev S = .ok (.rt d) ev S1 := by unfold sRet; rw [h]; rfl
theorem sFor_ok {mi : M Src} {tg : D → M Ev} {body : MS} {ev : Ev} {S S1 : Sto} {c : Src} (h : mi ev S = .ok c S1) : sFor mi tg body ev S = forL tg body c c.items ev S1 := by unfold sFor; rw [h]; rfl
theorem asRange1_ok {x : Int} (h0 : 0 ≤ x) (h1 : x ≤ 1000000) (S : Sto) : asRange1 [.int x] S = .ok ⟨rangeD 0 x.toNat, []⟩ S := by
  show (if ML.inR x then R.ok (⟨rangeD 0 x.toNat, []⟩ : Src) S else R.no) = _
  rw [if_pos (inR_small h0 h1)]
theorem range1_ok {ml : M (List D)} {ev : Ev} {S S1 : Sto} {x : Int} (h : ml ev S = .ok [.int x] S1) (h0 : 0 ≤ x) (h1 : x ≤ 1000000) : mRange1 ml ev S = .ok ⟨rangeD 0 x.toNat, []⟩ S1 := by
  unfold mRange1
  rw [h, bind_ok, asRange1_ok h0 h1]
theorem first_false : ∀ (n i : Nat), firstFrom (fun _ => false) i n = none
  | 0, _ => rfl
  | n + 1, i => by show (if false = true then _ else firstFrom _ (i + 1) n) = none; rw [if_neg Bool.false_ne_true]; exact first_false n (i + 1)
theorem law_table (n : Nat) (S : Sto) (hp : Pot S n) : ∃ Rs S', m__law_table [.ref n] S = .ok (tbl Rs) S' ∧ okR 0 Rs ∧ 1 ≤ Rs.length ∧ Rs.length ≤ 7 ∧ Keep S S' := by
  obtain ⟨dw, S1, e1, c1, hd⟩ := pick_ok (ds := [.int 3, .int 40, .int 1000]) hp (by simp) (by simp)
  obtain ⟨wide, rfl, hw⟩ : ∃ wide : Int, dw = .int wide ∧ 0 < wide ∧ wide ≤ 1000 := by
    simp at hd
    rcases hd with rfl | rfl | rfl
    · exact ⟨3, rfl, by decide, by decide⟩
    · exact ⟨40, rfl, by decide, by decide⟩
    · exact ⟨1000, rfl, by decide, by decide⟩
  have hp1 := c1.pot hp
  have hk1 := chg_keep c1 hp
  have hp2 : Pot (S1 ++ [.lst []]) n := keep_app S1 _ n hp1
  obtain ⟨d, S3, e3, c3, d0, d7⟩ := draw_chg (many := 7) hp2 (by decide) (by decide)
  have hnc : S1.length ≠ n := by have := hp1.lt; omega
  have hp3 := c3.pot hp2
  have hk3 : Keep S S3 := (hk1.trans (keep_app S1 _)).trans (chg_keep c3 hp2)
  have hc3 : S3[S1.length]? = some (.lst []) := by
    rw [c3.other hnc, List.getElem?_append_right (Nat.le_refl _), Nat.sub_self]
    rfl
  have a1 : mCall 2 m__law_pick (mCons (mVar 0) (mCons (mL ptup (mCons (mC (.int 3)) (mCons (mC (.int 40)) (mCons (mC (.int 1000)) (mNil))))) (mNil))) [some (.ref n), none, none, none, none] S = .ok (.int wide) S1 := by
    show mPick [.ref n, .tup [.int 3, .int 40, .int 1000]] S = _
    exact e1
  have a2 : mL (plst true) mNil [some (.ref n), some (.int wide), none, none, none] S1 = .ok (.ref S1.length) (S1 ++ [.lst []]) := rfl
  have a3 : mCons (m2 (padd false) (mC (.int 1)) (mCall 2 m__law_draw (mCons (mVar 0) (mCons (mC (.int 7)) (mNil))))) mNil [some (.ref n), some (.int wide), some (.ref S1.length), none, none] (S1 ++ [.lst []]) = .ok [.int (1 + d)] S3 := by
    have z : mCall 2 m__law_draw (mCons (mVar 0) (mCons (mC (.int 7)) (mNil))) [some (.ref n), some (.int wide), some (.ref S1.length), none, none] (S1 ++ [.lst []]) = .ok (.int d) S3 := by
      show mDraw [.ref n, .int 7] (S1 ++ [.lst []]) = _
      exact e3
    exact mCons_ok ((m2_ok (p := padd false) (ma := mC (.int 1)) rfl z).trans rfl) rfl
  have a4 := range1_ok a3 (by omega) (by omega)
  obtain ⟨k, hk⟩ : ∃ k : Nat, (1 + d).toNat = k ∧ 1 ≤ k ∧ k ≤ 7 := ⟨_, rfl, by omega, by omega⟩
  rw [hk.1] at a4
  have loop := (for_first (tg := tgN 3) (body := tabBody) (c := ⟨rangeD 0 k, []⟩) (fun _ => false) (fun _ => .non)
    (fun i ev S' => ∃ Rs x y, ev = [some (.ref n), some (.int wide), some (.ref S1.length), x, y] ∧ Pot S' n ∧ S'[S1.length]? = some (.lst (Rs.map rowD)) ∧ okR 0 Rs ∧ Rs.length = i ∧ Keep S S') (fun _ => True) (fun _ _ _ _ => rfl) (rangeD 0 k) 0
    [some (.ref n), some (.int wide), some (.ref S1.length), none, none] S3 (fun j x hx ev S' hI => by
      obtain ⟨hj, rfl⟩ := rangeD_get hx
      obtain ⟨Rs, x, y, rfl, h1, h2, h3, h4, h5⟩ := hI
      rw [Nat.zero_add] at h4
      obtain ⟨S4, r, t1, t2, t3, t4, t5⟩ := tab_turn n S1.length hnc wide hw j (by omega) y S' Rs h1 h2 h3 h4
      have ez : (0 : Int) + (j : Int) = (j : Int) := Int.zero_add _
      rw [ez]
      refine ⟨[some (.ref n), some (.int wide), some (.ref S1.length), some (.int (j : Int)), y], S', rfl, (fun q => by cases q), fun _ => ⟨_, S4, t1, Rs ++ [r], _, _, rfl, t2, t3, t4, ?_, h5.trans t5⟩⟩
      rw [List.length_append, List.length_singleton]
      omega) ⟨[], none, none, rfl, hp3, hc3, trivial, rfl, hk3⟩).2 (first_false _ _)
  obtain ⟨ev5, S5, l1, Rs, x, y, rfl, l2, l3, l4, l5, l6⟩ := loop
  rw [rangeD_len] at l5
  refine ⟨Rs, S5, ?_, l4, by omega, by omega, l6⟩
  unfold tabBody at l1
  have s1 : sSet 1 (mCall 2 m__law_pick (mCons (mVar 0) (mCons (mL ptup (mCons (mC (.int 3)) (mCons (mC (.int 40)) (mCons (mC (.int 1000)) (mNil))))) (mNil)))) [some (.ref n), none, none, none, none] S = .ok .nx [some (.ref n), some (.int wide), none, none, none] S1 := sSet_ok a1
  have s2 : sSet 2 (mL (plst true) mNil) [some (.ref n), some (.int wide), none, none, none] S1 = .ok .nx [some (.ref n), some (.int wide), some (.ref S1.length), none, none] (S1 ++ [.lst []]) := sSet_ok a2
  have s3 := (sFor_ok (tg := tgN 3) (body := sExpr (mMe isSeq pappend (mVar 2) (mCons (mL ptuple (mCons (mLc false [4] id (mRange1 (mCons (m2 (padd false) (mVar 3) (mC (.int 1))) (mNil))) (tgN 4) (mYes) (mCall 2 mDraw (mCons (mVar 0) (mCons (mVar 1) (mNil))))) (mNil))) (mNil)))) a4).trans l1
  have s4 : sRet (mL ptup (mCons (mC (.str "table")) (mCons (mL ptuple (mCons (mVar 2) (mNil))) (mNil)))) [some (.ref n), some (.int wide), some (.ref S1.length), x, y] S5 = .ok (.rt (tbl Rs)) [some (.ref n), some (.int wide), some (.ref S1.length), x, y] S5 := by
    have q : ptuple [.ref S1.length] S5 = .ok (.tup (Rs.map rowD)) S5 := by
      simp only [ptuple, seqOf, l3]
    have q2 : mL ptuple (mCons (mVar 2) (mNil)) [some (.ref n), some (.int wide), some (.ref S1.length), x, y] S5 = .ok (.tup (Rs.map rowD)) S5 := q
    exact sRet_ok ((mL_ok (mCons_ok (ma := mC (.str "table")) rfl (mCons_ok q2 rfl))).trans rfl)
  have fin : b__law_table [some (.ref n), none, none, none, none] S = .ok (.rt (tbl Rs)) [some (.ref n), some (.int wide), some (.ref S1.length), x, y] S5 := by
    unfold b__law_table
    rw [sCons_nx s1, sCons_nx s2]
    exact (sCons_nx s3).trans s4
  show endS (b__law_table [some (.ref n), none, none, none, none] S) = _
  rw [fin]
  rfl
end Mk93


set_option Elab.async false
set_option linter.all false
set_option maxRecDepth 100000
set_option autoImplicit false
set_option maxHeartbeats 4000000
namespace Mk93
open ML PySem PySem.Spec PyProof.Rows L2 TL
/-! ### a text is its lines -/
theorem joinL_nl : ∀ ps : List (List Nat), joinL [] (ps.map fun p => p ++ [10]) = joinL [10] (ps ++ [[]])
  | [] => rfl
  | [p] => by show p ++ [10] = p ++ ([10] ++ []); rw [List.append_nil]
  | p :: q :: r => by
    have ih := joinL_nl (q :: r)
    show (p ++ [10]) ++ ([] ++ joinL [] ((q :: r).map fun p => p ++ [10])) = p ++ ([10] ++ joinL [10] (q :: r ++ [[]]))
    rw [ih, List.nil_append, List.append_assoc]
theorem textW_join (Rs : List (List Nat)) : textW Rs = Txt.join (Str.ofString "\n") (linesW Rs ++ [Str.ofString ""]) := by
  refine ext_tl ?_
  unfold textW
  have e0 : tl (Str.ofString "") = [] := e_nil
  rw [join_eq, join_eq, tl_join, tl_join, e_nl, e0, List.map_append]
  have e : ((linesW Rs).map fun x => x ++ Str.ofString "\n").map tl = ((linesW Rs).map tl).map fun p => p ++ [10] := by
    rw [List.map_map, List.map_map]
    refine List.map_congr_left fun x _ => ?_
    show tl (x ++ Str.ofString "\n") = tl x ++ [10]
    rw [tl_append, e_nl]
  show joinL [] (((linesW Rs).map fun x => x ++ Str.ofString "\n").map tl) = joinL [10] ((linesW Rs).map tl ++ [tl (Str.ofString "")])
  rw [e, e0]
  exact joinL_nl _
theorem mem_joinL {s : Nat} {S : List Nat} : ∀ {ps : List (List Nat)}, s ∈ joinL S ps → s ∈ S ∨ ∃ p ∈ ps, s ∈ p
  | [], h => by simp [joinL] at h
  | [p], h => .inr ⟨p, by simp, h⟩
  | p :: q :: r, h => by
    have h : s ∈ p ++ (S ++ joinL S (q :: r)) := h
    rcases List.mem_append.mp h with h | h
    · exact .inr ⟨p, by simp, h⟩
    · rcases List.mem_append.mp h with h | h
      · exact .inl h
      · rcases mem_joinL h with h | ⟨x, hx, hs⟩
        · exact .inl h
        · exact .inr ⟨x, List.mem_cons_of_mem _ hx, hs⟩
theorem lineW_free (r : List Nat) : (10 : Nat) ∉ tl (lineW r) := by
  unfold lineW
  rw [tl_append]
  intro h
  rcases List.mem_append.mp h with h | h
  · rw [show tl (Str.ofString "row ") = [114, 111, 119, 32] from by decide +kernel] at h
    simp at h
  · unfold rowW at h
    rw [join_eq, tl_join, e_comma] at h
    rcases mem_joinL h with h | ⟨p, hp, hs⟩
    · simp at h
    · rw [List.map_map] at hp
      obtain ⟨n, hn, rfl⟩ := List.mem_map.mp hp
      exact NW_free (.inl (by decide)) hs
theorem parts_text (Rs : List (List Nat)) : parts (textW Rs) "\n" = linesW Rs ++ [Str.ofString ""] := by
  unfold parts
  rw [textW_join]
  refine split_join e_nl (by decide +kernel) (by simp) fun p hp => ?_
  rcases List.mem_append.mp hp with hp | hp
  · rcases List.mem_cons.mp hp with rfl | hp
    · rw [show tl (Str.ofString "table") = [116, 97, 98, 108, 101] from by decide +kernel]
      simp
    · obtain ⟨r, hr, rfl⟩ := List.mem_map.mp hp
      exact lineW_free r
  · have e : p = Str.ofString "" := by simpa using hp
    subst e
    rw [show tl (Str.ofString "") = [] from e_nil]
    simp
theorem firstFrom_all {p : Nat → Bool} : ∀ {n i : Nat}, (∀ j, i ≤ j → j < i + n → p j = false) → firstFrom p i n = none
  | 0, _, _ => rfl
  | n + 1, i, h => by
    unfold firstFrom
    rw [h i (Nat.le_refl _) (by omega), if_neg Bool.false_ne_true]
    exact firstFrom_all fun j h1 h2 => h j (by omega) (by omega)
theorem okR_at : ∀ {Rs : List (List Nat)} {k j : Nat} {r : List Nat}, okR k Rs → Rs[j]? = some r → r.length = k + j + 1 ∧ ∀ n ∈ r, n < 1000
  | r :: Rs, k, 0, x, h, e => by
    have e' : r = x := by simpa using e
    subst e'
    exact ⟨h.1, h.2.1⟩
  | r :: Rs, k, j + 1, x, h, e => by
    have q := okR_at h.2.2 (by simpa using e)
    exact ⟨by rw [q.1]; omega, q.2⟩
theorem read_text (Rs : List (List Nat)) (h : okR 0 Rs) (h1 : 1 ≤ Rs.length) (h7 : Rs.length ≤ 7) : (readV (parts (textW Rs) "\n")).1 = some Rs := by
  rw [parts_text]
  have hl : (linesW Rs ++ [Str.ofString ""]).length = Rs.length + 2 := by unfold linesW; simp
  have a0 : lnAt (linesW Rs ++ [Str.ofString ""]) 0 = Str.ofString "table" := rfl
  have aj : ∀ j r, Rs[j]? = some r → rowAt (linesW Rs ++ [Str.ofString ""]) j = some r := fun j r e => by
    have hj : j < Rs.length := (List.getElem?_eq_some_iff.mp e).1
    have q := okR_at h e
    have el : lnAt (linesW Rs ++ [Str.ofString ""]) (j + 1) = lineW r := by
      unfold lnAt linesW
      rw [List.getD_eq_getElem?_getD, List.cons_append, List.getElem?_cons_succ, List.getElem?_append_left (by rw [List.length_map]; exact hj), List.getElem?_map, e]
      rfl
    unfold rowAt
    rw [el]
    have e3 : j + 1 = r.length := by rw [q.1]; omega
    rw [e3]
    exact lineV_lineW (by intro z; subst z; simp at e3) q.2 (by omega)
  have al : lnAt (linesW Rs ++ [Str.ofString ""]) (Rs.length + 1) = Str.ofString "" := by
    unfold lnAt linesW
    rw [List.getD_eq_getElem?_getD, List.getElem?_append_right (by simp)]
    simp
  have hf : firstFrom (pBad (linesW Rs ++ [Str.ofString ""])) 0 Rs.length = none := firstFrom_all fun j _ hj => by
    have e : Rs[j]? = some Rs[j] := List.getElem?_eq_getElem (by omega)
    unfold pBad
    rw [aj j _ e]
    rfl
  have hacc : accOf (linesW Rs ++ [Str.ofString ""]) Rs.length = Rs := by
    refine List.ext_getElem? fun j => ?_
    unfold accOf
    rw [List.getElem?_map]
    rcases Nat.lt_or_ge j Rs.length with hj | hj
    · have e : Rs[j]? = some Rs[j] := List.getElem?_eq_getElem hj
      rw [List.getElem?_range hj, Option.map_some, aj j _ e, e]
      rfl
    · rw [List.getElem?_eq_none (by rw [List.length_range]; exact hj), List.getElem?_eq_none hj]
      rfl
  rw [readV_else (by rw [hl, a0]; rintro (q | q); omega; exact q rfl), hl]
  rw [show Rs.length + 2 - 2 = Rs.length by omega, show Rs.length + 2 - 1 = Rs.length + 1 by omega, hf, al, hacc]
  show (if _ then some Rs else none) = some Rs
  rw [if_pos (And.intro rfl h1)]
/-- what was read is the text -/
theorem text_read {v : Str} {Rs : List (List Nat)} (h : (readV (parts v "\n")).1 = some Rs) : textW Rs = v ∧ okR 0 Rs ∧ 1 ≤ Rs.length ∧ Rs.length ≤ 7 := by
  have hpos : 1 ≤ (parts v "\n").length := split_pos v _
  have hjoin : Str.join (Str.ofString "\n") (parts v "\n") = v := StrLaws.join_split v _
  generalize parts v "\n" = ls at *
  by_cases hb : ls.length < 2 ∨ lnAt ls 0 ≠ Str.ofString "table"
  · rw [readV_bad hb] at h
    cases h
  · rw [readV_else hb] at h
    cases e : firstFrom (pBad ls) 0 (ls.length - 2) with
    | some i => rw [e] at h; cases h
    | none =>
      rw [e] at h
      have h : (if lnAt ls (ls.length - 1) = Str.ofString "" ∧ 1 ≤ ls.length - 2 then some (accOf ls (ls.length - 2)) else none) = some Rs := h
      split at h
      · rename_i hc
        cases h
        obtain ⟨q1, q2, q3, q4⟩ := acc_ok (ls := ls) (m := ls.length - 2) fun j hj => firstFrom_none e j (Nat.zero_le _) (by omega)
        have h2 : 2 ≤ ls.length := by
          rcases Nat.lt_or_ge ls.length 2 with z | z
          · exact absurd (.inl z) hb
          · exact z
        have h0 : lnAt ls 0 = Str.ofString "table" := by
          by_cases z : lnAt ls 0 = Str.ofString "table"
          · exact z
          · exact absurd (.inr z) hb
        refine ⟨?_, q1, by omega, by omega⟩
        rw [textW_join, join_eq]
        have el : linesW (accOf ls (ls.length - 2)) ++ [Str.ofString ""] = ls := by
          refine List.ext_getElem? fun j => ?_
          have at' : ∀ j, j < ls.length → ls[j]? = some (lnAt ls j) := fun j hj => by rw [List.getElem?_eq_getElem hj]; simp [lnAt, hj]
          unfold linesW
          rcases Nat.eq_zero_or_pos j with z | z
          · subst z
            rw [at' 0 (by omega), h0]
            rfl
          · obtain ⟨i, rfl⟩ : ∃ i, j = i + 1 := ⟨j - 1, by omega⟩
            rw [List.cons_append, List.getElem?_cons_succ]
            rcases Nat.lt_or_ge i (ls.length - 2) with hi | hi
            · obtain ⟨r, g1, g2, _⟩ := q4 i hi
              rw [List.getElem?_append_left (by rw [List.length_map, q2]; exact hi), List.getElem?_map, g1, at' (i + 1) (by omega), g2]
              rfl
            · rw [List.getElem?_append_right (by rw [List.length_map, q2]; exact hi), List.length_map, q2]
              rcases Nat.eq_or_lt_of_le hi with z | z
              · rw [at' (i + 1) (by omega), show i + 1 = ls.length - 1 by omega, hc.1, ← z, Nat.sub_self]
                rfl
              · rw [List.getElem?_eq_none (by simp; omega), List.getElem?_eq_none (by omega)]
        rw [el]
        exact hjoin
      · cases h
end Mk93


set_option Elab.async false
set_option linter.all false
set_option maxRecDepth 100000
set_option autoImplicit false
set_option maxHeartbeats 4000000
namespace Mk93
open ML PySem PySem.Spec PyProof.Rows L2 TL
/-! ### bent texts: what is made are texts of bounded length -/
def GT (m : M D) (ev : Ev) (S : Sto) (B : Nat) : Prop := ∃ x : Str, m ev S = .ok (.str x) S ∧ x.length ≤ B
def GL (m : M D) (ev : Ev) (S : Sto) (n B : Nat) : Prop := ∃ xs : List Str, m ev S = .ok (.lst (xs.map D.str)) S ∧ xs.length ≤ n ∧ ∀ x ∈ xs, x.length ≤ B
def GA (m : M (List D)) (ev : Ev) (S : Sto) (k B : Nat) : Prop := ∃ xs : List Str, m ev S = .ok (xs.map D.str) S ∧ xs.length = k ∧ ∀ x ∈ xs, x.length ≤ B
section
variable {ev : Ev} {S : Sto} {A B n k : Nat} {a b : M D} {ml : M (List D)}
theorem gt_var {i : Nat} {x : Str} (h : ev[i]? = some (some (.str x))) (hl : x.length ≤ B) : GT (mVar i) ev S B := ⟨x, by unfold mVar; rw [h]; rfl, hl⟩
theorem gt_c {x : Str} (hl : x.length ≤ B) : GT (mC (.str x)) ev S B := ⟨x, rfl, hl⟩
theorem gt_add {nw : Bool} (h1 : GT a ev S A) (h2 : GT b ev S B) (hz : A + B ≤ 16777216) : GT (m2 (padd nw) a b) ev S (A + B) := by
  obtain ⟨x, e1, l1⟩ := h1
  obtain ⟨y, e2, l2⟩ := h2
  refine ⟨x ++ y, (m2_ok e1 e2).trans ?_, by rw [len_app]; omega⟩
  show (if x.length + y.length ≤ 16777216 then R.ok (D.str (x ++ y)) S else R.no) = _
  exact if_pos (by omega)
theorem gt_slice {nw : Bool} {ol oh : M (Option Int)} {lo hi : Option Int} (h1 : GT a ev S A) (e1 : ol ev S = .ok lo S) (e2 : oh ev S = .ok hi S) (hz : A ≤ 16777216) : GT (mSl nw a ol oh) ev S A := by
  obtain ⟨x, e, l⟩ := h1
  refine ⟨cutS x lo hi, ?_, Nat.le_trans (cutS_length _ _ _) l⟩
  unfold mSl
  rw [e, bind_ok, e1, bind_ok, e2, bind_ok]
  show (if x.length ≤ 16777216 then R.ok (D.str (cutS x lo hi)) S else R.no) = _
  exact if_pos (by omega)
theorem gl_var {i : Nat} {xs : List Str} (h : ev[i]? = some (some (.lst (xs.map D.str)))) (hn : xs.length ≤ n) (hl : ∀ x ∈ xs, x.length ≤ B) : GL (mVar i) ev S n B := ⟨xs, by unfold mVar; rw [h]; rfl, hn, hl⟩
theorem cut_sub {α : Type} (xs : List α) (lo hi : Option Int) : (ML.cutD xs lo hi).length ≤ xs.length ∧ ∀ x ∈ ML.cutD xs lo hi, x ∈ xs := by
  unfold ML.cutD
  exact ⟨by rw [List.length_take, List.length_drop]; omega, fun x hx => List.mem_of_mem_drop (List.mem_of_mem_take hx)⟩
theorem gl_slice {ol oh : M (Option Int)} {lo hi : Option Int} (h1 : GL a ev S n B) (e1 : ol ev S = .ok lo S) (e2 : oh ev S = .ok hi S) : GL (mSl false a ol oh) ev S n B := by
  obtain ⟨xs, e, l, hx⟩ := h1
  have q := cut_sub xs lo hi
  refine ⟨ML.cutD xs lo hi, ?_, Nat.le_trans q.1 l, fun x h => hx x (q.2 x h)⟩
  unfold mSl
  rw [e, bind_ok, e1, bind_ok, e2, bind_ok, ← cutD_map]
  rfl
theorem gl_add {m : Nat} (h1 : GL a ev S n B) (h2 : GL b ev S m B) (hz : n + m ≤ 16777216) : GL (m2 (padd false) a b) ev S (n + m) B := by
  obtain ⟨xs, e1, l1, hx⟩ := h1
  obtain ⟨ys, e2, l2, hy⟩ := h2
  refine ⟨xs ++ ys, (m2_ok e1 e2).trans ?_, by rw [List.length_append]; omega, fun x h => ?_⟩
  · show (if (xs.map D.str).length + (ys.map D.str).length ≤ 16777216 then mkL false (xs.map D.str ++ ys.map D.str) S else R.no) = _
    rw [if_pos (by rw [List.length_map, List.length_map]; omega), List.map_append]
    rfl
  · rcases List.mem_append.mp h with h | h
    · exact hx x h
    · exact hy x h
theorem join_len (y : Str) (B : Nat) : ∀ xs : List Str, (∀ x ∈ xs, x.length ≤ B) → (joinL (tl y) (xs.map tl)).length ≤ xs.length * B + xs.length * y.length
  | [], _ => by simp [joinL]
  | [x], h => by
    have := h x (by simp)
    rw [len_tl] at this
    show (tl x).length ≤ 1 * B + 1 * y.length
    omega
  | x :: z :: r, h => by
    have h1 := h x (by simp)
    rw [len_tl] at h1
    have ih := join_len y B (z :: r) fun u hu => h u (List.mem_cons_of_mem _ hu)
    have e : joinL (tl y) ((x :: z :: r).map tl) = tl x ++ (tl y ++ joinL (tl y) ((z :: r).map tl)) := rfl
    have e2 : (x :: z :: r).length = (z :: r).length + 1 := rfl
    rw [e, List.length_append, List.length_append, e2, Nat.add_mul, Nat.add_mul, ← len_tl y]
    omega
theorem gt_join {x : Str} {C : Nat} (h : GL a ev S n B) (hz : n * B + n * x.length ≤ C) (hC : C ≤ 16777216) : GT (mMe isStr pjoin (mC (.str x)) (mCons a mNil)) ev S C := by
  obtain ⟨xs, e, l, hx⟩ := h
  have b1 : xs.length * B ≤ n * B := Nat.mul_le_mul_right _ l
  have b2 : xs.length * x.length ≤ n * x.length := Nat.mul_le_mul_right _ l
  have hj := pjoin_ok x id xs S B hx (by omega)
  refine ⟨Txt.join x (xs.map id), ?_, ?_⟩
  · unfold mMe
    rw [show mC (.str x) ev S = .ok (.str x) S from rfl, bind_ok, if_pos (show isStr S (.str x) = true from rfl), mCons_ok e rfl, bind_ok]
    exact hj
  · rw [List.map_id, join_eq, len_tl, tl_join]
    exact Nat.le_trans (join_len x B xs hx) (by omega)
theorem gt_repl {y z : Str} {C : Nat} (h : GT a ev S A) (hz : A + (A + 1) * z.length ≤ C) (hC : C ≤ 16777216) : GT (m1 (prepl y z) a) ev S C := by
  obtain ⟨x, e, l⟩ := h
  have q : x.length + (x.length + 1) * z.length ≤ A + (A + 1) * z.length := Nat.add_le_add l (Nat.mul_le_mul_right _ (by omega))
  refine ⟨Txt.replace x y z, ?_, Nat.le_trans (TK.replace_len x y z) (by omega)⟩
  unfold m1
  rw [e, bind_ok]
  show (if x.length + (x.length + 1) * z.length ≤ 16777216 then R.ok (D.str (Txt.replace x y z)) S else R.no) = _
  exact if_pos (by omega)
theorem GT.mono (h : GT a ev S A) (l : A ≤ B) : GT a ev S B := by obtain ⟨x, e, k⟩ := h; exact ⟨x, e, Nat.le_trans k l⟩
theorem ga_nil : GA mNil ev S 0 B := ⟨[], rfl, rfl, fun x h => by simp at h⟩
theorem ga_cons (h : GT a ev S A) (hl : A ≤ B) (r : GA ml ev S k B) : GA (mCons a ml) ev S (k + 1) B := by
  obtain ⟨x, e, l⟩ := h
  obtain ⟨xs, e2, l2, hx⟩ := r
  refine ⟨x :: xs, mCons_ok e e2, by rw [List.length_cons, l2], fun u hu => ?_⟩
  rcases List.mem_cons.mp hu with rfl | hu
  · omega
  · exact hx u hu
end
theorem law_bent (n : Nat) (text : Str) (S : Sto) (hp : Pot S n) (h1 : 1 ≤ text.length) (hz : text.length ≤ 300) : ∃ v S', m__law_bent [.ref n, .str text] S = .ok (.str v) S' ∧ v.length ≤ 1000000 ∧ Keep S S' := by
  have hsp := split_len text "\n" c10
  have hpos : 1 ≤ (parts text "\n").length := split_pos text _
  have hpl : ∀ p ∈ parts text "\n", p.length ≤ 300 := fun p hp => Nat.le_trans (part_len hp) hz
  have hs : Txt.split text (Str.ofString "\n") = parts text "\n" := rfl
  generalize parts text "\n" = ls at *
  have hz2 : text.length + 2 ≤ 16777216 := by omega
  -- lines
  have a1 : mMe isStr (psplit false) (mVar 1) (mCons (mC (.str "\n")) (mNil)) [some (.ref n), some (.str text), none, none, none, none, none] S = .ok (.lst (ls.map D.str)) S := by
    unfold mMe
    rw [show mVar 1 [some (.ref n), some (.str text), none, none, none, none, none] S = .ok (.str text) S from rfl, bind_ok, if_pos (show isStr S (.str text) = true from rfl), mCons_ok (ma := mC (.str "\n")) (d := .str "\n") (S1 := S) rfl (show mNil _ S = .ok [] S from rfl), bind_ok]
    show (if ((Str.ofString "\n").length == 0) = false ∧ text.length + 2 ≤ 16777216 then mkL false ((Txt.split text (Str.ofString "\n")).map D.str) S else R.no) = _
    rw [if_pos (And.intro c10' hz2), hs]
    rfl
  -- two places
  obtain ⟨at', S1, d1, c1, x0, x1⟩ := draw_chg (many := (ls.length : Int)) hp (by omega) (by omega)
  have hp1 := c1.pot hp
  obtain ⟨spot, S2, d2, c2, y0, y1⟩ := draw_chg (many := (text.length : Int)) hp1 (by omega) (by omega)
  have hp2 := c2.pot hp1
  have hk2 : Keep S S2 := (chg_keep c1 hp).trans (chg_keep c2 hp1)
  have a2 : sPar 3 4 (mCons (mCall 2 m__law_draw (mCons (mVar 0) (mCons (mL plen (mCons (mVar 2) (mNil))) (mNil)))) (mCons (mCall 2 m__law_draw (mCons (mVar 0) (mCons (mL plen (mCons (mVar 1) (mNil))) (mNil)))) (mNil))) [some (.ref n), some (.str text), some (.lst (ls.map D.str)), none, none, none, none] S = .ok .nx [some (.ref n), some (.str text), some (.lst (ls.map D.str)), some (.int at'), some (.int spot), none, none] S2 := by
    have q1 : mCall 2 m__law_draw (mCons (mVar 0) (mCons (mL plen (mCons (mVar 2) (mNil))) (mNil))) [some (.ref n), some (.str text), some (.lst (ls.map D.str)), none, none, none, none] S = .ok (.int at') S1 := by
      have e : plen [.lst (ls.map D.str)] S = .ok (.int (ls.length : Nat)) S := by simp [plen, seqOf]
      unfold mCall
      rw [mCons_ok (ma := mVar 0) (d := .ref n) (S1 := S) rfl (mCons_ok ((mL_ok (p := plen) (mCons_ok (ma := mVar 2) (d := .lst (ls.map D.str)) (S1 := S) rfl (show mNil _ S = .ok [] S from rfl))).trans e) (show mNil _ S = .ok [] S from rfl)), bind_ok]
      exact d1
    have q2 : mCall 2 m__law_draw (mCons (mVar 0) (mCons (mL plen (mCons (mVar 1) (mNil))) (mNil))) [some (.ref n), some (.str text), some (.lst (ls.map D.str)), none, none, none, none] S1 = .ok (.int spot) S2 := by
      have e : plen [.str text] S1 = .ok (.int (text.length : Nat)) S1 := by simp [plen]; omega
      unfold mCall
      rw [mCons_ok (ma := mVar 0) (d := .ref n) (S1 := S1) rfl (mCons_ok ((mL_ok (p := plen) (mCons_ok (ma := mVar 1) (d := .str text) (S1 := S1) rfl (show mNil _ S1 = .ok [] S1 from rfl))).trans e) (show mNil _ S1 = .ok [] S1 from rfl)), bind_ok]
      exact d2
    unfold sPar
    rw [mCons_ok q1 (mCons_ok q2 (show mNil _ S2 = .ok [] S2 from rfl))]
    rfl
  obtain ⟨dsg, S3, e3, c3, hd⟩ := pick_ok (ds := [.str "0", .str "1", .str ",", .str " ", .str "\n", .str "row", .str "-", .str "x", .str "00"]) hp2 (by simp) (by simp)
  obtain ⟨sign, rfl, hsg⟩ : ∃ x : Str, dsg = .str x ∧ x.length ≤ 3 := by
    simp only [List.mem_cons, List.not_mem_nil, or_false] at hd
    rcases hd with rfl | rfl | rfl | rfl | rfl | rfl | rfl | rfl | rfl <;> exact ⟨_, rfl, by decide +kernel⟩
  have hp3 := c3.pot hp2
  have hk3 := hk2.trans (chg_keep c3 hp2)
  have a3 : sSet 5 (mCall 2 m__law_pick (mCons (mVar 0) (mCons (mL ptup (mCons (mC (.str "0")) (mCons (mC (.str "1")) (mCons (mC (.str ",")) (mCons (mC (.str " ")) (mCons (mC (.str "\n")) (mCons (mC (.str "row")) (mCons (mC (.str "-")) (mCons (mC (.str "x")) (mCons (mC (.str "00")) (mNil))))))))))) (mNil)))) [some (.ref n), some (.str text), some (.lst (ls.map D.str)), some (.int at'), some (.int spot), none, none] S2 = .ok .nx [some (.ref n), some (.str text), some (.lst (ls.map D.str)), some (.int at'), some (.int spot), some (.str sign), none] S3 := sSet_ok (by
    show mPick [.ref n, .tup [.str "0", .str "1", .str ",", .str " ", .str "\n", .str "row", .str "-", .str "x", .str "00"]] S2 = _
    exact e3)
  have gt : ∀ (ev : Ev) (S : Sto), ev[1]? = some (some (.str text)) → GT (mVar 1) ev S 300 := fun ev S h => gt_var h hz
  have hd1 : ∀ (x : Option D) (S : Sto), GT (mSl false (mVar 1) (oNone) (oSome (mVar 4))) [some (.ref n), some (.str text), some (.lst (ls.map D.str)), some (.int at'), some (.int spot), some (.str sign), x] S 300 := fun x S => gt_slice (lo := none) (hi := some spot) (gt _ S rfl) rfl rfl (by decide)
  have tl1 : ∀ (x : Option D) (S : Sto), GT (mSl false (mVar 1) (oSome (m2 (padd false) (mVar 4) (mC (.int 1)))) (oNone)) [some (.ref n), some (.str text), some (.lst (ls.map D.str)), some (.int at'), some (.int spot), some (.str sign), x] S 300 := fun x S => gt_slice (lo := some (spot + 1)) (hi := none) (gt _ S rfl) rfl rfl (by decide)
  have tl0 : ∀ (x : Option D) (S : Sto), GT (mSl false (mVar 1) (oSome (mVar 4)) (oNone)) [some (.ref n), some (.str text), some (.lst (ls.map D.str)), some (.int at'), some (.int spot), some (.str sign), x] S 300 := fun x S => gt_slice (lo := some spot) (hi := none) (gt _ S rfl) rfl rfl (by decide)
  have sg : ∀ (x : Option D) (S : Sto), GT (mVar 5) [some (.ref n), some (.str text), some (.lst (ls.map D.str)), some (.int at'), some (.int spot), some (.str sign), x] S 3 := fun x S => gt_var rfl hsg
  have c6' : (Str.ofString "row 1\n").length = 6 := by decide +kernel
  have c1' : (Str.ofString " ").length = 1 := by decide +kernel
  have c2' : (Str.ofString ", ").length = 2 := by decide +kernel
  obtain ⟨xs, q5, q5l, hx⟩ := ga_cons (B := 1000000) (gt_add (nw := false) (hd1 none S3) (tl1 none S3) (by decide)) (by decide) (ga_cons (gt_add (nw := false) (gt_add (nw := false) (hd1 none S3) (sg none S3) (by decide)) (tl0 none S3) (by decide)) (by decide)
    (ga_cons (gt_add (nw := false) (gt_add (nw := false) (hd1 none S3) (sg none S3) (by decide)) (tl1 none S3) (by decide)) (by decide) (ga_cons (hd1 none S3) (by decide) (ga_cons (gt_add (nw := false) (gt _ S3 rfl) (gt_c (x := Str.ofString "row 1\n") (B := 6) (Nat.le_of_eq c6')) (by decide)) (by decide) ga_nil))))
  have hnc : S3.length ≠ n := by have := hp3.lt; omega
  have hget : ∀ c : Cell, (S3 ++ [c])[S3.length]? = some c := fun c => by rw [List.getElem?_append_right (Nat.le_refl _), Nat.sub_self]; rfl
  have hset : ∀ c d : Cell, (S3 ++ [c]).set S3.length d = S3 ++ [d] := fun c d => by rw [List.set_append, if_neg (Nat.lt_irrefl _), Nat.sub_self]; rfl
  have a4 := sSet_ok (i := 6) ((mL_ok (p := plst true) q5).trans (show plst true (xs.map D.str) S3 = .ok (.ref S3.length) (S3 ++ [.lst (xs.map D.str)]) from by
    show (if (xs.map D.str).length ≤ 16777216 then mkL true (xs.map D.str) S3 else R.no) = _
    rw [if_pos (by rw [List.length_map, q5l]; decide)]
    rfl))
  have gl : ∀ (S : Sto), GL (mVar 2) [some (.ref n), some (.str text), some (.lst (ls.map D.str)), some (.int at'), some (.int spot), some (.str sign), some (.ref S3.length)] S 302 300 := fun S => gl_var rfl (by omega) hpl
  have lh : ∀ S, GL (mSl false (mVar 2) (oNone) (oSome (mVar 3))) [some (.ref n), some (.str text), some (.lst (ls.map D.str)), some (.int at'), some (.int spot), some (.str sign), some (.ref S3.length)] S 302 300 := fun S => gl_slice (lo := none) (hi := some at') (gl S) rfl rfl
  have lt : ∀ S, GL (mSl false (mVar 2) (oSome (m2 (padd false) (mVar 3) (mC (.int 1)))) (oNone)) [some (.ref n), some (.str text), some (.lst (ls.map D.str)), some (.int at'), some (.int spot), some (.str sign), some (.ref S3.length)] S 302 300 := fun S => gl_slice (lo := some (at' + 1)) (hi := none) (gl S) rfl rfl
  have lm : ∀ S, GL (mSl false (mVar 2) (oSome (mVar 3)) (oSome (m2 (padd false) (mVar 3) (mC (.int 1))))) [some (.ref n), some (.str text), some (.lst (ls.map D.str)), some (.int at'), some (.int spot), some (.str sign), some (.ref S3.length)] S 302 300 := fun S => gl_slice (lo := some at') (hi := some (at' + 1)) (gl S) rfl rfl
  have l0 : ∀ S, GL (mSl false (mVar 2) (oSome (mVar 3)) (oNone)) [some (.ref n), some (.str text), some (.lst (ls.map D.str)), some (.int at'), some (.int spot), some (.str sign), some (.ref S3.length)] S 302 300 := fun S => gl_slice (lo := some at') (hi := none) (gl S) rfl rfl
  obtain ⟨ys, q6, q6l, hy⟩ := ga_cons (B := 1000000) (gt_join (x := Str.ofString "\n") (C := 1000000) (gl_add (lh (S3 ++ [.lst (xs.map D.str)])) (lt _) (by decide)) (by rw [c10]; decide) (by decide)) (by decide)
    (ga_cons (gt_join (x := Str.ofString "\n") (C := 1000000) (gl_add (gl_add (lh (S3 ++ [.lst (xs.map D.str)])) (lm _) (by decide)) (l0 _) (by decide)) (by rw [c10]; decide) (by decide)) (by decide)
    (ga_cons (gt_add (nw := false) (gt _ (S3 ++ [.lst (xs.map D.str)]) rfl) (gt _ _ rfl) (by decide)) (by decide) (ga_cons (gt_add (nw := false) (gt_c (x := Str.ofString " ") (B := 1) (Nat.le_of_eq c1')) (gt _ (S3 ++ [.lst (xs.map D.str)]) rfl) (by decide)) (by decide)
    (ga_cons (gt_slice (nw := false) (ol := oNone) (oh := oSome (m1 pneg (mC (.int 1)))) (lo := none) (hi := some (-1)) (gt _ (S3 ++ [.lst (xs.map D.str)]) rfl) rfl rfl (by decide)) (by decide) (ga_cons (gt_repl (y := Str.ofString ",") (z := Str.ofString ", ") (C := 1000000) (gt _ (S3 ++ [.lst (xs.map D.str)]) rfl) (by rw [c2']; decide) (by decide)) (by decide) ga_nil)))))
  have a5 := (mL_ok (p := plst false) q6).trans (show plst false (ys.map D.str) (S3 ++ [.lst (xs.map D.str)]) = .ok (.lst (ys.map D.str)) (S3 ++ [.lst (xs.map D.str)]) from by
    show (if (ys.map D.str).length ≤ 16777216 then mkL false (ys.map D.str) (S3 ++ [.lst (xs.map D.str)]) else R.no) = _
    rw [if_pos (by rw [List.length_map, q6l]; decide)]
    rfl)
  have hp5 : Pot (S3 ++ [.lst ((xs ++ ys).map D.str)]) n := keep_app S3 _ n hp3
  obtain ⟨dv, S6, e6, c6, hmem⟩ := pickL_ok (x := .ref S3.length) (ds := (xs ++ ys).map D.str) hp5 (fun S' hc => by
    have q := hc.other hnc
    rw [hget] at q
    show (match S'[S3.length]? with | some (.lst ds) => some ds | _ => none) = _
    rw [q]) (fun z => by have := congrArg List.length z; rw [List.length_map, List.length_append, q5l] at this; simp at this) (by rw [List.length_map, List.length_append, q5l, q6l]; decide)
  obtain ⟨v, hv, rfl⟩ := List.mem_map.mp hmem
  refine ⟨v, S6, ?_, ?_, (hk3.trans (keep_app S3 _)).trans (chg_keep c6 hp5)⟩
  · have hsq : isSeq (S3 ++ [.lst (xs.map D.str)]) (.ref S3.length) = true := by unfold isSeq seqOf; simp
    have ext : pextend (.ref S3.length) [.lst (ys.map D.str)] (S3 ++ [.lst (xs.map D.str)]) = .ok .non (S3 ++ [.lst ((xs ++ ys).map D.str)]) := by
      show (match (S3 ++ [Cell.lst (xs.map D.str)])[S3.length]?, some (ys.map D.str) with | some (.lst ds), some es => if ds.length + es.length ≤ 16777216 then R.ok D.non ((S3 ++ [Cell.lst (xs.map D.str)]).set S3.length (.lst (ds ++ es))) else R.no | _, _ => R.no) = _
      rw [hget]
      show (if (xs.map D.str).length + (ys.map D.str).length ≤ 16777216 then R.ok D.non ((S3 ++ [Cell.lst (xs.map D.str)]).set S3.length (.lst (xs.map D.str ++ ys.map D.str))) else R.no) = _
      rw [if_pos (by rw [List.length_map, List.length_map, q5l, q6l]; decide), hset, List.map_append]
    have s1 := sSet_ok (i := 2) a1
    have hmm : ∀ {mm : M D} {ev : Ev}, ev[6]? = some (some (.ref S3.length)) → mm ev (S3 ++ [.lst (xs.map D.str)]) = .ok (.lst (ys.map D.str)) (S3 ++ [.lst (xs.map D.str)]) → sExpr (mMe isSeq pextend (mVar 6) (mCons mm mNil)) ev (S3 ++ [.lst (xs.map D.str)]) = .ok .nx ev (S3 ++ [.lst ((xs ++ ys).map D.str)]) := fun {mm ev} h6 h => by
      have z : mVar 6 ev (S3 ++ [.lst (xs.map D.str)]) = .ok (.ref S3.length) (S3 ++ [.lst (xs.map D.str)]) := by unfold mVar; rw [h6]; rfl
      have z2 : mMe isSeq pextend (mVar 6) (mCons mm mNil) ev (S3 ++ [.lst (xs.map D.str)]) = .ok .non (S3 ++ [.lst ((xs ++ ys).map D.str)]) := by
        unfold mMe
        rw [z, bind_ok, if_pos hsq, mCons_ok h (show mNil ev _ = .ok [] _ from rfl), bind_ok, ext]
      unfold sExpr
      rw [z2]
      rfl
    have s6 := sRet_ok (ma := mCall 2 m__law_pick (mCons (mVar 0) (mCons (mVar 6) (mNil)))) (ev := [some (.ref n), some (.str text), some (.lst (ls.map D.str)), some (.int at'), some (.int spot), some (.str sign), some (.ref S3.length)]) (S := S3 ++ [.lst ((xs ++ ys).map D.str)]) (d := .str v) (S1 := S6) (by
      show mPick [.ref n, .ref S3.length] _ = _
      exact e6)
    have fin : b__law_bent [some (.ref n), some (.str text), none, none, none, none, none] S = .ok (.rt (.str v)) [some (.ref n), some (.str text), some (.lst (ls.map D.str)), some (.int at'), some (.int spot), some (.str sign), some (.ref S3.length)] S6 := by
      unfold b__law_bent
      exact (sCons_nx s1).trans ((sCons_nx a2).trans ((sCons_nx a3).trans ((sCons_nx a4).trans ((sCons_nx (hmm rfl a5)).trans s6))))
    show endS (b__law_bent [some (.ref n), some (.str text), none, none, none, none, none] S) = _
    rw [fin]
    rfl
  · rcases List.mem_append.mp hv with h | h
    · exact hx v h
    · exact hy v h
end Mk93


set_option Elab.async false
set_option linter.all false
set_option maxRecDepth 100000
set_option autoImplicit false
set_option maxHeartbeats 4000000
namespace Mk93
open ML PySem PySem.Spec PyProof.Rows L2 TL
def rowP (r : List Nat) : PyData := .tuple (r.map fun (n : Nat) => .int (n : Int))
def tblP (Rs : List (List Nat)) : PyData := .tuple [.str (Str.ofString "table"), .tuple (Rs.map rowP)]
theorem py_ints (k : Nat) (S : Sto) : ∀ r : List Nat, pyL (py (k + 1) S) (intsD r) = some (r.map fun (n : Nat) => .int (n : Int))
  | [] => rfl
  | n :: r => by show (match py (k + 1) S (D.int (n : Int)), pyL (py (k + 1) S) (intsD r) with | some x, some xs => some (x :: xs) | _, _ => none) = _; rw [py_ints k S r]; rfl
theorem py_row (k : Nat) (S : Sto) (r : List Nat) : py (k + 2) S (rowD r) = some (rowP r) := by
  show (match pyL (py (k + 1) S) (intsD r) with | some xs => some (PyData.tuple xs) | none => none) = _
  rw [py_ints]
  rfl
theorem py_rows (k : Nat) (S : Sto) : ∀ Rs : List (List Nat), pyL (py (k + 2) S) (Rs.map rowD) = some (Rs.map rowP)
  | [] => rfl
  | r :: Rs => by show (match py (k + 2) S (rowD r), pyL (py (k + 2) S) (Rs.map rowD) with | some x, some xs => some (x :: xs) | _, _ => none) = _; rw [py_row, py_rows k S Rs]; rfl
theorem py_tbl (S : Sto) (Rs : List (List Nat)) : py deep S (tbl Rs) = some (tblP Rs) := by
  have e1 : py 11 S (.str (Str.ofString "table")) = some (.str (Str.ofString "table")) := by
    show (if PyData.strOk (Str.ofString "table") = true then some (PyData.str (Str.ofString "table")) else none) = _
    rw [if_pos (by decide +kernel)]
  have e2 : py 11 S (.tup (Rs.map rowD)) = some (.tuple (Rs.map rowP)) := by
    show (match pyL (py 10 S) (Rs.map rowD) with | some xs => some (PyData.tuple xs) | none => none) = _
    rw [py_rows 8 S Rs]
  show (match pyL (py 11 S) [.str (Str.ofString "table"), .tup (Rs.map rowD)] with | some xs => some (PyData.tuple xs) | none => none) = _
  have e3 : pyL (py 11 S) [.str (Str.ofString "table"), .tup (Rs.map rowD)] = some [.str (Str.ofString "table"), .tuple (Rs.map rowP)] := by
    show (match py 11 S (.str (Str.ofString "table")), (match py 11 S (.tup (Rs.map rowD)), some ([] : List PyData) with | some x, some xs => some (x :: xs) | _, _ => none) with | some x, some xs => some (x :: xs) | _, _ => none) = _
    rw [e1, e2]
  rw [e3]
  rfl
/-! ### equality of tables -/
theorem eqv_row : ∀ r s : List Nat, PyData.eqvAll (r.map fun (n : Nat) => PyData.int (n : Int)) (s.map fun (n : Nat) => PyData.int (n : Int)) = decide (r = s)
  | [], [] => rfl
  | [], _ :: _ => rfl
  | _ :: _, [] => rfl
  | a :: r, b :: s => by
    have ih := eqv_row r s
    show (((a : Int) == (b : Int)) && PyData.eqvAll (r.map fun (n : Nat) => PyData.int (n : Int)) (s.map fun (n : Nat) => PyData.int (n : Int))) = _
    rw [ih]
    by_cases h1 : a = b
    · by_cases h2 : r = s <;> simp [h1, h2]
    · have h1' : ¬ (a : Int) = (b : Int) := by omega
      simp [h1, h1']
theorem eqv_rows : ∀ A B : List (List Nat), PyData.eqvAll (A.map rowP) (B.map rowP) = decide (A = B)
  | [], [] => rfl
  | [], _ :: _ => rfl
  | _ :: _, [] => rfl
  | a :: A, b :: B => by
    have ih := eqv_rows A B
    show (PyData.eqvAll (a.map fun (n : Nat) => PyData.int (n : Int)) (b.map fun (n : Nat) => PyData.int (n : Int)) && PyData.eqvAll (A.map rowP) (B.map rowP)) = _
    rw [ih, eqv_row]
    by_cases h1 : a = b <;> by_cases h2 : A = B <;> simp [h1, h2]
theorem peq_tbl (A B : List (List Nat)) (S : Sto) : peq (tbl A) (tbl B) S = .ok (.bl (decide (A = B))) S := by
  show (match py deep S (tbl A), py deep S (tbl B) with | some a, some b => R.ok (D.bl (PyData.eqv a b)) S | _, _ => R.no) = _
  rw [py_tbl, py_tbl]
  have e : PyData.eqv (tblP A) (tblP B) = decide (A = B) := by
    show ((Str.ofString "table" == Str.ofString "table") && (PyData.eqvAll (A.map rowP) (B.map rowP) && true)) = _
    rw [eqv_rows]
    simp
  show R.ok (D.bl (PyData.eqv (tblP A) (tblP B))) S = _
  rw [e]
theorem text_inj {A B : List (List Nat)} (hA : okR 0 A ∧ 1 ≤ A.length ∧ A.length ≤ 7) (hB : okR 0 B ∧ 1 ≤ B.length ∧ B.length ≤ 7) (h : textW A = textW B) : A = B := by
  have e1 := read_text A hA.1 hA.2.1 hA.2.2
  have e2 := read_text B hB.1 hB.2.1 hB.2.2
  rw [h, e2] at e1
  exact (Option.some.inj e1).symm
theorem textW_len (Rs : List (List Nat)) (h : okR 0 Rs) (hl : Rs.length ≤ 7) : 1 ≤ (textW Rs).length ∧ (textW Rs).length ≤ 300 := by
  have ll : (linesW Rs).length = Rs.length + 1 := by unfold linesW; rw [List.length_cons, List.length_map]
  rw [textW_join, join_eq, len_tl, tl_join]
  constructor
  · cases Rs with
    | nil => decide +kernel
    | cons r Rs =>
      show 1 ≤ (tl (Str.ofString "table") ++ _).length
      rw [List.length_append, show (tl (Str.ofString "table")).length = 5 from by decide +kernel]
      omega
  · have q := join_len (Str.ofString "\n") 32 (linesW Rs ++ [Str.ofString ""]) (fun x hx => by
      rcases List.mem_append.mp hx with hx | hx
      · exact linesW_len Rs h hl x hx
      · have e : x = Str.ofString "" := by simpa using hx
        rw [e, c0]
        decide)
    rw [List.length_append, ll, List.length_singleton, c10] at q
    omega
/-! ### repr -/
theorem shownAll_map {α : Type} (f : α → PyData) : ∀ l : List α, PyData.shownAll (l.map f) = l.map fun a => (f a).shown
  | [] => by simp [PyData.shownAll]
  | a :: l => by rw [List.map_cons, PyData.shownAll, shownAll_map f l]; rfl
theorem showableAll_map {α : Type} (f : α → PyData) : ∀ l : List α, (∀ a ∈ l, (f a).showable = true) → PyData.showableAll (l.map f) = true
  | [], _ => by simp [PyData.showableAll]
  | a :: l, h => by rw [List.map_cons, PyData.showableAll, h a (by simp), showableAll_map f l fun b hb => h b (List.mem_cons_of_mem _ hb)]; rfl
theorem repr_tbl (Rs : List (List Nat)) (h : okR 0 Rs) (hl : Rs.length ≤ 7) : ∃ x : Str, ∀ S, prepr [tbl Rs] S = .ok (.str x) S := by
  have num : ∀ n : Nat, n < 1000 → (PyData.int (n : Int)).showable = true ∧ ((PyData.int (n : Int)).shown).length ≤ 3 := fun n hn => by
    constructor
    · have e : (n : Int).natAbs.log2 < 1920 := by
        rw [Int.natAbs_natCast]
        rcases Nat.eq_zero_or_pos n with rfl | hp
        · decide
        · exact (Nat.log2_lt (by omega)).mpr (Nat.lt_of_lt_of_le hn (by decide))
      simpa [PyData.showable] using e
    · have e : (PyData.int (n : Int)).shown = NW n := by simp [PyData.shown]; rfl
      rw [e]
      exact NW_len hn
  have row : ∀ r ∈ Rs, (rowP r).showable = true ∧ ((rowP r).shown).length ≤ 100 := fun r hr => by
    have q := okR_get h r hr
    constructor
    · show PyData.showable (.tuple _) = true
      rw [PyData.showable]
      exact showableAll_map _ r fun n hn => (num n (q.1 n hn)).1
    · show (PyData.shown (.tuple _)).length ≤ 100
      rw [PyData.shown, shownAll_map]
      have t := tupleText_len_le (r.map fun (n : Nat) => (PyData.int (n : Int)).shown)
      rw [List.map_map, List.length_map] at t
      have u := sum_le (fun (n : Nat) => ((PyData.int (n : Int)).shown).length) 3 r fun n hn => (num n (q.1 n hn)).2
      have e : (List.map ((fun (x : Str) => x.length) ∘ fun (n : Nat) => (PyData.int (n : Int)).shown) r).sum = (r.map fun (n : Nat) => ((PyData.int (n : Int)).shown).length).sum := rfl
      omega
  have sh : (tblP Rs).showable = true := by
    show PyData.showable (.tuple _) = true
    rw [PyData.showable, PyData.showableAll, PyData.showableAll, PyData.showableAll, PyData.showable, PyData.showable, showableAll_map rowP Rs fun r hr => (row r hr).1]
    rfl
  have lb : ((tblP Rs).shown).length ≤ 16777216 := by
    have e0 : (PyData.shown (.str (Str.ofString "table"))).length ≤ 100 := by decide +kernel
    have e1 : (PyData.shown (.tuple (Rs.map rowP))).length ≤ 1000 := by
      rw [PyData.shown, shownAll_map]
      have t := tupleText_len_le (Rs.map fun r => (rowP r).shown)
      rw [List.map_map, List.length_map] at t
      have u := sum_le (fun r => ((rowP r).shown).length) 100 Rs fun r hr => (row r hr).2
      have e : (List.map ((fun (x : Str) => x.length) ∘ fun r => (rowP r).shown) Rs).sum = (Rs.map fun r => ((rowP r).shown).length).sum := rfl
      omega
    have e2 : (tblP Rs).shown = tupleText [PyData.shown (.str (Str.ofString "table")), PyData.shown (.tuple (Rs.map rowP))] := by
      simp [tblP, PyData.shown, PyData.shownAll]
    rw [e2]
    have t := tupleText_len_le [PyData.shown (.str (Str.ofString "table")), PyData.shown (.tuple (Rs.map rowP))]
    simp only [List.map_cons, List.map_nil, List.sum_cons, List.sum_nil, List.length_cons, List.length_nil] at t
    omega
  refine ⟨(tblP Rs).shown, fun S => ?_⟩
  show (match py deep S (tbl Rs) with | some d => if (d.showable && decide (d.shown.length ≤ 16777216)) = true then R.ok (D.str d.shown) S else R.no | none => R.no) = _
  rw [py_tbl]
  show (if ((tblP Rs).showable && decide ((tblP Rs).shown.length ≤ 16777216)) = true then R.ok (D.str (tblP Rs).shown) S else R.no) = _
  rw [sh, decide_eq_true lb]
  rfl
end Mk93


set_option Elab.async false
set_option linter.all false
set_option maxRecDepth 100000
set_option autoImplicit false
set_option maxHeartbeats 4000000
namespace Mk93
open ML PySem PySem.Spec PyProof.Rows L2 TL
theorem same_is : ∀ n, r__law_same n = rSame n
  | 0 => rfl
  | n + 1 => by
    show mDef _ (b__law_same (r__law_same n)) = mDef _ (sameB (rSame n))
    rw [same_is n]
    rfl
theorem law_same (d : D) (S : Sto) (h : pd 8 d = true) : m__law_same [d, d] S = .ok (.bl true) S := by
  show r__law_same 8 [d, d] S = _
  rw [same_is]
  exact same_ok 8 d S h
theorem call1 {m : List D → Sto → R D} {ma : M D} {ev : Ev} {S S1 : Sto} {d : D} (h : ma ev S = .ok d S1) : mCall 1 m (mCons ma mNil) ev S = m [d] S1 := by
  unfold mCall
  rw [mCons_ok h (show mNil ev S1 = .ok [] S1 from rfl)]
  rfl
theorem call2 {m : List D → Sto → R D} {ma mb : M D} {ev : Ev} {S S1 S2 : Sto} {d e : D} (h : ma ev S = .ok d S1) (k : mb ev S1 = .ok e S2) : mCall 2 m (mCons ma (mCons mb mNil)) ev S = m [d, e] S2 := by
  unfold mCall
  rw [mCons_ok h (mCons_ok k (show mNil ev S2 = .ok [] S2 from rfl))]
  rfl
theorem callK1 {m : List D → Sto → R D} {ma : M D} {ev : Ev} {S S1 : Sto} {d : D} {x : Str} (h : ma ev S = .ok d S1) : mCallK 0 ([x] : List Str).length [0] m mNil (mkCons ma mkNil) ev S = m [d] S1 := by
  have e : mkCons ma mkNil ev S = .ok [d] S1 := by unfold mkCons; rw [h]; rfl
  unfold mCallK
  rw [show mNil ev S = .ok [] S from rfl, bind_ok, e]
  rfl
theorem sIf_no {mc : M Bool} {mt : MS} {ev : Ev} {S S1 : Sto} (h : mc ev S = .ok false S1) : sIf mc mt sNil ev S = .ok .nx ev S1 := by unfold sIf; rw [h]; rfl
theorem not_true {ma : M D} {ev : Ev} {S S1 : Sto} (h : ma ev S = .ok (.bl true) S1) : tNotM (mTr ma) ev S = .ok false S1 := by unfold tNotM mTr; rw [h]; rfl
theorem pd_opt (o : Option Nat) : pd 8 (.lst [optD o, optD o]) = true := by cases o <;> rfl
def valBody : MS := sCons (sSet 10 (mCall 1 m__law_bad (mCons (mVar 9) (mNil)))) (sCons (sIf (tNotM (mTr (mCall 2 m__law_same (mCons (mL (plst false) (mCons (mCall 1 m_bad_line (mCons (mVar 9) (mNil))) (mCons (mCallK 0 (["text"] : List Str).length [0] m_bad_line mNil (mkCons (mVar 9) (mkNil))) (mNil)))) (mCons (mL (plst false) (mCons (mVar 10) (mCons (mVar 10) (mNil)))) (mNil)))))) (sRet (mC (.bl false))) (sNil)) (sCons (sSet 11 (mCall 1 m__law_read (mCons (mVar 9) (mNil)))) (sIf (tOrM (tAndM (mT (m1 pnotN (mVar 10))) (mT (m2 pne (mVar 11) (mL ptup (mCons (mC (.str "bad")) (mCons (mVar 10) (mCons (mC (.bl true)) (mNil)))))))) (tAndM (mT (m1 pisN (mVar 10))) (mT (m2 pne (mCall 1 m_table_text (mCons (mVar 11) (mNil))) (mVar 9))))) (sRet (mC (.bl false))) (sNil))))
theorem asV_opt (o : Option Nat) (S : Sto) : asVal (some (some (optD o))) S = .ok (optD o) S := by cases o <;> rfl
theorem pne_bad (k : Int) (S : Sto) : pne (.tup [.str "bad", .int k, .bl true]) (.tup [.str "bad", .int k, .bl true]) S = .ok (.bl false) S := by
  have e1 : py 11 S (.str (Str.ofString "bad")) = some (.str (Str.ofString "bad")) := by
    show (if PyData.strOk (Str.ofString "bad") = true then some (PyData.str (Str.ofString "bad")) else none) = _
    rw [if_pos (by decide +kernel)]
  have e : py 12 S (.tup [.str "bad", .int k, .bl true]) = some (.tuple [.str (Str.ofString "bad"), .int k, .bool true]) := by
    show (match pyL (py 11 S) [.str (Str.ofString "bad"), .int k, .bl true] with | some xs => some (PyData.tuple xs) | none => none) = _
    have e3 : pyL (py 11 S) [.str (Str.ofString "bad"), .int k, .bl true] = some [.str (Str.ofString "bad"), .int k, .bool true] := by
      show (match py 11 S (.str (Str.ofString "bad")), some [PyData.int k, PyData.bool true] with | some x, some xs => some (x :: xs) | _, _ => none) = _
      rw [e1]
    rw [e3]
  show (match py 12 S (.tup [.str "bad", .int k, .bl true]), py 12 S (.tup [.str "bad", .int k, .bl true]) with | some a, some b => R.ok (D.bl (!PyData.eqv a b)) S | _, _ => R.no) = _
  rw [e]
  show R.ok (D.bl (!(PyData.eqv (PyData.tuple [.str (Str.ofString "bad"), .int k, .bool true]) (PyData.tuple [.str (Str.ofString "bad"), .int k, .bool true])))) S = _
  show R.ok (D.bl (!((Str.ofString "bad" == Str.ofString "bad") && ((k == k) && ((true == true) && true))))) S = _
  simp
theorem val_turn (v : Str) (hz : v.length ≤ 1000000) (a0 a1 a2 a3 a4 a5 a6 a7 a8 y z w : Option D) (S : Sto) : ∃ b c S', valBody [a0, a1, a2, a3, a4, a5, a6, a7, a8, some (.str v), y, z, w] S = .ok .nx [a0, a1, a2, a3, a4, a5, a6, a7, a8, some (.str v), b, c, w] S' ∧ Keep S S' := by
  obtain ⟨T1, h1⟩ := law_bad v S hz
  obtain ⟨T2, h2⟩ := bad_line v (S ++ T1) hz
  obtain ⟨T3, h3⟩ := bad_line v (S ++ T1 ++ T2) hz
  obtain ⟨T4, h4⟩ := law_read v (S ++ T1 ++ T2 ++ T3) hz
  have hb := bad_read (parts v "\n") (split_pos v _)
  have s1 : sSet 10 (mCall 1 m__law_bad (mCons (mVar 9) (mNil))) [a0, a1, a2, a3, a4, a5, a6, a7, a8, some (.str v), y, z, w] S = .ok .nx [a0, a1, a2, a3, a4, a5, a6, a7, a8, some (.str v), some (optD (badV (parts v "\n"))), z, w] (S ++ T1) := sSet_ok ((call1 (ma := mVar 9) rfl).trans h1)
  have t1 : mCons (mCall 1 m_bad_line (mCons (mVar 9) (mNil))) (mCons (mCallK 0 (["text"] : List Str).length [0] m_bad_line mNil (mkCons (mVar 9) (mkNil))) (mNil)) [a0, a1, a2, a3, a4, a5, a6, a7, a8, some (.str v), some (optD (badV (parts v "\n"))), z, w] (S ++ T1) = .ok [optD (badV (parts v "\n")), optD (badV (parts v "\n"))] (S ++ T1 ++ T2 ++ T3) :=
    mCons_ok ((call1 (ma := mVar 9) rfl).trans h2) (mCons_ok ((callK1 (ma := mVar 9) rfl).trans h3) rfl)
  have v10 : mVar 10 [a0, a1, a2, a3, a4, a5, a6, a7, a8, some (.str v), some (optD (badV (parts v "\n"))), z, w] (S ++ T1 ++ T2 ++ T3) = .ok (optD (badV (parts v "\n"))) (S ++ T1 ++ T2 ++ T3) := asV_opt _ _
  have t2 : mL (plst false) (mCons (mVar 10) (mCons (mVar 10) (mNil))) [a0, a1, a2, a3, a4, a5, a6, a7, a8, some (.str v), some (optD (badV (parts v "\n"))), z, w] (S ++ T1 ++ T2 ++ T3) = .ok (.lst [optD (badV (parts v "\n")), optD (badV (parts v "\n"))]) (S ++ T1 ++ T2 ++ T3) :=
    (mL_ok (p := plst false) (mCons_ok v10 (mCons_ok v10 rfl))).trans rfl
  have q := (call2 (m := m__law_same) ((mL_ok (p := plst false) t1).trans rfl) t2).trans (law_same _ _ (pd_opt _))
  have s2 := sIf_no (mt := sRet (mC (.bl false))) (not_true q)
  have s3 : sSet 11 (mCall 1 m__law_read (mCons (mVar 9) (mNil))) [a0, a1, a2, a3, a4, a5, a6, a7, a8, some (.str v), some (optD (badV (parts v "\n"))), z, w] (S ++ T1 ++ T2 ++ T3) = .ok .nx [a0, a1, a2, a3, a4, a5, a6, a7, a8, some (.str v), some (optD (badV (parts v "\n"))), some (readD (parts v "\n")), w] (S ++ T1 ++ T2 ++ T3 ++ T4) := sSet_ok ((call1 (ma := mVar 9) rfl).trans h4)
  have s4 : sIf (tOrM (tAndM (mT (m1 pnotN (mVar 10))) (mT (m2 pne (mVar 11) (mL ptup (mCons (mC (.str "bad")) (mCons (mVar 10) (mCons (mC (.bl true)) (mNil)))))))) (tAndM (mT (m1 pisN (mVar 10))) (mT (m2 pne (mCall 1 m_table_text (mCons (mVar 11) (mNil))) (mVar 9))))) (sRet (mC (.bl false))) sNil [a0, a1, a2, a3, a4, a5, a6, a7, a8, some (.str v), some (optD (badV (parts v "\n"))), some (readD (parts v "\n")), w] (S ++ T1 ++ T2 ++ T3 ++ T4) = .ok .nx [a0, a1, a2, a3, a4, a5, a6, a7, a8, some (.str v), some (optD (badV (parts v "\n"))), some (readD (parts v "\n")), w] (S ++ T1 ++ T2 ++ T3 ++ T4) := by
    refine sIf_no ?_
    generalize S ++ T1 ++ T2 ++ T3 ++ T4 = S5
    rw [hb]
    unfold readD
    cases e : (readV (parts v "\n")).1 with
    | none =>
      have p := pne_bad (((readV (parts v "\n")).2 : Int) + 1) S5
      have c : (((readV (parts v "\n")).2 + 1 : Nat) : Int) = ((readV (parts v "\n")).2 : Int) + 1 := by omega
      simp [tOrM, tAndM, mT, m1, m2, mVar, optD, asV_int, asV_tup, pnotN, R.bind, asB, mL, mCons, mC, mNil, ptup, p, pisN]
    | some Rr =>
      obtain ⟨q1, q2, q3, q4⟩ := text_read e
      have ht := table_text Rr S5 q2 q3 q4
      rw [q1] at ht
      simp [tOrM, tAndM, mT, m1, m2, mVar, optD, asV_non, asV_str, tbl_v, pnotN, R.bind, asB, mCall, mCons, mNil, ht, pisN, pne]
  refine ⟨some (optD (badV (parts v "\n"))), some (readD (parts v "\n")), S ++ T1 ++ T2 ++ T3 ++ T4, ?_, ?_⟩
  rotate_left
  · exact ((keep_app S T1).trans (keep_app _ T2)).trans ((keep_app _ T3).trans (keep_app _ T4))
  · unfold valBody
    exact (sCons_nx s1).trans ((sCons_nx s2).trans ((sCons_nx s3).trans s4))
end Mk93


set_option Elab.async false
set_option linter.all false
set_option maxRecDepth 100000
set_option autoImplicit false
set_option maxHeartbeats 4000000
namespace Mk93
open ML PySem PySem.Spec PyProof.Rows L2 TL
theorem pd_tbl (A : List (List Nat)) (h : okR 0 A) (hl : A.length ≤ 7) (k : Nat) : pd (k + 4) (tbl A) = true := by
  have row : ∀ r ∈ A, pd (k + 2) (rowD r) = true := fun r hr => by
    have q := okR_get h r hr
    have e : (intsD r).all (pd (k + 1)) = true := by
      rw [List.all_eq_true]
      intro d hd
      obtain ⟨n, _, rfl⟩ := List.mem_map.mp hd
      rfl
    show (decide ((intsD r).length ≤ 16777216) && (intsD r).all (pd (k + 1))) = true
    rw [e, intsD_len, decide_eq_true (by omega)]
    rfl
  have e : (A.map rowD).all (pd (k + 2)) = true := by
    rw [List.all_eq_true]
    intro d hd
    obtain ⟨r, hr, rfl⟩ := List.mem_map.mp hd
    exact row r hr
  have e2 : pd (k + 3) (.tup (A.map rowD)) = true := by
    show (decide ((A.map rowD).length ≤ 16777216) && (A.map rowD).all (pd (k + 2))) = true
    rw [e, List.length_map, decide_eq_true (by omega)]
    rfl
  show (decide (2 ≤ 16777216) && (true && (pd (k + 3) (.tup (A.map rowD)) && true))) = true
  rw [e2]
  rfl
def texts9 : M D := mL (plst false) (mCons (mC (.str "")) (mCons (mC (.str "table")) (mCons (mC (.str "table\n")) (mCons (mC (.str "\n")) (mCons (mC (.str "row 1\n")) (mCons (mC (.str "table\n\n")) (mCons (mC (.str "table\nrow \n")) (mCons (mC (.str "table\nrow 1")) (mCons (mC (.str "table\nrow 1\n\n")) (mNil))))))))))
def stepBody : MS := sCons (sPar 4 5 (mCons (mCall 1 m__law_table (mCons (mVar 1) (mNil))) (mCons (mCall 1 m__law_table (mCons (mVar 1) (mNil))) (mNil)))) (sCons (sAsg (tgT 2 (tgCons (tgN 6) (tgCons (tgN 7) (tgNil)))) (mL ptup (mCons (mL prepr (mCons (mVar 4) (mNil))) (mCons (mCall 1 m__law_text (mCons (mVar 4) (mNil))) (mNil))))) (sCons (sIf (tNotM (mTr (mCall 2 m__law_same (mCons (mL (plst false) (mCons (mCall 1 m_table_text (mCons (mVar 4) (mNil))) (mCons (mCallK 0 (["table"] : List Str).length [0] m_table_text mNil (mkCons (mVar 4) (mkNil))) (mCons (mCall 1 m_table_of (mCons (mVar 7) (mNil))) (mCons (mCallK 0 (["text"] : List Str).length [0] m_table_of mNil (mkCons (mVar 7) (mkNil))) (mCons (mCall 1 m_bad_line (mCons (mVar 7) (mNil))) (mNil))))))) (mCons (mL (plst false) (mCons (mVar 7) (mCons (mVar 7) (mCons (mVar 4) (mCons (mVar 4) (mCons (mC .non) (mNil))))))) (mNil)))))) (sRet (mC (.bl false))) (sNil)) (sCons (sIf (tOrM (mT (m2 pne (m2 peq (mVar 4) (mVar 5)) (m2 peq (mCall 1 m_table_text (mCons (mVar 5) (mNil))) (mVar 7)))) (mT (m2 pne (mL prepr (mCons (mVar 4) (mNil))) (mVar 6)))) (sRet (mC (.bl false))) (sNil)) (sCons (sSet 8 (m2 (padd false) texts9 (mLc false [12] id (mRange1 (mCons (mC (.int 12)) (mNil))) (tgN 12) (mYes) (mCall 2 m__law_bent (mCons (mVar 2) (mCons (mVar 7) (mNil))))))) (sFor (mSrc (mVar 8)) (tgN 9) valBody)))))
theorem strs_of : ∀ {ys : List D} {B : Nat}, (∀ y ∈ ys, ∃ v : Str, y = .str v ∧ v.length ≤ B) → ∃ vs : List Str, ys = vs.map D.str ∧ ∀ v ∈ vs, v.length ≤ B
  | [], _, _ => ⟨[], rfl, fun v h => by simp at h⟩
  | y :: ys, B, h => by
    obtain ⟨v, rfl, hv⟩ := h y List.mem_cons_self
    obtain ⟨vs, rfl, hs⟩ := strs_of fun z hz => h z (List.mem_cons_of_mem _ hz)
    refine ⟨v :: vs, rfl, fun u hu => ?_⟩
    rcases List.mem_cons.mp hu with rfl | hu
    · exact hv
    · exact hs u hu
theorem padd_lst (a b : List D) (S : Sto) (h : a.length + b.length ≤ 16777216) : padd false (.lst a) (.lst b) S = .ok (.lst (a ++ b)) S := by
  show (if a.length + b.length ≤ 16777216 then mkL false (a ++ b) S else R.no) = _
  rw [if_pos h]
  rfl
theorem step_turn (p l : Nat) (sc st y4 y5 y6 y7 y8 y9 y10 y11 y12 : Option D) (S : Sto) (hp : Pot S p) (hl : Pot S l) :
    ∃ x4 x5 x6 x7 x8 x9 x10 x11 S', stepBody [sc, some (.ref p), some (.ref l), st, y4, y5, y6, y7, y8, y9, y10, y11, y12] S = .ok .nx [sc, some (.ref p), some (.ref l), st, x4, x5, x6, x7, x8, x9, x10, x11, y12] S' ∧ Pot S' p ∧ Pot S' l := by
  obtain ⟨A, S1, e1, A1, A2, A3, k1⟩ := law_table p S hp
  obtain ⟨B, S2, e2, B1, B2, B3, k2⟩ := law_table p S1 (k1 p hp)
  have K2 : Keep S S2 := k1.trans k2
  obtain ⟨rp, hrp⟩ := repr_tbl A A1 A3
  have hlen := textW_len A A1 A3
  have s1 : sPar 4 5 (mCons (mCall 1 m__law_table (mCons (mVar 1) (mNil))) (mCons (mCall 1 m__law_table (mCons (mVar 1) (mNil))) (mNil))) [sc, some (.ref p), some (.ref l), st, y4, y5, y6, y7, y8, y9, y10, y11, y12] S = .ok .nx [sc, some (.ref p), some (.ref l), st, some (tbl A), some (tbl B), y6, y7, y8, y9, y10, y11, y12] S2 := by
    unfold sPar
    rw [mCons_ok ((call1 (ma := mVar 1) (d := .ref p) rfl).trans e1) (mCons_ok ((call1 (ma := mVar 1) (d := .ref p) rfl).trans e2) (show mNil _ S2 = .ok [] S2 from rfl))]
    rfl
  have v4 : ∀ (z6 z7 : Option D) (S : Sto), mVar 4 [sc, some (.ref p), some (.ref l), st, some (tbl A), some (tbl B), z6, z7, y8, y9, y10, y11, y12] S = .ok (tbl A) S := fun _ _ S => tbl_v A S
  have v5 : ∀ (z6 z7 : Option D) (S : Sto), mVar 5 [sc, some (.ref p), some (.ref l), st, some (tbl A), some (tbl B), z6, z7, y8, y9, y10, y11, y12] S = .ok (tbl B) S := fun _ _ S => tbl_v B S
  have s2 : sAsg (tgT 2 (tgCons (tgN 6) (tgCons (tgN 7) (tgNil)))) (mL ptup (mCons (mL prepr (mCons (mVar 4) (mNil))) (mCons (mCall 1 m__law_text (mCons (mVar 4) (mNil))) (mNil)))) [sc, some (.ref p), some (.ref l), st, some (tbl A), some (tbl B), y6, y7, y8, y9, y10, y11, y12] S2 = .ok .nx [sc, some (.ref p), some (.ref l), st, some (tbl A), some (tbl B), some (.str rp), some (.str (textW A)), y8, y9, y10, y11, y12] S2 := by
    have q : mL ptup (mCons (mL prepr (mCons (mVar 4) (mNil))) (mCons (mCall 1 m__law_text (mCons (mVar 4) (mNil))) (mNil))) [sc, some (.ref p), some (.ref l), st, some (tbl A), some (tbl B), y6, y7, y8, y9, y10, y11, y12] S2 = .ok (.tup [.str rp, .str (textW A)]) S2 :=
      (mL_ok (mCons_ok ((mL_ok (mCons_ok (v4 _ _ _) rfl)).trans (hrp S2)) (mCons_ok ((call1 (v4 _ _ _)).trans (law_text A S2 A1 A3)) rfl))).trans rfl
    unfold sAsg
    rw [q]
    rfl
  have v7 : ∀ S : Sto, mVar 7 [sc, some (.ref p), some (.ref l), st, some (tbl A), some (tbl B), some (.str rp), some (.str (textW A)), y8, y9, y10, y11, y12] S = .ok (.str (textW A)) S := fun _ => rfl
  have v6 : ∀ S : Sto, mVar 6 [sc, some (.ref p), some (.ref l), st, some (tbl A), some (tbl B), some (.str rp), some (.str (textW A)), y8, y9, y10, y11, y12] S = .ok (.str rp) S := fun _ => rfl
  have hrd := read_text A A1 A2 A3
  have hz : (textW A).length ≤ 1000000 := by omega
  obtain ⟨T3, h3⟩ := table_of (textW A) S2 hz
  obtain ⟨T4, h4⟩ := table_of (textW A) (S2 ++ T3) hz
  obtain ⟨T5, h5⟩ := bad_line (textW A) (S2 ++ T3 ++ T4) hz
  have hbv : badV (parts (textW A) "\n") = none := by rw [bad_read (parts (textW A) "\n") (split_pos _ _), hrd]
  rw [hrd] at h3 h4
  rw [hbv] at h5
  have tt := fun S => table_text A S A1 A2 A3
  have told := (mL_ok (p := plst false) (mCons_ok ((call1 (m := m_table_text) (v4 (some (.str rp)) (some (.str (textW A))) S2)).trans (tt S2)) (mCons_ok ((callK1 (m := m_table_text) (x := "table") (v4 (some (.str rp)) (some (.str (textW A))) S2)).trans (tt S2)) (mCons_ok ((call1 (m := m_table_of) (v7 S2)).trans h3) (mCons_ok ((callK1 (m := m_table_of) (x := "text") (v7 _)).trans h4) (mCons_ok ((call1 (m := m_bad_line) (v7 _)).trans h5) (show mNil _ _ = .ok [] _ from rfl))))))).trans (show plst false _ _ = .ok (.lst [.str (textW A), .str (textW A), tbl A, tbl A, .non]) _ from rfl)
  have due := (mL_ok (p := plst false) (mCons_ok (v7 (S2 ++ T3 ++ T4 ++ T5)) (mCons_ok (v7 _) (mCons_ok (v4 _ _ _) (mCons_ok (v4 _ _ _) (mCons_ok (ma := mC .non) (d := .non) rfl (show mNil _ _ = .ok [] _ from rfl))))))).trans (show plst false _ _ = .ok (.lst [.str (textW A), .str (textW A), tbl A, tbl A, .non]) _ from rfl)
  have pdl : pd 8 (.lst [.str (textW A), .str (textW A), tbl A, tbl A, .non]) = true := by
    have e := pd_tbl A A1 A3 3
    show (decide (5 ≤ 16777216) && (true && (true && (pd 7 (tbl A) && (pd 7 (tbl A) && (true && true)))))) = true
    rw [e]
    rfl
  have s3 := sIf_no (mt := sRet (mC (.bl false))) (not_true ((call2 (m := m__law_same) told due).trans (law_same _ _ pdl)))
  have K3 : Keep S (S2 ++ T3 ++ T4 ++ T5) := K2.trans (((keep_app S2 T3).trans (keep_app _ T4)).trans (keep_app _ T5))
  generalize S2 ++ T3 ++ T4 ++ T5 = S3 at *
  have s4 : sIf (tOrM (mT (m2 pne (m2 peq (mVar 4) (mVar 5)) (m2 peq (mCall 1 m_table_text (mCons (mVar 5) (mNil))) (mVar 7)))) (mT (m2 pne (mL prepr (mCons (mVar 4) (mNil))) (mVar 6)))) (sRet (mC (.bl false))) sNil [sc, some (.ref p), some (.ref l), st, some (tbl A), some (tbl B), some (.str rp), some (.str (textW A)), y8, y9, y10, y11, y12] S3 = .ok .nx [sc, some (.ref p), some (.ref l), st, some (tbl A), some (tbl B), some (.str rp), some (.str (textW A)), y8, y9, y10, y11, y12] S3 := by
    refine sIf_no ?_
    have q1 := (m2_ok (p := peq) (v4 (some (.str rp)) (some (.str (textW A))) S3) (v5 _ _ S3)).trans (peq_tbl A B S3)
    have q2 := (m2_ok (p := peq) ((call1 (m := m_table_text) (v5 (some (.str rp)) (some (.str (textW A))) S3)).trans (table_text B S3 B1 B2 B3)) (v7 S3)).trans (show peq (.str (textW B)) (.str (textW A)) S3 = .ok (.bl (decide (textW B = textW A))) S3 from rfl)
    have eb : decide (textW B = textW A) = decide (A = B) := by
      by_cases h : A = B
      · subst h; simp
      · have h' : ¬ textW B = textW A := fun z => h (text_inj ⟨A1, A2, A3⟩ ⟨B1, B2, B3⟩ z.symm)
        simp [h, h']
    rw [eb] at q2
    have q3 := (m2_ok (p := pne) q1 q2).trans (show pne (.bl (decide (A = B))) (.bl (decide (A = B))) S3 = .ok (.bl false) S3 from by cases decide (A = B) <;> rfl)
    have q4 := (m2_ok (p := pne) ((mL_ok (p := prepr) (mCons_ok (v4 (some (.str rp)) (some (.str (textW A))) S3) (show mNil _ S3 = .ok [] S3 from rfl))).trans (hrp S3)) (v6 S3)).trans (show pne (.str rp) (.str rp) S3 = .ok (.bl false) S3 from by simp [pne])
    unfold tOrM mT
    rw [q3]
    show (R.bind (R.bind _ asB) _) = _
    rw [bind_ok]
    show ((R.ok false S3).bind _) = _
    rw [bind_ok, if_neg Bool.false_ne_true, q4]
    rfl
  -- the texts
  have L9 : texts9 [sc, some (.ref p), some (.ref l), st, some (tbl A), some (tbl B), some (.str rp), some (.str (textW A)), y8, y9, y10, y11, y12] S3 = .ok (.lst ([Str.ofString "", Str.ofString "table", Str.ofString "table\n", Str.ofString "\n", Str.ofString "row 1\n", Str.ofString "table\n\n", Str.ofString "table\nrow \n", Str.ofString "table\nrow 1", Str.ofString "table\nrow 1\n\n"].map D.str)) S3 := rfl
  have b9 : ∀ v ∈ [Str.ofString "", Str.ofString "table", Str.ofString "table\n", Str.ofString "\n", Str.ofString "row 1\n", Str.ofString "table\n\n", Str.ofString "table\nrow \n", Str.ofString "table\nrow 1", Str.ofString "table\nrow 1\n\n"], v.length ≤ 1000000 := by
    intro v hv
    simp only [List.mem_cons, List.not_mem_nil, or_false] at hv
    rcases hv with rfl | rfl | rfl | rfl | rfl | rfl | rfl | rfl | rfl <;> decide +kernel
  have l9 : [Str.ofString "", Str.ofString "table", Str.ofString "table\n", Str.ofString "\n", Str.ofString "row 1\n", Str.ofString "table\n\n", Str.ofString "table\nrow \n", Str.ofString "table\nrow 1", Str.ofString "table\nrow 1\n\n"].length = 9 := rfl
  generalize [Str.ofString "", Str.ofString "table", Str.ofString "table\n", Str.ofString "\n", Str.ofString "row 1\n", Str.ofString "table\n\n", Str.ofString "table\nrow \n", Str.ofString "table\nrow 1", Str.ofString "table\nrow 1\n\n"] = t9 at *
  have r12 := range1_ok (ml := mCons (mC (.int 12)) mNil) (ev := [sc, some (.ref p), some (.ref l), st, some (tbl A), some (tbl B), some (.str rp), some (.str (textW A)), y8, y9, y10, y11, y12]) (S := S3) (S1 := S3) (x := 12) rfl (by decide) (by decide)
  obtain ⟨ys, S4, q, qlen, qP, qI⟩ := lc_inv (tg := tgN 12) (cond := mYes) (el := mCall 2 m__law_bent (mCons (mVar 2) (mCons (mVar 7) mNil))) (ev := evWipe (id [sc, some (.ref p), some (.ref l), st, some (tbl A), some (tbl B), some (.str rp), some (.str (textW A)), y8, y9, y10, y11, y12]) [12]) (c := ⟨rangeD 0 (12 : Int).toNat, []⟩)
    (fun S' => Pot S' p ∧ Pot S' l) (fun y => ∃ v : Str, y = .str v ∧ v.length ≤ 1000000) (fun _ _ => rfl) (rangeD 0 (12 : Int).toNat) [] S3 (fun d hd S' hI => by
      obtain ⟨v, S'', e, hv, hk⟩ := law_bent l (textW A) S' hI.2 hlen.1 hlen.2
      exact ⟨[sc, some (.ref p), some (.ref l), st, some (tbl A), some (tbl B), some (.str rp), some (.str (textW A)), y8, y9, y10, y11, some d], S', S', .str v, S'', rfl, rfl, (call2 (m := m__law_bent) (ma := mVar 2) (mb := mVar 7) (d := .ref l) (e := .str (textW A)) (S1 := S') (S2 := S') rfl rfl).trans e, ⟨hk p hI.1, hk l hI.2⟩, v, rfl, hv⟩) ⟨K3 p hp, K3 l hl⟩ (by decide)
  obtain ⟨vs, rfl, hvs⟩ := strs_of qP
  rw [List.nil_append] at q
  have e5 := lc_end r12 q
  have hvl : (vs.map D.str).length = 12 := qlen
  have s5 := sSet_ok (i := 8) ((m2_ok (p := padd false) L9 e5).trans (padd_lst _ _ S4 (by rw [List.length_map, l9, hvl]; decide)))
  rw [← List.map_append] at s5
  have ball : ∀ v ∈ t9 ++ vs, v.length ≤ 1000000 := fun v hv => by
    rcases List.mem_append.mp hv with h | h
    · exact b9 v h
    · exact hvs v h
  generalize t9 ++ vs = us at *
  have loop := (for_first (tg := tgN 9) (body := valBody) (c := ⟨us.map D.str, []⟩) (fun _ => false) (fun _ => .non)
    (fun i ev S' => (∃ z9 z10 z11, ev = [sc, some (.ref p), some (.ref l), st, some (tbl A), some (tbl B), some (.str rp), some (.str (textW A)), some (.lst (us.map D.str)), z9, z10, z11, y12]) ∧ Pot S' p ∧ Pot S' l) (fun _ => True) (fun _ _ _ _ => rfl) (us.map D.str) 0
    [sc, some (.ref p), some (.ref l), st, some (tbl A), some (tbl B), some (.str rp), some (.str (textW A)), some (.lst (us.map D.str)), y9, y10, y11, y12] S4 (fun j d hd ev S' hI => by
      obtain ⟨⟨z9, z10, z11, rfl⟩, i1, i2⟩ := hI
      rw [List.getElem?_map] at hd
      cases e : us[j]? with
      | none => rw [e] at hd; cases hd
      | some v =>
        rw [e] at hd
        cases hd
        obtain ⟨b, c, S'', t1, t2⟩ := val_turn v (ball v (List.mem_of_getElem? e)) sc (some (.ref p)) (some (.ref l)) st (some (tbl A)) (some (tbl B)) (some (.str rp)) (some (.str (textW A))) (some (.lst (us.map D.str))) z10 z11 y12 S'
        exact ⟨_, S', rfl, (fun z => by cases z), fun _ => ⟨_, S'', t1, ⟨_, _, _, rfl⟩, t2 p i1, t2 l i2⟩⟩) ⟨⟨_, _, _, rfl⟩, qI.1, qI.2⟩).2 (first_false _ _)
  obtain ⟨ev6, S6, f1, ⟨z9, z10, z11, rfl⟩, f2, f3⟩ := loop
  have s6 := (sFor_ok (mi := mSrc (mVar 8)) (tg := tgN 9) (body := valBody) (ev := [sc, some (.ref p), some (.ref l), st, some (tbl A), some (tbl B), some (.str rp), some (.str (textW A)), some (.lst (us.map D.str)), y9, y10, y11, y12]) (S := S4) (S1 := S4) (c := ⟨us.map D.str, []⟩) rfl).trans f1
  refine ⟨some (tbl A), some (tbl B), some (.str rp), some (.str (textW A)), some (.lst (us.map D.str)), z9, z10, z11, S6, ?_, f2, f3⟩
  unfold stepBody
  exact (sCons_nx s1).trans ((sCons_nx s2).trans ((sCons_nx s3).trans ((sCons_nx s4).trans ((sCons_nx s5).trans s6))))
theorem plain (ns : List Int) (hn : ns.length ≤ 63) : ∃ S, m_law [.rol (ns.map D.int)] [] = .ok (.bl true) S := by
  obtain ⟨a, b, ha, e1⟩ := pot_ok ns 0 (by decide) []
  obtain ⟨a', b', ha', e2⟩ := pot_ok ns 1 (by decide) ([] ++ [.lst [.int a, .int b]])
  have hp0 : Pot ([] ++ [.lst [.int a, .int b]] ++ [.lst [.int a', .int b']]) 0 := ⟨a, b, ha, rfl⟩
  have hp1 : Pot ([] ++ [.lst [.int a, .int b]] ++ [.lst [.int a', .int b']]) 1 := ⟨a', b', ha', rfl⟩
  have s1 : sAsg (tgT 2 (tgCons (tgN 1) (tgCons (tgN 2) (tgNil)))) (mL ptup (mCons (mCall 2 m__law_pot (mCons (mVar 0) (mCons (mC (.int 0)) (mNil)))) (mCons (mCall 2 m__law_pot (mCons (mVar 0) (mCons (mC (.int 1)) (mNil)))) (mNil)))) [some (.rol (ns.map D.int)), none, none, none, none, none, none, none, none, none, none, none, none] [] = .ok .nx [some (.rol (ns.map D.int)), some (.ref 0), some (.ref 1), none, none, none, none, none, none, none, none, none, none] ([] ++ [.lst [.int a, .int b]] ++ [.lst [.int a', .int b']]) := by
    have q : mL ptup (mCons (mCall 2 m__law_pot (mCons (mVar 0) (mCons (mC (.int 0)) (mNil)))) (mCons (mCall 2 m__law_pot (mCons (mVar 0) (mCons (mC (.int 1)) (mNil)))) (mNil))) [some (.rol (ns.map D.int)), none, none, none, none, none, none, none, none, none, none, none, none] [] = .ok (.tup [.ref 0, .ref 1]) ([] ++ [.lst [.int a, .int b]] ++ [.lst [.int a', .int b']]) :=
      (mL_ok (mCons_ok ((call2 (m := m__law_pot) (ma := mVar 0) (mb := mC (.int 0)) (d := .rol (ns.map D.int)) (e := .int 0) (S1 := []) (S2 := []) rfl rfl).trans e1) (mCons_ok ((call2 (m := m__law_pot) (ma := mVar 0) (mb := mC (.int 1)) (d := .rol (ns.map D.int)) (e := .int 1) rfl rfl).trans e2) rfl))).trans rfl
    unfold sAsg
    rw [q]
    rfl
  have r4 := range1_ok (ml := mCons (mC (.int 4)) mNil) (ev := [some (.rol (ns.map D.int)), some (.ref 0), some (.ref 1), none, none, none, none, none, none, none, none, none, none]) (S := [] ++ [.lst [.int a, .int b]] ++ [.lst [.int a', .int b']]) (S1 := [] ++ [.lst [.int a, .int b]] ++ [.lst [.int a', .int b']]) (x := 4) rfl (by decide) (by decide)
  have loop := (for_first (tg := tgN 3) (body := stepBody) (c := ⟨rangeD 0 (4 : Int).toNat, []⟩) (fun _ => false) (fun _ => .non)
    (fun i ev S' => (∃ z3 z4 z5 z6 z7 z8 z9 z10 z11 z12, ev = [some (.rol (ns.map D.int)), some (.ref 0), some (.ref 1), z3, z4, z5, z6, z7, z8, z9, z10, z11, z12]) ∧ Pot S' 0 ∧ Pot S' 1) (fun _ => True) (fun _ _ _ _ => rfl) (rangeD 0 (4 : Int).toNat) 0
    [some (.rol (ns.map D.int)), some (.ref 0), some (.ref 1), none, none, none, none, none, none, none, none, none, none] ([] ++ [.lst [.int a, .int b]] ++ [.lst [.int a', .int b']]) (fun j d hd ev S' hI => by
      obtain ⟨⟨z3, z4, z5, z6, z7, z8, z9, z10, z11, z12, rfl⟩, i1, i2⟩ := hI
      obtain ⟨x4, x5, x6, x7, x8, x9, x10, x11, S'', t1, t2, t3⟩ := step_turn 0 1 (some (.rol (ns.map D.int))) (some d) z4 z5 z6 z7 z8 z9 z10 z11 z12 S' i1 i2
      exact ⟨_, S', rfl, (fun z => by cases z), fun _ => ⟨_, S'', t1, ⟨_, _, _, _, _, _, _, _, _, _, rfl⟩, t2, t3⟩⟩) ⟨⟨_, _, _, _, _, _, _, _, _, _, rfl⟩, hp0, hp1⟩).2 (first_false _ _)
  obtain ⟨ev6, S6, f1, _, _, _⟩ := loop
  have s2 := (sFor_ok (mi := mRange1 (mCons (mC (.int 4)) mNil)) (tg := tgN 3) (body := stepBody) r4).trans f1
  have fin : b_law [some (.rol (ns.map D.int)), none, none, none, none, none, none, none, none, none, none, none, none] [] = .ok (.rt (.bl true)) ev6 S6 := by
    unfold b_law
    exact (sCons_nx s1).trans ((sCons_nx s2).trans rfl)
  refine ⟨S6, ?_⟩
  show endS (b_law [some (.rol (ns.map D.int)), none, none, none, none, none, none, none, none, none, none, none, none] []) = _
  rw [fin]
  rfl
end Mk93


open PySem PySem.W PyProof.Rows
set_option maxRecDepth 100000 in
set_option maxHeartbeats 0 in
theorem PySem.Challenge.cw_splitroads_k93_whole_texts_of_tables_holds : PySem.Challenge.rw_splitroads_k93_whole_texts_of_tables.Holds := by
  w_on; o_law; k_head; (case hw => w_witness2)
  k_fill
  refine ML.walk_G (l := PySem.Challenge.rw_splitroads_k93_whole_texts_of_tables) (n := 63) (k := 9) (x := "script") (m := Mk93.m_law) rfl (by decide) rfl ⟨rfl, by decide, by decide⟩ rfl (fun w h Y => PySem.W.kIn_of Y) ?F Mk93.plain
  case F =>
    intro w mg fa h KX G hmg
    have x_BadText : ∃ C fI, ML.Low.LowTxt (L2.KOf KX) mg "BadText" "line" "BadText.__init__" C fI := by
      refine' ML.mk_low KX G Mk93.fo_line (p1 := ⟨10, 17, 10, 21⟩) (p2 := ⟨10, 23, 10, 27⟩) (q1 := ⟨11, 8, 11, 12⟩) (q2 := ⟨11, 8, 11, 17⟩) (q3 := ⟨11, 20, 11, 24⟩) (q4 := ⟨11, 8, 11, 24⟩) ?aC ?xL ?sa ?ga ?gg ?nb ?a1 ?t1 ?l1 ?c1 ?kC ?eC ?tC ?hC ?hbm
      (case aC => k_is); (case xL => k_is); (case sa => k_is); (case ga => k_is); (case gg => k_is); (case nb => k_is); (case a1 => k_is); (case t1 => k_is); (case l1 => k_is); (case c1 => k_is); (case kC => k_is); (case eC => k_is); (case tC => k_is); (case hC => k_is); (case hbm => decide +kernel)
    have x_InvalidTable : ∃ C fI, ML.Low.LowTxt (L2.KOf KX) mg "InvalidTable" "value" "RoadError.__init__" C fI := by
      refine' ML.mk_low KX G Mk93.fo_value (p1 := ⟨4, 17, 4, 21⟩) (p2 := ⟨4, 23, 4, 28⟩) (q1 := ⟨5, 8, 5, 12⟩) (q2 := ⟨5, 8, 5, 18⟩) (q3 := ⟨5, 21, 5, 26⟩) (q4 := ⟨5, 8, 5, 26⟩) ?aC ?xL ?sa ?ga ?gg ?nb ?a1 ?t1 ?l1 ?c1 ?kC ?eC ?tC ?hC ?hbm
      (case aC => k_is); (case xL => k_is); (case sa => k_is); (case ga => k_is); (case gg => k_is); (case nb => k_is); (case a1 => k_is); (case t1 => k_is); (case l1 => k_is); (case c1 => k_is); (case kC => k_is); (case eC => k_is); (case tC => k_is); (case hC => k_is); (case hbm => decide +kernel)
    have x_InvalidText : ∃ C fI, ML.Low.LowTxt (L2.KOf KX) mg "InvalidText" "value" "RoadError.__init__" C fI := by
      refine' ML.mk_low KX G Mk93.fo_value (p1 := ⟨4, 17, 4, 21⟩) (p2 := ⟨4, 23, 4, 28⟩) (q1 := ⟨5, 8, 5, 12⟩) (q2 := ⟨5, 8, 5, 18⟩) (q3 := ⟨5, 21, 5, 26⟩) (q4 := ⟨5, 8, 5, 26⟩) ?aC ?xL ?sa ?ga ?gg ?nb ?a1 ?t1 ?l1 ?c1 ?kC ?eC ?tC ?hC ?hbm
      (case aC => k_is); (case xL => k_is); (case sa => k_is); (case ga => k_is); (case gg => k_is); (case nb => k_is); (case a1 => k_is); (case t1 => k_is); (case l1 => k_is); (case c1 => k_is); (case kC => k_is); (case eC => k_is); (case tC => k_is); (case hC => k_is); (case hbm => decide +kernel)
    have x_RoadError : ∃ C fI, ML.Low.LowTxt (L2.KOf KX) mg "RoadError" "value" "RoadError.__init__" C fI := by
      refine' ML.mk_low KX G Mk93.fo_value (p1 := ⟨4, 17, 4, 21⟩) (p2 := ⟨4, 23, 4, 28⟩) (q1 := ⟨5, 8, 5, 12⟩) (q2 := ⟨5, 8, 5, 18⟩) (q3 := ⟨5, 21, 5, 26⟩) (q4 := ⟨5, 8, 5, 26⟩) ?aC ?xL ?sa ?ga ?gg ?nb ?a1 ?t1 ?l1 ?c1 ?kC ?eC ?tC ?hC ?hbm
      (case aC => k_is); (case xL => k_is); (case sa => k_is); (case ga => k_is); (case gg => k_is); (case nb => k_is); (case a1 => k_is); (case t1 => k_is); (case l1 => k_is); (case c1 => k_is); (case kC => k_is); (case eC => k_is); (case tC => k_is); (case hC => k_is); (case hbm => decide +kernel)
    have e : Mk93.Env (L2.KOf KX) mg := by
      refine' { f_is_integer := ?f_is_integer, f_is_count := ?f_is_count, f_sizes_are_right := ?f_sizes_are_right, f_flaw_of := ?f_flaw_of, f_table_is_right := ?f_table_is_right, f_check_table := ?f_check_table, f_count_in := ?f_count_in, f_row_in := ?f_row_in, f_row_word := ?f_row_word, f_line_row := ?f_line_row, f_read := ?f_read, f_check_text := ?f_check_text, f_table_text := ?f_table_text, f_bad_line := ?f_bad_line, f_table_of := ?f_table_of, f__law_pot := ?f__law_pot, f__law_draw := ?f__law_draw, f__law_pick := ?f__law_pick, f__law_same := ?f__law_same, f__law_text := ?f__law_text, f__law_table := ?f__law_table, f__law_is_numeral := ?f__law_is_numeral, f__law_bad := ?f__law_bad, f__law_bent := ?f__law_bent, f__law_read := ?f__law_read, f_law := ?f_law, b_abs := ?b_abs, b_all := ?b_all, b_any := ?b_any, b_bool := ?b_bool, b_enumerate := ?b_enumerate, b_int := ?b_int, b_isinstance := ?b_isinstance, b_len := ?b_len, b_list := ?b_list, b_max := ?b_max, b_range := ?b_range, b_repr := ?b_repr, b_str := ?b_str, b_sum := ?b_sum, b_tuple := ?b_tuple, b_zip := ?b_zip, k_DIGITS := ?k_DIGITS, k_MOST_DIGITS := ?k_MOST_DIGITS, k_MOST_FAR := ?k_MOST_FAR, k_MOST_ROWS := ?k_MOST_ROWS, k_MOST_TOWNS := ?k_MOST_TOWNS, x_BadText := x_BadText, x_InvalidTable := x_InvalidTable, x_InvalidText := x_InvalidText, x_RoadError := x_RoadError, xf_line := (ML.xf_cons x_BadText ML.xf_nil), xf_value := (ML.xf_cons x_RoadError (ML.xf_cons x_InvalidTable (ML.xf_cons x_InvalidText ML.xf_nil))), sub := ?sub, isx := ?isx }
      case f_is_integer => (refine' ML.mk_def KX G ?a ?l ?c ?k; (case a => k_is); (case l => k_is); (case c => k_is); (case k => k_is))
      case f_is_count => (refine' ML.mk_def KX G ?a ?l ?c ?k; (case a => k_is); (case l => k_is); (case c => k_is); (case k => k_is))
      case f_sizes_are_right => (refine' ML.mk_def KX G ?a ?l ?c ?k; (case a => k_is); (case l => k_is); (case c => k_is); (case k => k_is))
      case f_flaw_of => (refine' ML.mk_def KX G ?a ?l ?c ?k; (case a => k_is); (case l => k_is); (case c => k_is); (case k => k_is))
      case f_table_is_right => (refine' ML.mk_def KX G ?a ?l ?c ?k; (case a => k_is); (case l => k_is); (case c => k_is); (case k => k_is))
      case f_check_table => (refine' ML.mk_def KX G ?a ?l ?c ?k; (case a => k_is); (case l => k_is); (case c => k_is); (case k => k_is))
      case f_count_in => (refine' ML.mk_def KX G ?a ?l ?c ?k; (case a => k_is); (case l => k_is); (case c => k_is); (case k => k_is))
      case f_row_in => (refine' ML.mk_def KX G ?a ?l ?c ?k; (case a => k_is); (case l => k_is); (case c => k_is); (case k => k_is))
      case f_row_word => (refine' ML.mk_def KX G ?a ?l ?c ?k; (case a => k_is); (case l => k_is); (case c => k_is); (case k => k_is))
      case f_line_row => (refine' ML.mk_def KX G ?a ?l ?c ?k; (case a => k_is); (case l => k_is); (case c => k_is); (case k => k_is))
      case f_read => (refine' ML.mk_def KX G ?a ?l ?c ?k; (case a => k_is); (case l => k_is); (case c => k_is); (case k => k_is))
      case f_check_text => (refine' ML.mk_def KX G ?a ?l ?c ?k; (case a => k_is); (case l => k_is); (case c => k_is); (case k => k_is))
      case f_table_text => (refine' ML.mk_def KX G ?a ?l ?c ?k; (case a => k_is); (case l => k_is); (case c => k_is); (case k => k_is))
      case f_bad_line => (refine' ML.mk_def KX G ?a ?l ?c ?k; (case a => k_is); (case l => k_is); (case c => k_is); (case k => k_is))
      case f_table_of => (refine' ML.mk_def KX G ?a ?l ?c ?k; (case a => k_is); (case l => k_is); (case c => k_is); (case k => k_is))
      case f__law_pot => (refine' ML.mk_def KX G ?a ?l ?c ?k; (case a => k_is); (case l => k_is); (case c => k_is); (case k => k_is))
      case f__law_draw => (refine' ML.mk_def KX G ?a ?l ?c ?k; (case a => k_is); (case l => k_is); (case c => k_is); (case k => k_is))
      case f__law_pick => (refine' ML.mk_def KX G ?a ?l ?c ?k; (case a => k_is); (case l => k_is); (case c => k_is); (case k => k_is))
      case f__law_same => (refine' ML.mk_def KX G ?a ?l ?c ?k; (case a => k_is); (case l => k_is); (case c => k_is); (case k => k_is))
      case f__law_text => (refine' ML.mk_def KX G ?a ?l ?c ?k; (case a => k_is); (case l => k_is); (case c => k_is); (case k => k_is))
      case f__law_table => (refine' ML.mk_def KX G ?a ?l ?c ?k; (case a => k_is); (case l => k_is); (case c => k_is); (case k => k_is))
      case f__law_is_numeral => (refine' ML.mk_def KX G ?a ?l ?c ?k; (case a => k_is); (case l => k_is); (case c => k_is); (case k => k_is))
      case f__law_bad => (refine' ML.mk_def KX G ?a ?l ?c ?k; (case a => k_is); (case l => k_is); (case c => k_is); (case k => k_is))
      case f__law_bent => (refine' ML.mk_def KX G ?a ?l ?c ?k; (case a => k_is); (case l => k_is); (case c => k_is); (case k => k_is))
      case f__law_read => (refine' ML.mk_def KX G ?a ?l ?c ?k; (case a => k_is); (case l => k_is); (case c => k_is); (case k => k_is))
      case f_law => (refine' ML.mk_def KX G ?a ?l ?c ?k; (case a => k_is); (case l => k_is); (case c => k_is); (case k => k_is))
      case b_abs => (refine' PySem.W.mg_none_of KX G ?z; (case z => k_is))
      case b_all => (refine' PySem.W.mg_none_of KX G ?z; (case z => k_is))
      case b_any => (refine' PySem.W.mg_none_of KX G ?z; (case z => k_is))
      case b_bool => (refine' PySem.W.mg_none_of KX G ?z; (case z => k_is))
      case b_enumerate => (refine' PySem.W.mg_none_of KX G ?z; (case z => k_is))
      case b_int => (refine' PySem.W.mg_none_of KX G ?z; (case z => k_is))
      case b_isinstance => (refine' PySem.W.mg_none_of KX G ?z; (case z => k_is))
      case b_len => (refine' PySem.W.mg_none_of KX G ?z; (case z => k_is))
      case b_list => (refine' PySem.W.mg_none_of KX G ?z; (case z => k_is))
      case b_max => (refine' PySem.W.mg_none_of KX G ?z; (case z => k_is))
      case b_range => (refine' PySem.W.mg_none_of KX G ?z; (case z => k_is))
      case b_repr => (refine' PySem.W.mg_none_of KX G ?z; (case z => k_is))
      case b_str => (refine' PySem.W.mg_none_of KX G ?z; (case z => k_is))
      case b_sum => (refine' PySem.W.mg_none_of KX G ?z; (case z => k_is))
      case b_tuple => (refine' PySem.W.mg_none_of KX G ?z; (case z => k_is))
      case b_zip => (refine' PySem.W.mg_none_of KX G ?z; (case z => k_is))
      case k_DIGITS => (refine' ML.cst_str (PySem.W.mg_of KX G ?z); (case z => k_is))
      case k_MOST_DIGITS => (refine' ML.cst_int (PySem.W.mg_of KX G ?z); (case z => k_is))
      case k_MOST_FAR => (refine' ML.cst_int (PySem.W.mg_of KX G ?z); (case z => k_is))
      case k_MOST_ROWS => (refine' ML.cst_int (PySem.W.mg_of KX G ?z); (case z => k_is))
      case k_MOST_TOWNS => (refine' ML.cst_int (PySem.W.mg_of KX G ?z); (case z => k_is))
      case sub =>
        refine' ⟨?t0, ?t1, ?t2, trivial⟩
        case t0 => (refine' ML.mk_sub KX G ?a ?d ?h1 ?h2 ?h3 ?h4; (case a => first | k_is | rfl | decide +kernel); (case d => first | k_is | rfl | decide +kernel); (case h1 => first | k_is | rfl | decide +kernel); (case h2 => first | k_is | rfl | decide +kernel); (case h3 => first | k_is | rfl | decide +kernel); (case h4 => first | k_is | rfl | decide +kernel))
        case t1 => (refine' ML.mk_sub KX G ?a ?d ?h1 ?h2 ?h3 ?h4; (case a => first | k_is | rfl | decide +kernel); (case d => first | k_is | rfl | decide +kernel); (case h1 => first | k_is | rfl | decide +kernel); (case h2 => first | k_is | rfl | decide +kernel); (case h3 => first | k_is | rfl | decide +kernel); (case h4 => first | k_is | rfl | decide +kernel))
        case t2 => (refine' ML.mk_sub KX G ?a ?d ?h1 ?h2 ?h3 ?h4; (case a => first | k_is | rfl | decide +kernel); (case d => first | k_is | rfl | decide +kernel); (case h1 => first | k_is | rfl | decide +kernel); (case h2 => first | k_is | rfl | decide +kernel); (case h3 => first | k_is | rfl | decide +kernel); (case h4 => first | k_is | rfl | decide +kernel))
      case isx =>
        refine' ⟨?t0, ?t1, ?t2, trivial⟩
        case t0 => (refine' ML.mk_is KX G ?a ?d ?hg ?hk ?hs ?hd ?ha ?hn ?ht ?hm ?h4; (case a => first | k_is | rfl | decide +kernel); (case d => first | k_is | rfl | decide +kernel); (case hg => first | k_is | rfl | decide +kernel); (case hk => first | k_is | rfl | decide +kernel); (case hs => first | k_is | rfl | decide +kernel); (case hd => first | k_is | rfl | decide +kernel); (case ha => first | k_is | rfl | decide +kernel); (case hn => first | k_is | rfl | decide +kernel); (case ht => first | k_is | rfl | decide +kernel); (case hm => first | k_is | rfl | decide +kernel); (case h4 => first | k_is | rfl | decide +kernel))
        case t1 => (refine' ML.mk_is KX G ?a ?d ?hg ?hk ?hs ?hd ?ha ?hn ?ht ?hm ?h4; (case a => first | k_is | rfl | decide +kernel); (case d => first | k_is | rfl | decide +kernel); (case hg => first | k_is | rfl | decide +kernel); (case hk => first | k_is | rfl | decide +kernel); (case hs => first | k_is | rfl | decide +kernel); (case hd => first | k_is | rfl | decide +kernel); (case ha => first | k_is | rfl | decide +kernel); (case hn => first | k_is | rfl | decide +kernel); (case ht => first | k_is | rfl | decide +kernel); (case hm => first | k_is | rfl | decide +kernel); (case h4 => first | k_is | rfl | decide +kernel))
        case t2 => (refine' ML.mk_is KX G ?a ?d ?hg ?hk ?hs ?hd ?ha ?hn ?ht ?hm ?h4; (case a => first | k_is | rfl | decide +kernel); (case d => first | k_is | rfl | decide +kernel); (case hg => first | k_is | rfl | decide +kernel); (case hk => first | k_is | rfl | decide +kernel); (case hs => first | k_is | rfl | decide +kernel); (case hd => first | k_is | rfl | decide +kernel); (case ha => first | k_is | rfl | decide +kernel); (case hn => first | k_is | rfl | decide +kernel); (case ht => first | k_is | rfl | decide +kernel); (case hm => first | k_is | rfl | decide +kernel); (case h4 => first | k_is | rfl | decide +kernel))
    exact ML.law_fd (Mk93.ok_law e) Mk93.bp_law hmg
