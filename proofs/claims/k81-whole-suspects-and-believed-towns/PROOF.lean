import PyProof.Rows.All
import Wide.All
import OpenK.AllK
import Wide.FinOn
import HandS.ForMost
import HandS.ForExc
import HandS.TryMany
import HandS.TryOnly
import HandS.IsInst
import HandS.TupAny
import HandS.Zip
import HandS.Deep
import HandS.CallSlots
import PyProof.AutoSeq1
import HandS.StrSplit
import HandS.More
import KE.GoesNew
import HandS.Walk
import HandS.Words
import HandS.WordsExc
import HandS.Ends
import KE.KIsAll
import KE.KTryMore
import HandS.ExcIs
import PyProof.ReprRoads
import HandS.ReplaceLit
import HandS.Style
import HandS.Gcd
import KE.SortCalls
import KE.DataMinMax
import KE.DataCmp
import HandS.SortInts
import HandS.Conv
import HandS.WideBits
import KE.KRevSl
import PyProof.ReprLen
import PySem.Challenge.RW_splitroads_k81_whole_suspects_and_believ
set_option Elab.async false
set_option linter.all false
set_option maxRecDepth 100000
set_option autoImplicit false
set_option maxHeartbeats 4000000

/-! # The mirror layer: a def of the text is compared with a plain Lean function over data D and a store of mutable lists -/
namespace ML
open PySem PySem.Spec PyProof.Rows L2

/-! ## data, cells, results -/
/-- data: what a name may hold. lst: a list that is never changed any more; ref n: the n-th list of the store -/
inductive D where
  | non | bl (b : Bool) | int (i : Int) | str (x : Str) | ty (n : String) | gl (x : Str)
  | tup (ds : List D) | lst (ds : List D) | rol (ds : List D) | ref (n : Nat) | dc0 | xo (c : Str) (ns : List Str) (ds : List D) | rng (i j : Int) | dct (ks : List (Int ⊕ Str)) (ds : List D)
inductive Cell where
  | lst (ds : List D) | dead
abbrev Sto := List Cell
structure Xn where
  cls : Str
  ns : List Str
  ds : List D
inductive R (α : Type) where
  | ok (a : α) (s : Sto) | ex (x : Xn) (s : Sto) | no
abbrev Ev := List (Option D)

def R.bind {α β : Type} (r : R α) (f : α → Sto → R β) : R β :=
  match r with
  | .ok a s => f a s
  | .ex x s => .ex x s
  | .no => .no

mutual
def D.beq : D → D → Bool
  | .non, .non => true
  | .bl a, .bl b => a == b
  | .int a, .int b => a == b
  | .str a, .str b => a == b
  | .ty a, .ty b => a == b
  | .gl a, .gl b => a == b
  | .tup a, .tup b => beqL a b
  | .lst a, .lst b => beqL a b
  | .rol a, .rol b => beqL a b
  | .ref a, .ref b => a == b
  | .dc0, .dc0 => true
  | .xo a b c, .xo d e f => a == d && b == e && beqL c f
  | .rng a b, .rng c d => a == c && b == d
  | .dct a b, .dct c d => decide (a = c) && beqL b d
  | _, _ => false
def beqL : List D → List D → Bool
  | [], [] => true
  | a :: r, b :: s => a.beq b && beqL r s
  | _, _ => false
end
mutual
theorem D.of_beq : ∀ {a b : D}, a.beq b = true → a = b
  | .non, b, h => by cases b <;> simp_all [D.beq]
  | .bl _, b, h => by cases b <;> simp_all [D.beq]
  | .int _, b, h => by cases b <;> simp_all [D.beq]
  | .str _, b, h => by cases b <;> simp_all [D.beq]
  | .ty _, b, h => by cases b <;> simp_all [D.beq]
  | .gl _, b, h => by cases b <;> simp_all [D.beq]
  | .ref _, b, h => by cases b <;> simp_all [D.beq]
  | .dc0, b, h => by cases b <;> simp_all [D.beq]
  | .xo x y z, b, h => by
    cases b with
    | xo x' y' z' =>
      have h' : (x = x' ∧ y = y') ∧ beqL z z' = true := by simpa [D.beq] using h
      rw [of_beqL (a := z) (b := z') h'.2, h'.1.1, h'.1.2]
    | _ => simp [D.beq] at h
  | .rng x y, b, h => by
    cases b with
    | rng x' y' =>
      have h' : x = x' ∧ y = y' := by simpa [D.beq] using h
      rw [h'.1, h'.2]
    | _ => simp [D.beq] at h
  | .dct x y, b, h => by
    cases b with
    | dct x' y' =>
      have h' : x = x' ∧ beqL y y' = true := by simpa [D.beq] using h
      rw [h'.1, of_beqL (a := y) (b := y') h'.2]
    | _ => simp [D.beq] at h
  | .tup x, b, h => by
    cases b with
    | tup y => rw [of_beqL (a := x) (b := y) (by simpa [D.beq] using h)]
    | _ => simp [D.beq] at h
  | .lst x, b, h => by
    cases b with
    | lst y => rw [of_beqL (a := x) (b := y) (by simpa [D.beq] using h)]
    | _ => simp [D.beq] at h
  | .rol x, b, h => by
    cases b with
    | rol y => rw [of_beqL (a := x) (b := y) (by simpa [D.beq] using h)]
    | _ => simp [D.beq] at h
theorem of_beqL : ∀ {a b : List D}, beqL a b = true → a = b
  | [], [], _ => rfl
  | [], _ :: _, h => by simp [beqL] at h
  | _ :: _, [], h => by simp [beqL] at h
  | x :: r, y :: s, h => by
    have h' : x.beq y = true ∧ beqL r s = true := by simpa [beqL] using h
    rw [D.of_beq h'.1, of_beqL h'.2]
end

mutual
theorem D.beq_self : ∀ a : D, a.beq a = true
  | .non => rfl
  | .bl _ => by simp [D.beq]
  | .int _ => by simp [D.beq]
  | .str _ => by simp [D.beq]
  | .ty _ => by simp [D.beq]
  | .gl _ => by simp [D.beq]
  | .ref _ => by simp [D.beq]
  | .dc0 => rfl
  | .xo _ _ z => by simp [D.beq, beqL_self z]
  | .rng _ _ => by simp [D.beq]
  | .dct _ z => by simp [D.beq, beqL_self z]
  | .tup x => by simpa [D.beq] using beqL_self x
  | .lst x => by simpa [D.beq] using beqL_self x
  | .rol x => by simpa [D.beq] using beqL_self x
theorem beqL_self : ∀ a : List D, beqL a a = true
  | [] => rfl
  | x :: r => by simp [beqL, D.beq_self x, beqL_self r]
end

/-! ## what stands for what -/
/-- the ghost: where the store's lists stand, what is known and stays, what else is to be kept -/
structure G where
  r : List Addr
  f : Hp
  z : Hp
  e : Option Addr := none
def G.le (g g' : G) : Prop := (∃ t, g'.r = g.r ++ t) ∧ (∀ a o, g.f a = some o → g'.f a = some o) ∧ g'.e = g.e ∧ g'.z = g.z
/-- the later ghost, whatever it protects -/
def G.ext (g g' : G) : Prop := (∃ t, g'.r = g.r ++ t) ∧ (∀ a o, g.f a = some o → g'.f a = some o) ∧ g'.e = g.e
theorem G.le.ext {g g' : G} (h : g.le g') : g.ext g' := ⟨h.1, h.2.1, h.2.2.1⟩
theorem G.ext.refl (g : G) : g.ext g := ⟨⟨[], (List.append_nil _).symm⟩, fun _ _ h => h, rfl⟩
theorem G.ext.trans {a b c : G} (h : a.ext b) (k : b.ext c) : a.ext c := by
  obtain ⟨⟨t, e⟩, f, z⟩ := h
  obtain ⟨⟨t', e'⟩, f', z'⟩ := k
  exact ⟨⟨t ++ t', by rw [e', e, List.append_assoc]⟩, fun x o q => f' x o (f x o q), z'.trans z⟩
theorem G.le.refl (g : G) : g.le g := ⟨⟨[], (List.append_nil _).symm⟩, fun _ _ h => h, rfl, rfl⟩
theorem G.le.trans {a b c : G} (h : a.le b) (k : b.le c) : a.le c := by
  obtain ⟨⟨t, e⟩, f, y, z⟩ := h
  obtain ⟨⟨t', e'⟩, f', y', z'⟩ := k
  exact ⟨⟨t ++ t', by rw [e', e, List.append_assoc]⟩, fun x o q => f' x o (f x o q), y'.trans y, z'.trans z⟩
theorem G.ext.r {g g' : G} (h : g.ext g') {n : Nat} {a : Addr} (e : g.r[n]? = some a) : g'.r[n]? = some a := by
  obtain ⟨⟨t, q⟩, _, _⟩ := h
  rw [q, List.getElem?_append_left (List.getElem?_eq_some_iff.mp e).1]
  exact e

section
variable (K : PySem.W.Frag) (mg : Str → Option Value)
mutual
inductive Rep : G → D → V → Prop
  | non {g : G} : Rep g .non .non
  | bl {g : G} (b : Bool) : Rep g (.bl b) (.bl b)
  | int {g : G} (i : Int) : Rep g (.int i) (.int i)
  | str {g : G} (x : Str) : Rep g (.str x) (.str x)
  | ty {g : G} (n : String) : Rep g (.ty n) (.ty n)
  | gl {g : G} {x : Str} {a : Addr} (h : mg x = some (.ref a)) : Rep g (.gl x) (.ref a)
  | tup {g : G} {a : Addr} {vs : List V} {ds : List D} (h : SqT K g.f a vs) (r : RepL g ds vs) : Rep g (.tup ds) (.ref a)
  | lst {g : G} {a : Addr} {vs : List V} {ds : List D} (h : g.f a = some (.lst vs)) (r : RepL g ds vs) : Rep g (.lst ds) (.ref a)
  | rol {g : G} {a : Addr} {vs : List V} {ds : List D} (h : SqL K g.f a vs) (r : RepL g ds vs) : Rep g (.rol ds) (.ref a)
  | ref {g : G} {n : Nat} {a : Addr} (h : g.r[n]? = some a) : Rep g (.ref n) (.ref a)
  | dc0 {g : G} {a : Addr} (h : g.f a = some (.dK [])) : Rep g .dc0 (.ref a)
  | rng {g : G} {a : Addr} {i j : Int} (h : g.f a = some (.rng i j)) : Rep g (.rng i j) (.ref a)
  | dct {g : G} {a : Addr} {ks : List Key} {vs : List V} {ds : List D} (h : g.f a = some (.dK (ks.zip vs))) (r : RepL g ds vs) : Rep g (.dct ks ds) (.ref a)
inductive RepL : G → List D → List V → Prop
  | nil {g : G} : RepL g [] []
  | cons {g : G} {d : D} {v : V} {ds : List D} {vs : List V} (h : Rep g d v) (t : RepL g ds vs) : RepL g (d :: ds) (v :: vs)
end
end

section
variable {K : PySem.W.Frag} {mg : Str → Option Value}
theorem sqT_le {f f' : Hp} {a : Addr} {vs : List V} (h : SqT K f a vs) (k : ∀ a o, f a = some o → f' a = some o) : SqT K f' a vs := by
  rcases h with (h | ⟨o, h⟩) | h
  · exact .inl (.inl (k _ _ h))
  · exact .inl (.inr ⟨o, k _ _ h⟩)
  · exact .inr h
theorem sqL_le {f f' : Hp} {a : Addr} {vs : List V} (h : SqL K f a vs) (k : ∀ a o, f a = some o → f' a = some o) : SqL K f' a vs := by
  rcases h with (h | ⟨o, h⟩) | h
  · exact .inl (.inl (k _ _ h))
  · exact .inl (.inr ⟨o, k _ _ h⟩)
  · exact .inr h
mutual
theorem Rep.ext {g g' : G} (l : g.ext g') : ∀ {d : D} {v : V}, Rep K mg g d v → Rep K mg g' d v
  | .non, _, h => by cases h; exact .non
  | .bl _, _, h => by cases h; exact .bl _
  | .int _, _, h => by cases h; exact .int _
  | .str _, _, h => by cases h; exact .str _
  | .ty _, _, h => by cases h; exact .ty _
  | .gl _, _, h => by cases h with | gl h => exact .gl h
  | .tup ds, _, h => by cases h with | tup h r => exact .tup (sqT_le h l.2.1) (RepL.ext l r)
  | .lst ds, _, h => by cases h with | lst h r => exact .lst (l.2.1 _ _ h) (RepL.ext l r)
  | .rol ds, _, h => by cases h with | rol h r => exact .rol (sqL_le h l.2.1) (RepL.ext l r)
  | .ref _, _, h => by cases h with | ref h => exact .ref (l.r h)
  | .dc0, _, h => by cases h with | dc0 h => exact .dc0 (l.2.1 _ _ h)
  | .xo _ _ _, _, h => by cases h
  | .rng _ _, _, h => by cases h with | rng h => exact .rng (l.2.1 _ _ h)
  | .dct _ _, _, h => by cases h with | dct h r => exact .dct (l.2.1 _ _ h) (RepL.ext l r)
theorem RepL.ext {g g' : G} (l : g.ext g') : ∀ {ds : List D} {vs : List V}, RepL K mg g ds vs → RepL K mg g' ds vs
  | [], _, h => by cases h; exact .nil
  | _ :: _, _, h => by cases h with | cons h t => exact .cons (Rep.ext l h) (RepL.ext l t)
end
theorem Rep.le {g g' : G} (l : g.le g') {d : D} {v : V} (h : Rep K mg g d v) : Rep K mg g' d v := h.ext l.ext
theorem RepL.le {g g' : G} (l : g.le g') {d : List D} {v : List V} (h : RepL K mg g d v) : RepL K mg g' d v := h.ext l.ext
theorem RepL.length {g : G} : ∀ {ds : List D} {vs : List V}, RepL K mg g ds vs → ds.length = vs.length
  | [], _, h => by cases h; rfl
  | _ :: _, _, h => by cases h with | cons h t => rw [List.length_cons, List.length_cons, RepL.length t]
theorem RepL.get {g : G} : ∀ {ds : List D} {vs : List V} {i : Nat} {d : D}, RepL K mg g ds vs → ds[i]? = some d → ∃ v, vs[i]? = some v ∧ Rep K mg g d v
  | [], _, _, _, _, e => by simp at e
  | x :: ds, _, 0, d, h, e => by
    cases h with
    | cons h t => simp at e; subst e; exact ⟨_, rfl, h⟩
  | x :: ds, _, i + 1, d, h, e => by
    cases h with
    | cons h t =>
      obtain ⟨v, e1, e2⟩ := RepL.get (i := i) (d := d) t (by simpa using e)
      exact ⟨v, by simpa using e1, e2⟩
theorem RepL.append {g : G} : ∀ {ds es : List D} {vs us : List V}, RepL K mg g ds vs → RepL K mg g es us → RepL K mg g (ds ++ es) (vs ++ us)
  | [], _, _, _, h, k => by cases h; exact k
  | _ :: _, _, _, _, h, k => by cases h with | cons h t => exact .cons h (RepL.append t k)
theorem RepL.take {g : G} : ∀ {ds : List D} {vs : List V} (n : Nat), RepL K mg g ds vs → RepL K mg g (ds.take n) (vs.take n)
  | _, _, 0, _ => by simp; exact .nil
  | [], _, n + 1, h => by cases h; exact .nil
  | _ :: _, _, n + 1, h => by cases h with | cons h t => exact .cons h (RepL.take n t)
theorem RepL.drop {g : G} : ∀ {ds : List D} {vs : List V} (n : Nat), RepL K mg g ds vs → RepL K mg g (ds.drop n) (vs.drop n)
  | _, _, 0, h => by simpa using h
  | [], _, n + 1, h => by cases h; exact .nil
  | _ :: _, _, n + 1, h => by cases h with | cons h t => simpa using RepL.drop n t
theorem RepL.set {g : G} {d : D} {v : V} (k : Rep K mg g d v) : ∀ {ds : List D} {vs : List V} (n : Nat), RepL K mg g ds vs → RepL K mg g (ds.set n d) (vs.set n v)
  | [], _, _, h => by cases h; exact .nil
  | _ :: _, _, 0, h => by cases h with | cons h t => exact .cons k t
  | _ :: _, _, n + 1, h => by cases h with | cons h t => exact .cons h (RepL.set k n t)

/-- a cell's list stands at its place -/
def CellOk (K : PySem.W.Frag) (mg : Str → Option Value) (g : G) (H : Hp) (a : Addr) : Cell → Prop
  | .lst ds => g.f a = none ∧ g.z a = none ∧ ∃ vs, H a = some (.lst vs) ∧ RepL K mg g ds vs
  | .dead => True
structure Rel (K : PySem.W.Frag) (mg : Str → Option Value) (g : G) (H : Hp) (S : Sto) : Prop where
  fin : ∀ a o, g.f a = some o → H a = some o
  zin : ∀ a o, g.z a = some o → H a = some o
  fz : ∀ a o, g.f a = some o → g.z a = none
  len : g.r.length = S.length
  nd : g.r.Nodup
  rin : ∀ (n : Nat) (a : Addr), g.r[n]? = some a → ∃ o, H a = some o
  zr : ∀ (n : Nat) (a : Addr), g.r[n]? = some a → g.z a = none
  cell : ∀ (n : Nat) (c : Cell) (a : Addr), S[n]? = some c → g.r[n]? = some a → CellOk K mg g H a c
theorem Rel.fnone {g : G} {H : Hp} {S : Sto} (r : Rel K mg g H S) {p : Addr} (h : H p = none) : g.f p = none := by
  cases e : g.f p with
  | none => rfl
  | some o => rw [r.fin _ _ e] at h; cases h
theorem Rel.znone {g : G} {H : Hp} {S : Sto} (r : Rel K mg g H S) {p : Addr} (h : H p = none) : g.z p = none := by
  cases e : g.z p with
  | none => rfl
  | some o => rw [r.zin _ _ e] at h; cases h
/-- something is known of p from now on -/
def G.known (g : G) (p : Addr) (o : HO) : G := { g with f := upd g.f p o }
theorem G.le_known {g : G} {p : Addr} {o : HO} (h : g.f p = none) : g.le (g.known p o) :=
  ⟨⟨[], (List.append_nil _).symm⟩, fun a u e => by
    show upd g.f p o a = some u
    rw [upd_ne (ne_of_none e h)]
    exact e, rfl, rfl⟩
theorem cellOk_up {g g' : G} {H H' : Hp} {a : Addr} {c : Cell} (l : g.le g') (x : CellOk K mg g H a c) (hf : g.f a = none → g'.f a = none) (hH : ∀ o, H a = some o → H' a = some o) : CellOk K mg g' H' a c := by
  cases c with
  | dead => trivial
  | lst ds =>
    obtain ⟨h1, h2, vs, h3, h4⟩ := x
    exact ⟨hf h1, by rw [l.2.2.2]; exact h2, vs, hH _ h3, h4.le l⟩
/-- a new object that never changes -/
theorem Rel.fresh {g : G} {H : Hp} {S : Sto} (r : Rel K mg g H S) {p : Addr} (h : H p = none) (o : HO) : Rel K mg (g.known p o) (upd H p o) S := by
  have hf := r.fnone h
  have hz := r.znone h
  have l : g.le (g.known p o) := G.le_known hf
  have up : ∀ a u, H a = some u → upd H p o a = some u := fun a u e => by rw [upd_ne (ne_of_none e h)]; exact e
  refine ⟨fun a u e => ?_, fun a u e => up a u (r.zin a u e), fun a u e => ?_, r.len, r.nd, fun n a e => ?_, r.zr, fun n c a e1 e2 => ?_⟩
  · have e' : upd g.f p o a = some u := e
    by_cases q : a = p
    · subst q
      rw [upd_same] at e' ⊢
      exact e'
    · rw [upd_ne q] at e' ⊢
      exact r.fin a u e'
  · have e' : upd g.f p o a = some u := e
    by_cases q : a = p
    · subst q; exact hz
    · rw [upd_ne q] at e'
      exact r.fz a u e'
  · obtain ⟨u, q⟩ := r.rin n a e
    exact ⟨u, up a u q⟩
  · refine cellOk_up l (r.cell n c a e1 e2) (fun q => ?_) fun u q => up a u q
    obtain ⟨u, q2⟩ := r.rin n a e2
    show upd g.f p o a = none
    rw [upd_ne (ne_of_none q2 h)]
    exact q
/-- a new list of the store -/
def G.cellAt (g : G) (p : Addr) : G := { g with r := g.r ++ [p] }
theorem G.le_cell {g : G} {p : Addr} : g.le (g.cellAt p) := ⟨⟨[p], rfl⟩, fun _ _ h => h, rfl, rfl⟩
theorem Rel.newCell {g : G} {H : Hp} {S : Sto} (r : Rel K mg g H S) {p : Addr} {vs : List V} {ds : List D} (h : H p = none) (rl : RepL K mg g ds vs) : Rel K mg (g.cellAt p) (upd H p (.lst vs)) (S ++ [.lst ds]) := by
  have hf := r.fnone h
  have hz := r.znone h
  have up : ∀ a u, H a = some u → upd H p (.lst vs) a = some u := fun a u e => by rw [upd_ne (ne_of_none e h)]; exact e
  have ap : ∀ (n : Nat) (a : Addr), (g.r ++ [p])[n]? = some a → (g.r[n]? = some a) ∨ (n = S.length ∧ a = p) := fun n a e => by
    rcases Nat.lt_or_ge n g.r.length with q | q
    · rw [List.getElem?_append_left q] at e
      exact .inl e
    · rw [List.getElem?_append_right q] at e
      have e0 : n - g.r.length = 0 := by
        rcases Nat.eq_zero_or_pos (n - g.r.length) with z | z
        · exact z
        · rw [List.getElem?_eq_none (by rw [List.length_singleton]; exact z)] at e; cases e
      rw [e0] at e
      refine .inr ⟨by have := r.len; omega, ?_⟩
      simpa using e.symm
  refine ⟨fun a u e => up a u (r.fin a u e), fun a u e => up a u (r.zin a u e), r.fz, ?_, ?_, fun n a e => ?_, fun n a e => ?_, fun n c a e1 e2 => ?_⟩
  · show (g.r ++ [p]).length = (S ++ [Cell.lst ds]).length
    rw [List.length_append, List.length_append, r.len]
    rfl
  · show (g.r ++ [p]).Nodup
    rw [List.nodup_append]
    refine ⟨r.nd, List.nodup_cons.mpr ⟨by simp, List.nodup_nil⟩, fun a ha b hb => ?_⟩
    have hb' : b = p := by simpa using hb
    subst hb'
    obtain ⟨n, hn⟩ := List.getElem?_of_mem ha
    obtain ⟨u, q⟩ := r.rin n a hn
    exact ne_of_none q h
  · rcases ap n a e with e | ⟨_, rfl⟩
    · obtain ⟨u, q⟩ := r.rin n a e
      exact ⟨u, up a u q⟩
    · exact ⟨_, upd_same⟩
  · rcases ap n a e with e | ⟨_, rfl⟩
    · exact r.zr n a e
    · exact hz
  · rcases ap n a e2 with e2 | ⟨rfl, rfl⟩
    · have hn : n < S.length := by rw [← r.len]; exact (List.getElem?_eq_some_iff.mp e2).1
      rw [List.getElem?_append_left hn] at e1
      exact cellOk_up G.le_cell (r.cell n c a e1 e2) (fun q => q) fun u q => up a u q
    · rw [List.getElem?_append_right (Nat.le_refl _), Nat.sub_self] at e1
      have e1' : Cell.lst ds = c := by simpa using e1
      subst e1'
      exact ⟨hf, hz, vs, upd_same, rl.le G.le_cell⟩
theorem Rep.newCell {g : G} {H : Hp} {S : Sto} (r : Rel K mg g H S) (p : Addr) : Rep K mg (g.cellAt p) (.ref S.length) (.ref p) :=
  .ref (by
    show (g.r ++ [p])[S.length]? = some p
    rw [← r.len, List.getElem?_append_right (Nat.le_refl _), Nat.sub_self]
    rfl)
/-- a list of the store is changed -/
theorem Rel.setCell {g : G} {H : Hp} {S : Sto} (r : Rel K mg g H S) {n : Nat} {a : Addr} {ds ds' : List D} {vs' : List V} (e : S[n]? = some (.lst ds)) (ea : g.r[n]? = some a) (rl : RepL K mg g ds' vs') :
    Rel K mg g (upd H a (.lst vs')) (S.set n (.lst ds')) := by
  have hn : n < S.length := (List.getElem?_eq_some_iff.mp e).1
  obtain ⟨h1, h2, vs, h3, h4⟩ := r.cell n _ a e ea
  have up : ∀ b o, b ≠ a → H b = some o → upd H a (.lst vs') b = some o := fun b o q z => by rw [upd_ne q]; exact z
  refine ⟨fun b o q => up b o (fun z => by rw [z, h1] at q; cases q) (r.fin b o q), fun b o q => up b o (fun z => by rw [z, h2] at q; cases q) (r.zin b o q), r.fz, ?_, r.nd, fun m b q => ?_, r.zr, fun m c b q1 q2 => ?_⟩
  · rw [List.length_set]; exact r.len
  · obtain ⟨o, z⟩ := r.rin m b q
    by_cases hb : b = a
    · subst hb; exact ⟨_, upd_same⟩
    · exact ⟨o, up b o hb z⟩
  · by_cases hm : m = n
    · subst hm
      rw [List.getElem?_set_self hn] at q1
      have q1' : Cell.lst ds' = c := by simpa using q1
      rw [ea] at q2
      have hb : a = b := Option.some.inj q2
      subst q1'
      subst hb
      exact ⟨h1, h2, vs', upd_same, rl⟩
    · rw [List.getElem?_set_ne (Ne.symm hm)] at q1
      have hb : b ≠ a := fun z => by
        subst z
        obtain ⟨l1, w1⟩ := List.getElem?_eq_some_iff.mp q2
        obtain ⟨l2, w2⟩ := List.getElem?_eq_some_iff.mp ea
        exact hm ((List.getElem_inj r.nd).mp (w1.trans w2.symm))
      exact cellOk_up (G.le.refl g) (r.cell m c b q1 q2) (fun z => z) fun o z => up b o hb z
/-- a list of the store is changed no more -/
theorem Rel.freeze {g : G} {H : Hp} {S : Sto} (r : Rel K mg g H S) {n : Nat} {a : Addr} {ds : List D} {vs : List V} (e : S[n]? = some (.lst ds)) (ea : g.r[n]? = some a) (hv : H a = some (.lst vs)) :
    Rel K mg (g.known a (.lst vs)) H (S.set n .dead) ∧ g.le (g.known a (.lst vs)) := by
  have hn : n < S.length := (List.getElem?_eq_some_iff.mp e).1
  obtain ⟨h1, h2, _, _, _⟩ := r.cell n _ a e ea
  have l : g.le (g.known a (.lst vs)) := G.le_known h1
  have one : ∀ b o, upd g.f a (.lst vs) b = some o → (b = a ∧ o = .lst vs) ∨ g.f b = some o := fun b o q => by
    by_cases hb : b = a
    · subst hb
      rw [upd_same] at q
      exact .inl ⟨rfl, (Option.some.inj q).symm⟩
    · rw [upd_ne hb] at q
      exact .inr q
  refine ⟨⟨fun b o q => ?_, r.zin, fun b o q => ?_, ?_, r.nd, r.rin, r.zr, fun m c b q1 q2 => ?_⟩, l⟩
  · rcases one b o q with ⟨rfl, rfl⟩ | q
    · exact hv
    · exact r.fin b o q
  · rcases one b o q with ⟨rfl, rfl⟩ | q
    · exact h2
    · exact r.fz b o q
  · rw [List.length_set]; exact r.len
  · by_cases hm : m = n
    · subst hm
      rw [List.getElem?_set_self hn] at q1
      have q1' : Cell.dead = c := by simpa using q1
      subst q1'
      trivial
    · rw [List.getElem?_set_ne (Ne.symm hm)] at q1
      have hb : b ≠ a := fun z => by
        subst z
        obtain ⟨l1, w1⟩ := List.getElem?_eq_some_iff.mp q2
        obtain ⟨l2, w2⟩ := List.getElem?_eq_some_iff.mp ea
        exact hm ((List.getElem_inj r.nd).mp (w1.trans w2.symm))
      refine cellOk_up l (r.cell m c b q1 q2) (fun z => ?_) fun o z => z
      show upd g.f a (.lst vs) b = none
      rw [upd_ne hb]
      exact z
/-! ### one object under construction -/
def G.withZ (g : G) (z : Hp) : G := { g with z := z }
theorem G.ext_withZ {g : G} {z : Hp} : g.ext (g.withZ z) := ⟨⟨[], (List.append_nil _).symm⟩, fun _ _ h => h, rfl⟩
theorem cellOk_z {g : G} {z : Hp} {H H' : Hp} {a : Addr} {c : Cell} (x : CellOk K mg g H a c) (hz : z a = none) (hH : ∀ o, H a = some o → H' a = some o) : CellOk K mg (g.withZ z) H' a c := by
  cases c with
  | dead => trivial
  | lst ds =>
    obtain ⟨h1, h2, vs, h3, h4⟩ := x
    exact ⟨h1, hz, vs, hH _ h3, h4.ext G.ext_withZ⟩
/-- an object is taken under protection, and changed by its owner -/
theorem Rel.putZ {g : G} {H : Hp} {S : Sto} (r : Rel K mg g H S) {p : Addr} {o : HO} {z : Hp} (hz : ∀ a, a ≠ p → g.z a = z a) (hp : H p = none ∨ ∃ u, g.z p = some u) : Rel K mg (g.withZ (upd z p o)) (upd H p o) S := by
  have fp : g.f p = none := by
    rcases hp with hp | ⟨u, hp⟩
    · exact r.fnone hp
    · cases e : g.f p with
      | none => rfl
      | some w => rw [r.fz _ _ e] at hp; cases hp
  have rp : ∀ (n : Nat) (a : Addr), g.r[n]? = some a → a ≠ p := fun n a e q => by
    subst q
    rcases hp with hp | ⟨u, hp⟩
    · obtain ⟨u, q⟩ := r.rin n _ e
      rw [hp] at q; cases q
    · rw [r.zr n _ e] at hp; cases hp
  have up : ∀ a u, a ≠ p → H a = some u → upd H p o a = some u := fun a u q e => by rw [upd_ne q]; exact e
  refine ⟨fun a u e => ?_, fun a u e => ?_, fun a u e => ?_, r.len, r.nd, fun n a e => ?_, fun n a e => ?_, fun n c a e1 e2 => ?_⟩
  · have e' : g.f a = some u := e
    exact up a u (fun q => by rw [q, fp] at e'; cases e') (r.fin a u e')
  · have e' : upd z p o a = some u := e
    by_cases q : a = p
    · subst q; rw [upd_same] at e' ⊢; exact e'
    · rw [upd_ne q] at e'
      exact up a u q (r.zin a u (by rw [hz a q]; exact e'))
  · have e' : g.f a = some u := e
    show upd z p o a = none
    have q : a ≠ p := fun q => by rw [q, fp] at e'; cases e'
    rw [upd_ne q, ← hz a q]
    exact r.fz a u e'
  · obtain ⟨u, q⟩ := r.rin n a e
    exact ⟨u, up a u (rp n a e) q⟩
  · show upd z p o a = none
    rw [upd_ne (rp n a e), ← hz a (rp n a e)]
    exact r.zr n a e
  · have q := rp n a e2
    refine cellOk_z (r.cell n c a e1 e2) ?_ fun u w => up a u q w
    rw [upd_ne q, ← hz a q]
    exact r.zr n a e2
/-- its owner lets it go: known from now on -/
theorem Rel.closeF {g : G} {H : Hp} {S : Sto} {p : Addr} {o : HO} {z : Hp} (r : Rel K mg (g.withZ (upd z p o)) H S) (hz : z p = none) (gz : g.z = z) : Rel K mg (g.known p o) H S ∧ g.f p = none := by
  have zp : (g.withZ (upd z p o)).z p = some o := upd_same
  have fp : g.f p = none := by
    cases e : g.f p with
    | none => rfl
    | some w => rw [r.fz p w e] at zp; cases zp
  have rp : ∀ (n : Nat) (a : Addr), g.r[n]? = some a → a ≠ p := fun n a e q => by
    subst q
    rw [r.zr n _ e] at zp; cases zp
  have zo : ∀ a, a ≠ p → (g.withZ (upd z p o)).z a = z a := fun a q => upd_ne q
  refine ⟨⟨fun a u e => ?_, fun a u e => ?_, fun a u e => ?_, r.len, r.nd, r.rin, fun n a e => ?_, fun n c a e1 e2 => ?_⟩, fp⟩
  · have e' : upd g.f p o a = some u := e
    by_cases q : a = p
    · subst q; rw [upd_same] at e'; rw [← e']; exact r.zin _ _ zp
    · rw [upd_ne q] at e'; exact r.fin a u e'
  · have e' : g.z a = some u := e
    rw [gz] at e'
    have q : a ≠ p := fun q => by rw [q, hz] at e'; cases e'
    exact r.zin a u (by rw [zo a q]; exact e')
  · have e' : upd g.f p o a = some u := e
    show g.z a = none
    rw [gz]
    by_cases q : a = p
    · rw [q]; exact hz
    · rw [upd_ne q] at e'
      have w := r.fz a u e'
      rwa [zo a q] at w
  · have q := rp n a e
    have w := r.zr n a e
    rw [zo a q] at w
    show g.z a = none
    rw [gz]; exact w
  · have q := rp n a e2
    have x := r.cell n c a e1 e2
    have w := r.zr n a e2
    rw [zo a q] at w
    cases c with
    | dead => trivial
    | lst ds =>
      obtain ⟨h1, h2, vs, h3, h4⟩ := x
      refine ⟨?_, by show g.z a = none; rw [gz]; exact w, vs, h3, RepL.ext (g := g.withZ (upd z p o)) (g' := g.known p o) ⟨⟨[], (List.append_nil _).symm⟩, fun b u e => ?_, rfl⟩ h4⟩
      · show upd g.f p o a = none
        rw [upd_ne q]; exact h1
      · show upd g.f p o b = some u
        have e' : g.f b = some u := e
        have q2 : b ≠ p := fun q => by rw [q, fp] at e'; cases e'
        rw [upd_ne q2]; exact e'
/-- its owner lets it go: a list of the store -/
theorem Rel.closeC {g : G} {H : Hp} {S : Sto} {p : Addr} {ds : List D} {vs : List V} {z : Hp} (r : Rel K mg (g.withZ (upd z p (.lst vs))) H S) (hz : z p = none) (gz : g.z = z) (rl : RepL K mg g ds vs) : Rel K mg (g.cellAt p) H (S ++ [.lst ds]) := by
  have zp : (g.withZ (upd z p (.lst vs))).z p = some (.lst vs) := upd_same
  have hp := r.zin _ _ zp
  have fp : g.f p = none := by
    cases e : g.f p with
    | none => rfl
    | some w => rw [r.fz p w e] at zp; cases zp
  have rp : ∀ (n : Nat) (a : Addr), g.r[n]? = some a → a ≠ p := fun n a e q => by
    subst q
    rw [r.zr n _ e] at zp; cases zp
  have zo : ∀ a, a ≠ p → (g.withZ (upd z p (.lst vs))).z a = z a := fun a q => upd_ne q
  have len : g.r.length = S.length := r.len
  have ap : ∀ (n : Nat) (a : Addr), (g.r ++ [p])[n]? = some a → (g.r[n]? = some a) ∨ (n = S.length ∧ a = p) := fun n a e => by
    rcases Nat.lt_or_ge n g.r.length with q | q
    · rw [List.getElem?_append_left q] at e
      exact .inl e
    · rw [List.getElem?_append_right q] at e
      have e0 : n - g.r.length = 0 := by
        rcases Nat.eq_zero_or_pos (n - g.r.length) with z | z
        · exact z
        · rw [List.getElem?_eq_none (by rw [List.length_singleton]; exact z)] at e; cases e
      rw [e0] at e
      refine .inr ⟨by omega, ?_⟩
      simpa using e.symm
  have zz : ∀ a, a ≠ p → (g.withZ (upd z p (.lst vs))).z a = none → g.z a = none := fun a q w => by rw [zo a q] at w; rw [gz]; exact w
  refine ⟨r.fin, fun a u e => ?_, fun a u e => ?_, ?_, ?_, fun n a e => ?_, fun n a e => ?_, fun n c a e1 e2 => ?_⟩
  · have e' : g.z a = some u := e
    rw [gz] at e'
    have q : a ≠ p := fun q => by rw [q, hz] at e'; cases e'
    exact r.zin a u (by rw [zo a q]; exact e')
  · by_cases q : a = p
    · rw [q]; show g.z p = none; rw [gz]; exact hz
    · exact zz a q (r.fz a u e)
  · show (g.r ++ [p]).length = (S ++ [Cell.lst ds]).length
    rw [List.length_append, List.length_append, len]
    rfl
  · show (g.r ++ [p]).Nodup
    rw [List.nodup_append]
    refine ⟨r.nd, List.nodup_cons.mpr ⟨by simp, List.nodup_nil⟩, fun a ha b hb => ?_⟩
    have hb' : b = p := by simpa using hb
    subst hb'
    obtain ⟨n, hn⟩ := List.getElem?_of_mem ha
    exact rp n a hn
  · rcases ap n a e with e | ⟨_, rfl⟩
    · exact r.rin n a e
    · exact ⟨_, hp⟩
  · rcases ap n a e with e | ⟨_, rfl⟩
    · exact zz a (rp n a e) (r.zr n a e)
    · show g.z _ = none; rw [gz]; exact hz
  · rcases ap n a e2 with e2 | ⟨rfl, rfl⟩
    · have hn : n < S.length := by rw [← len]; exact (List.getElem?_eq_some_iff.mp e2).1
      rw [List.getElem?_append_left hn] at e1
      have x := r.cell n c a e1 e2
      cases c with
      | dead => trivial
      | lst es =>
        obtain ⟨h1, h2, us, h3, h4⟩ := x
        exact ⟨h1, zz a (rp n a e2) (r.zr n a e2), us, h3, RepL.ext (g := g.withZ (upd z p (.lst vs))) (g' := g.cellAt p) ⟨⟨[p], rfl⟩, fun _ _ h => h, rfl⟩ h4⟩
    · rw [List.getElem?_append_right (Nat.le_refl _), Nat.sub_self] at e1
      have e1' : Cell.lst ds = c := by simpa using e1
      subst e1'
      refine ⟨fp, by show g.z _ = none; rw [gz]; exact hz, vs, hp, rl.le G.le_cell⟩
end
end ML


set_option Elab.async false
set_option linter.all false
set_option maxRecDepth 100000
set_option autoImplicit false
set_option maxHeartbeats 4000000
namespace ML
open PySem PySem.Spec PyProof.Rows L2

abbrev Sl := List (Option V)
/-! ## the readings, at their weakest -/
def WE (X : Cx) (e : Expr) (σ : Sl) (H : Hp) (Q : VK) : Prop := ∀ (pins : List (Addr × Obj)) (s : Shared), Inv X pins σ H s → wpAny (model X.prog X.w) X.A (eval e X.env) (EP X pins σ Q) X.xe s
def WT (X : Cx) (e : Expr) (σ : Sl) (H : Hp) (Q : Bool → Hp → Prop) : Prop := ∀ (pins : List (Addr × Obj)) (s : Shared), Inv X pins σ H s → wpAny (model X.prog X.w) X.A (isTrue e X.env (eval e X.env)) (TP X pins σ Q) X.xe s
/-- a test whatever stands for its whole -/
def WW (X : Cx) (e : Expr) (σ : Sl) (H : Hp) (Q : Bool → Hp → Prop) : Prop := ∀ (whole : Sem Value) (pins : List (Addr × Obj)) (s : Shared), Inv X pins σ H s → wpAny (model X.prog X.w) X.A (isTrue e X.env whole) (TP X pins σ Q) X.xe s
def WA (X : Cx) (es : List Expr) (σ : Sl) (H : Hp) (Q : List V → Hp → Prop) : Prop := ∀ (pos : Pos) (pins : List (Addr × Obj)) (s : Shared), Inv X pins σ H s → wpAny (model X.prog X.w) X.A (spliced (backTo pos (starEach es X.env))) (AP X pins σ Q) X.xe s
def WS (X : Cx) (st : Stmt) (D : Ends) (σ : Sl) (H : Hp) : Prop := ∀ (pins : List (Addr × Obj)) (s : Shared), Inv X pins σ H s → wpAny (model X.prog X.w) X.A (exec st X.env) (SP X pins D) X.xe s
def WSs (X : Cx) (st : List Stmt) (D : Ends) (σ : Sl) (H : Hp) : Prop := ∀ (pins : List (Addr × Obj)) (s : Shared), Inv X pins σ H s → wpAny (model X.prog X.w) X.A (execs st X.env) (SP X pins D) X.xe s
section
variable {X : Cx} {e : Expr} {es : List Expr} {st : Stmt} {sts : List Stmt} {σ : Sl} {H : Hp}
theorem peW (X : Cx) (e : Expr) : PE X e (WE X e) := ⟨fun pins s σ H Q I h => h pins s I⟩
theorem ptW (X : Cx) (e : Expr) : PT X e (WT X e) := ⟨fun pins s σ H Q I h => h pins s I⟩
theorem pwW (X : Cx) (e : Expr) : PW X e (WW X e) := ⟨fun wh pins s σ H Q I h => h wh pins s I⟩
theorem paW (X : Cx) (es : List Expr) : PA X es (WA X es) := ⟨fun pos pins s σ H Q I h => h pos pins s I⟩
theorem psW (X : Cx) (st : Stmt) : PS X st (fun D σ H => WS X st D σ H) := ⟨fun pins s σ H D I h => h pins s I⟩
theorem pssW (X : Cx) (st : List Stmt) : PSs X st (fun D σ H => WSs X st D σ H) := ⟨fun pins s σ H D I h => h pins s I⟩
theorem wE {t : TE} {Q : VK} (p : PE X e t) (h : t σ H Q) : WE X e σ H Q := fun pins s I => p.run pins s σ H Q I h
theorem wT {t : TT} {Q : Bool → Hp → Prop} (p : PT X e t) (h : t σ H Q) : WT X e σ H Q := fun pins s I => p.run pins s σ H Q I h
theorem wW {t : TT} {Q : Bool → Hp → Prop} (p : PW X e t) (h : t σ H Q) : WW X e σ H Q := fun wh pins s I => p.run wh pins s σ H Q I h
theorem wA {t : TA} {Q : List V → Hp → Prop} (p : PA X es t) (h : t σ H Q) : WA X es σ H Q := fun pos pins s I => p.run pos pins s σ H Q I h
theorem wS {t : TS} {D : Ends} (p : PS X st t) (h : t D σ H) : WS X st D σ H := fun pins s I => p.run pins s σ H D I h
theorem wSs {t : TS} {D : Ends} (p : PSs X sts t) (h : t D σ H) : WSs X sts D σ H := fun pins s I => p.run pins s σ H D I h
theorem WE.imp {Q Q' : VK} (h : WE X e σ H Q) (k : ∀ v H', Q v H' → Q' v H') : WE X e σ H Q' := fun pins s I =>
  thn (h pins s I) fun _ _ ⟨v, H', I', r, q⟩ => ⟨v, H', I', r, k _ _ q⟩
theorem WW.wt {Q : Bool → Hp → Prop} (h : WW X e σ H Q) : WT X e σ H Q := fun pins s I => h _ pins s I
end

/-! ## what a mirror's result is good for -/
section
variable (K : PySem.W.Frag) (mg : Str → Option Value)
/-- a value, or the exception that an except suite holds (P: the pinned objects) -/
def RepE (P : List (Addr × Obj)) (g : G) (d : D) (v : V) : Prop :=
  match d with
  | .xo c ns ds => ∃ (a : Addr) (oe : Obj) (dd C : Addr) (vs : List V), v = .ref a ∧ (a, oe) ∈ P ∧ Zc (.ref C) (some dd) oe ∧ (∃ fv, oe.data = .fields fv) ∧ mg c = some (.ref C) ∧ g.f dd = some (.xd (ns.zip vs)) ∧ RepL K mg g ds vs
  | d => Rep K mg g d v
/-- the names of the frame -/
def EvR (P : List (Addr × Obj)) (g : G) (ev : Ev) (σ : Sl) : Prop := ev.length = σ.length ∧ ∀ (i : Nat) (d : D), ev[i]? = some (some d) → ∃ v, σ[i]? = some (some v) ∧ RepE K mg P g d v
/-- an exception in the air: its class, its own dict -/
def RepX (g : G) (x : Xn) (c : Value) (d : Option Addr) : Prop := ∃ (C dd : Addr) (vs : List V), mg x.cls = some (.ref C) ∧ c = .ref C ∧ d = some dd ∧ g.f dd = some (.xd (x.ns.zip vs)) ∧ RepL K mg g x.ds vs
def Post {α β : Type} (Rp : G → α → β → Prop) (W : WX) (σ : Sl) (g : G) (r : R α) (Q : β → Hp → Prop) : Prop :=
  match r with
  | .ok a S => ∀ (g' : G) (b : β) (H : Hp), g.le g' → Rel K mg g' H S → Rp g' a b → Q b H
  | .ex x S => ∀ (g' : G) (c : Value) (d : Option Addr) (H : Hp), g.le g' → Rel K mg g' H S → RepX K mg g' x c d → W c d σ H
  | .no => False
end
section
variable {K : PySem.W.Frag} {mg : Str → Option Value} {α β γ δ : Type} {Rp : G → α → β → Prop} {Rp' : G → γ → δ → Prop} {W : WX} {σ : Sl} {g g' : G} {r : R α} {Q : β → Hp → Prop} {Q' : δ → Hp → Prop} {P : List (Addr × Obj)}
theorem RepE.of {d : D} {v : V} (h : Rep K mg g d v) : RepE K mg P g d v := by
  cases d with
  | xo => cases h
  | _ => exact h
theorem RepE.ext {d : D} {v : V} (l : g.ext g') (h : RepE K mg P g d v) : RepE K mg P g' d v := by
  cases d with
  | xo c ns ds => obtain ⟨a, oe, dd, C, vs, h1, h2, h3, h4, h5, h6, h7⟩ := h; exact ⟨a, oe, dd, C, vs, h1, h2, h3, h4, h5, l.2.1 _ _ h6, h7.ext l⟩
  | _ => exact Rep.ext l h
theorem EvR.ext {ev : Ev} (l : g.ext g') (h : EvR K mg P g ev σ) : EvR K mg P g' ev σ := ⟨h.1, fun i d e => by
  obtain ⟨v, e1, e2⟩ := h.2 i d e
  exact ⟨v, e1, e2.ext l⟩⟩
theorem EvR.le {ev : Ev} (h : EvR K mg P g ev σ) (l : g.le g') : EvR K mg P g' ev σ := h.ext l.ext
theorem EvR.set {ev : Ev} (h : EvR K mg P g ev σ) {d : D} {v : V} (r : Rep K mg g d v) (i : Nat) : EvR K mg P g (ev.set i (some d)) (σ.set i (some v)) := by
  refine ⟨by rw [List.length_set, List.length_set]; exact h.1, fun j d' e => ?_⟩
  by_cases hj : i = j
  · subst hj
    have hi : i < ev.length := by
      have := (List.getElem?_eq_some_iff.mp e).1
      rwa [List.length_set] at this
    rw [List.getElem?_set_self hi] at e
    have e' : d = d' := by simpa using e
    subst e'
    exact ⟨v, by rw [List.getElem?_set_self (by rw [← h.1]; exact hi)], .of r⟩
  · rw [List.getElem?_set_ne hj] at e ⊢
    exact h.2 j d' e
theorem EvR.gone {ev : Ev} (h : EvR K mg P g ev σ) (i : Nat) : EvR K mg P g (ev.set i none) (σ.set i none) := by
  refine ⟨by rw [List.length_set, List.length_set]; exact h.1, fun j d' e => ?_⟩
  by_cases hj : i = j
  · subst hj
    have hi : i < ev.length := by
      have := (List.getElem?_eq_some_iff.mp e).1
      rwa [List.length_set] at this
    rw [List.getElem?_set_self hi] at e
    simp at e
  · rw [List.getElem?_set_ne hj] at e ⊢
    exact h.2 j d' e
theorem Post.up (l : g.le g') (h : Post K mg Rp W σ g r Q) : Post K mg Rp W σ g' r Q := by
  cases r with
  | ok a S => exact fun g2 b H k => h g2 b H (l.trans k)
  | ex x S => exact fun g2 c d H k => h g2 c d H (l.trans k)
  | no => exact h
/-- first this, then that -/
theorem Post.bind {f : α → Sto → R γ} (h : Post K mg Rp' W σ g (r.bind f) Q')
    (k : ∀ (g' : G) (a : α) (S : Sto) (b : β) (H : Hp), g.le g' → Rel K mg g' H S → Rp g' a b → Post K mg Rp' W σ g' (f a S) Q' → Q b H) : Post K mg Rp W σ g r Q := by
  cases r with
  | ok a S => exact fun g2 b H l rl rp => k g2 a S b H l rl rp (Post.up l h)
  | ex x S => exact h
  | no => exact h
end

/-! ### arguments without stars, by their look alone -/
def notStar : Expr → Bool
  | .Starred _ _ => false
  | _ => true
theorem star1 {e : Expr} {es : List Expr} {env : Env} (h : notStar e = true) : starEach (e :: es) env = (false, eval e env) :: starEach es env := by
  cases e <;> first | rfl | cases h
theorem star0 {env : Env} : starEach [] env = [] := rfl
theorem star1n {e : Expr} {env : Env} (h : notStar e = true) : starEach [e] env = [(false, eval e env)] := by rw [star1 h, star0]
theorem star2n {e e2 : Expr} {env : Env} (h : notStar e = true) (h2 : notStar e2 = true) : starEach [e, e2] env = [(false, eval e env), (false, eval e2 env)] := by rw [star1 h, star1 h2, star0]
theorem starAny {env : Env} : ∀ {es : List Expr}, es.all notStar = true → (starEach es env).any (·.1) = false
  | [], _ => rfl
  | e :: es, h => by
    rw [List.all_cons, Bool.and_eq_true] at h
    rw [star1 h.1, List.any_cons, starAny h.2]
    rfl
theorem starP {pos : Pos} {es : List Expr} {env : Env} (h : es.all notStar = true) : (backTo pos (starEach es env)).any (·.1) = false := by
  have := starAny (env := env) h
  unfold backTo
  rw [List.any_map]
  exact this
theorem starFew {cpos : Pos} {es : List Expr} {env : Env} (h : es.all notStar = true) (k : decide (es.length + ([] : List Keyword).length + (if ([] : List Keyword).isEmpty then 0 else 1) < 30) = true) :
    ((backTo cpos (starEach es env)).all (fun x => !x.1) && (backToKw cpos (keywordEach [] env)).all (fun x => x.1.isSome) && decide (es.length + ([] : List Keyword).length + (if ([] : List Keyword).isEmpty then 0 else 1) < 30)) = true := by
  rw [k, Bool.and_true, Bool.and_eq_true]
  refine ⟨?_, rfl⟩
  have q := starP (pos := cpos) (env := env) h
  rw [List.all_eq_true]
  intro x hx
  cases e : x.1 with
  | false => rfl
  | true =>
    have : (backTo cpos (starEach es env)).any (·.1) = true := List.any_eq_true.mpr ⟨x, hx, e⟩
    rw [this] at q
    cases q
theorem kwE {env : Env} : ∀ kws : List Keyword, keywordEach kws env = kws.map fun k => (k.arg, eval k.value env)
  | [] => rfl
  | ⟨a, b, c⟩ :: kws => by
    show (a, eval b env) :: keywordEach kws env = _
    rw [kwE kws]
    rfl
theorem kwAll {pos : Pos} {kws : List Keyword} {env : Env} (h : kws.all (fun k => k.arg.isSome) = true) : (backToKw pos (keywordEach kws env)).all (·.1.isSome) = true := by
  unfold backToKw
  rw [kwE, List.all_map, List.all_map]
  exact h
theorem kwNames {pos : Pos} {kws : List Keyword} {env : Env} {ks : List Str} (h : kws.filterMap (fun k => k.arg) = ks) : (backToKw pos (keywordEach kws env)).filterMap (·.1) = ks := by
  unfold backToKw
  rw [kwE, List.filterMap_map, List.filterMap_map]
  exact h
theorem starKw {pos : Pos} {es : List Expr} {kws : List Keyword} {env : Env} (h : es.all notStar = true) (k : kws.any (fun k => k.arg.isNone) = false) : ((backTo pos (starEach es env)).any (·.1) || (backToKw pos (keywordEach kws env)).any (·.1.isNone)) = false := by
  rw [starP h]
  unfold backToKw
  rw [kwE, List.any_map, List.any_map]
  exact k
/-! ## judgements -/
abbrev M (α : Type) := Ev → Sto → R α
section
variable (X : Cx) (W : WX)
/-- the expression runs as the mirror says -/
def EM (e : Expr) (m : M D) : Prop := ∀ (g : G) (σ : Sl) (H : Hp) (ev : Ev) (S : Sto) (Q : VK), Rel X.K X.mg g H S → EvR X.K X.mg X.pn g ev σ → Post X.K X.mg (Rep X.K X.mg) W σ g (m ev S) Q → WE X e σ H Q
abbrev RB : G → Bool → Bool → Prop := fun _ a b => a = b
def TM (e : Expr) (m : M Bool) : Prop := ∀ (g : G) (σ : Sl) (H : Hp) (ev : Ev) (S : Sto) (Q : Bool → Hp → Prop), Rel X.K X.mg g H S → EvR X.K X.mg X.pn g ev σ → Post X.K X.mg RB W σ g (m ev S) Q → WT X e σ H Q
def WM (e : Expr) (m : M Bool) : Prop := ∀ (g : G) (σ : Sl) (H : Hp) (ev : Ev) (S : Sto) (Q : Bool → Hp → Prop), Rel X.K X.mg g H S → EvR X.K X.mg X.pn g ev σ → Post X.K X.mg RB W σ g (m ev S) Q → WW X e σ H Q
def AM (es : List Expr) (m : M (List D)) : Prop := ∀ (g : G) (σ : Sl) (H : Hp) (ev : Ev) (S : Sto) (Q : List V → Hp → Prop), Rel X.K X.mg g H S → EvR X.K X.mg X.pn g ev σ → Post X.K X.mg (RepL X.K X.mg) W σ g (m ev S) Q → WA X es σ H Q
end
section
variable {X : Cx} {W : WX} {e a b c : Expr} {es : List Expr} {pos : Pos} {ma mb mc : M D} {ml : M (List D)} {mt mu : M Bool}

/-! ### names and constants -/
def asVal : Option (Option D) → Sto → R D
  | some (some (.xo _ _ _)), _ => .no
  | some (some d), S => .ok d S
  | _, _ => .no
def mVar (i : Nat) : M D := fun ev S => asVal ev[i]? S
def mC (d : D) : M D := fun _ S => .ok d S
theorem em_var (i : Nat) {x : Str} (hN : X.N[i]? = some x := by rfl) (hv : Vis X.env.scope x := by first | exact Or.inl rfl | exact Or.inr (Or.inl rfl) | exact Or.inr (Or.inr rfl)) (hd : (x == ("__debug__" : Str)) = false := by decide)
    (hcd : (x == ("__classdict__" : Str)) = false := by decide) : EM X W (.Name x pos) (mVar i) := by
  intro g σ H ev S Q rl er hP
  unfold mVar at hP
  cases e : ev[i]? with
  | none => rw [e] at hP; exact hP.elim
  | some o =>
    rw [e] at hP
    cases o with
    | none => exact hP.elim
    | some d =>
      obtain ⟨v, e1, e2⟩ := er.2 i d e
      cases d with
      | xo => exact hP.elim
      | _ => exact wE (pe_var hN hv hd hcd) ⟨v, e1, hP g v H (G.le.refl g) rl e2⟩
theorem em_int {i : Int} {j : Nat} : EM X W (.Constant (.int i) j pos) (mC (.int i)) := fun g σ H ev S Q rl er hP => wE pe_int (hP g _ H (G.le.refl g) rl (.int i))
theorem em_bl {i : Bool} {j : Nat} : EM X W (.Constant (.bool i) j pos) (mC (.bl i)) := fun g σ H ev S Q rl er hP => wE pe_bl (hP g _ H (G.le.refl g) rl (.bl i))
theorem em_non {j : Nat} : EM X W (.Constant .none j pos) (mC .non) := fun g σ H ev S Q rl er hP => wE pe_non (hP g _ H (G.le.refl g) rl .non)
theorem em_str {i : Str} {j : Nat} : EM X W (.Constant (.str i) j pos) (mC (.str i)) := fun g σ H ev S Q rl er hP => wE pe_str (hP g _ H (G.le.refl g) rl (.str i))
/-- a module's constant: an int, a text .. -/
theorem em_const {x : Str} {d : D} {u : Value} {v : V} (hm : X.mg x = some u) (hr : RelV v u) (hv : ∀ g, Rep X.K X.mg g d v) (hg : Gl X x := by rfl) (hd : (x == ("__debug__" : Str)) = false := by decide) : EM X W (.Name x pos) (mC d) :=
  fun g σ H ev S Q rl er hP => wE (pe_glob hg hm hr hd) (hP g _ H (G.le.refl g) rl (hv g))
/-- a def or a class as a value -/
theorem em_gl {x : Str} {f : Addr} (hm : X.mg x = some (.ref f)) (hg : Gl X x := by rfl) (hd : (x == ("__debug__" : Str)) = false := by decide) : EM X W (.Name x pos) (mC (.gl x)) :=
  em_const (v := .ref f) hm rfl (fun _ => .gl hm) hg hd

/-! ### operators -/
abbrev P1 := D → Sto → R D
abbrev P2 := D → D → Sto → R D
def m2 (p : P2) (ma mb : M D) : M D := fun ev S => (ma ev S).bind fun x S1 => (mb ev S1).bind fun y S2 => p x y S2
def m1 (p : P1) (ma : M D) : M D := fun ev S => (ma ev S).bind p
/-- an operation on two values does what p says -/
def OpM (X : Cx) (W : WX) (f : Value → Value → Sem Value) (p : P2) : Prop := ∀ (g : G) (σ : Sl) (H : Hp) (S : Sto) (x y : D) (v u : V) (Q : VK), Rel X.K X.mg g H S → Rep X.K X.mg g x v → Rep X.K X.mg g y u →
  Post X.K X.mg (Rep X.K X.mg) W σ g (p x y S) Q → ∀ (pins : List (Addr × Obj)) (s : Shared) (vv uu : Value), Inv X pins σ H s → RelV v vv → RelV u uu → wpAny (model X.prog X.w) X.A (f vv uu) (EP X pins σ Q) X.xe s
def UnM (X : Cx) (W : WX) (f : Value → Sem Value) (p : P1) : Prop := ∀ (g : G) (σ : Sl) (H : Hp) (S : Sto) (x : D) (v : V) (Q : VK), Rel X.K X.mg g H S → Rep X.K X.mg g x v →
  Post X.K X.mg (Rep X.K X.mg) W σ g (p x S) Q → ∀ (pins : List (Addr × Obj)) (s : Shared) (vv : Value), Inv X pins σ H s → RelV v vv → wpAny (model X.prog X.w) X.A (f vv) (EP X pins σ Q) X.xe s
theorem OpM.opR {f : Value → Value → Sem Value} {p : P2} {g : G} (o : OpM X W f p) : OpR X f (fun v u H Q => ∃ (g : G) (S : Sto) (x y : D), Rel X.K X.mg g H S ∧ Rep X.K X.mg g x v ∧ Rep X.K X.mg g y u ∧ ∀ σ, Post X.K X.mg (Rep X.K X.mg) W σ g (p x y S) Q) := by
  intro pins s σ H v u vv uu Q I rv ru h
  obtain ⟨g, S, x, y, h1, h2, h3, h4⟩ := h
  exact o g σ H S x y v u Q h1 h2 h3 (h4 σ) pins s vv uu I rv ru
theorem twoM {Q : VK} {g : G} {σ : Sl} {H : Hp} {ev : Ev} {S : Sto} {p : P2} (ha : EM X W a ma) (hb : EM X W b mb) (rl : Rel X.K X.mg g H S) (er : EvR X.K X.mg X.pn g ev σ) (hP : Post X.K X.mg (Rep X.K X.mg) W σ g (m2 p ma mb ev S) Q)
    {R : V → V → Hp → Prop} (k : ∀ (g' : G) (x y : D) (S' : Sto) (v u : V) (H' : Hp), g.le g' → Rel X.K X.mg g' H' S' → Rep X.K X.mg g' x v → Rep X.K X.mg g' y u → Post X.K X.mg (Rep X.K X.mg) W σ g' (p x y S') Q → R v u H') :
    WE X a σ H fun v H1 => WE X b σ H1 fun u H2 => R v u H2 := by
  refine ha g σ H ev S _ rl er (hP.bind fun g1 x S1 v H1 l1 rl1 rx hP1 => ?_)
  refine hb g1 σ H1 ev S1 _ rl1 (er.le l1) (hP1.bind fun g2 y S2 u H2 l2 rl2 ry hP2 => ?_)
  exact k g2 x y S2 v u H2 (l1.trans l2) rl2 (rx.le l2) ry hP2
theorem em_op {op : Operator} {p : P2} (o : OpM X W (binaryOp op) p) (ha : EM X W a ma) (hb : EM X W b mb) : EM X W (.BinOp a op b pos) (m2 p ma mb) := by
  intro g σ H ev S Q rl er hP pins s I
  refine wpAny_BinOp (binT (peW X a) (peW X b) I (twoM (R := fun v u H2 => ∃ (g' : G) (x y : D) (S' : Sto), Rel X.K X.mg g' H2 S' ∧ Rep X.K X.mg g' x v ∧ Rep X.K X.mg g' y u ∧ Post X.K X.mg (Rep X.K X.mg) W σ g' (p x y S') Q) ha hb rl er hP
    fun g' x y S' v u H' l h1 h2 h3 h4 => ⟨g', x, y, S', h1, h2, h3, h4⟩) fun vv uu s2 v u H2 I2 rv ru q => ?_)
  obtain ⟨g', x, y, S', h1, h2, h3, h4⟩ := q
  exact o g' σ H2 S' x y v u Q h1 h2 h3 h4 pins s2 vv uu I2 rv ru
theorem em_un {op : UnaryOp} {p : P1} (o : UnM X W (unaryOp op) p) (ha : EM X W a ma) : EM X W (.UnaryOp op a pos) (m1 p ma) := by
  intro g σ H ev S Q rl er hP pins s I
  refine UnaryOp_ (thn (ha g σ H ev S (fun v H1 => ∃ (g' : G) (x : D) (S' : Sto), Rel X.K X.mg g' H1 S' ∧ Rep X.K X.mg g' x v ∧ Post X.K X.mg (Rep X.K X.mg) W σ g' (p x S') Q) rl er (hP.bind fun g1 x S1 v H1 l1 rl1 rx hP1 => ⟨g1, x, S1, rl1, rx, hP1⟩) pins s I)
    fun vv s1 ⟨v, H1, I1, rv, g1, x, S1, h1, h2, h3⟩ => o g1 σ H1 S1 x v Q h1 h2 h3 pins s1 vv I1 rv)
/-- a comparison, as a value and as a test -/
theorem em_cmp {op : CmpOp} {p : P2} (o : OpM X W (compareOp op) p) (ha : EM X W a ma) (hb : EM X W b mb) (hm : behindInMarks op b = false := by first | exact nomark _ | rfl) : EM X W (.Compare a [op] [b] pos) (m2 p ma mb) := by
  intro g σ H ev S Q rl er hP pins s I
  refine wpAny_Compare1 (binT (peW X a) (peW X b) I (twoM (R := fun v u H2 => ∃ (g' : G) (x y : D) (S' : Sto), Rel X.K X.mg g' H2 S' ∧ Rep X.K X.mg g' x v ∧ Rep X.K X.mg g' y u ∧ Post X.K X.mg (Rep X.K X.mg) W σ g' (p x y S') Q) ha hb rl er hP
    fun g' x y S' v u H' l h1 h2 h3 h4 => ⟨g', x, y, S', h1, h2, h3, h4⟩) fun vv uu s2 v u H2 I2 rv ru q => ?_) hm
  obtain ⟨g', x, y, S', h1, h2, h3, h4⟩ := q
  exact o g' σ H2 S' x y v u Q h1 h2 h3 h4 pins s2 vv uu I2 rv ru
/-- a bool, nothing else -/
def asB : D → Sto → R Bool := fun d S => match d with
  | .bl b => .ok b S
  | _ => .no
def mT (ma : M D) : M Bool := fun ev S => (ma ev S).bind asB
theorem post_asB {g : G} {σ : Sl} {x : D} {S : Sto} {v : V} {H : Hp} {Q : Bool → Hp → Prop} (rl : Rel X.K X.mg g H S) (rx : Rep X.K X.mg g x v) (h : Post X.K X.mg RB W σ g (asB x S) Q) : ∃ k, v = .bl k ∧ Q k H := by
  cases x with
  | bl b => cases rx; exact ⟨b, rfl, h g b H (G.le.refl g) rl rfl⟩
  | _ => exact h.elim
theorem tm_cmp {op : CmpOp} {p : P2} (o : OpM X W (compareOp op) p) (ha : EM X W a ma) (hb : EM X W b mb) (hm : behindInMarks op b = false := by first | exact nomark _ | rfl) : TM X W (.Compare a [op] [b] pos) (mT (m2 p ma mb)) := by
  intro g σ H ev S Q rl er hP pins s I
  have hP' : Post X.K X.mg (Rep X.K X.mg) W σ g (m2 p ma mb ev S) (fun v H' => ∃ k, v = .bl k ∧ Q k H') := Post.bind hP fun g1 x S1 v H1 l1 rl1 rx hP1 => post_asB rl1 rx hP1
  refine wpAny_isTrue_Compare1 (binT (peW X a) (peW X b) I (twoM (R := fun v u H2 => ∃ (g' : G) (x y : D) (S' : Sto), Rel X.K X.mg g' H2 S' ∧ Rep X.K X.mg g' x v ∧ Rep X.K X.mg g' y u ∧ Post X.K X.mg (Rep X.K X.mg) W σ g' (p x y S') _) ha hb rl er hP'
    fun g' x y S' v u H' l h1 h2 h3 h4 => ⟨g', x, y, S', h1, h2, h3, h4⟩) fun vv uu s2 v u H2 I2 rv ru q => ?_) hm
  obtain ⟨g', x, y, S', h1, h2, h3, h4⟩ := q
  refine thn (o g' σ H2 S' x y v u _ h1 h2 h3 h4 pins s2 vv uu I2 rv ru) fun cc s3 ⟨z, H3, I3, r3, k, e, q3⟩ => ?_
  subst e
  cases r3
  exact wpAny_truthy_bool ⟨H3, I3, q3⟩
end
end ML


set_option Elab.async false
set_option linter.all false
set_option maxRecDepth 100000
set_option autoImplicit false
set_option maxHeartbeats 4000000
namespace ML
open PySem PySem.Spec PyProof.Rows L2

/-! ## lists wherever they stand -/
def seqOf (S : Sto) : D → Option (List D)
  | .lst ds => some ds
  | .rol ds => some ds
  | .ref n => match S[n]? with
    | some (.lst ds) => some ds
    | _ => none
  | _ => none
/-- .. but those that are only read -/
def seqM (S : Sto) : D → Option (List D)
  | .lst ds => some ds
  | .ref n => match S[n]? with
    | some (.lst ds) => some ds
    | _ => none
  | _ => none
section
variable {K : PySem.W.Frag} {mg : Str → Option Value} {g : G} {H : Hp} {S : Sto} {d : D} {v : V} {ds : List D}
theorem sqL_up {f H : Hp} {a : Addr} {vs : List V} (h : SqL K f a vs) (k : ∀ a o, f a = some o → H a = some o) : SqL K H a vs := sqL_le h k
theorem seqM_rep (rl : Rel K mg g H S) (r : Rep K mg g d v) (h : seqM S d = some ds) : ∃ a vs, v = .ref a ∧ H a = some (.lst vs) ∧ RepL K mg g ds vs := by
  cases d with
  | lst es =>
    cases r with
    | lst h1 h2 =>
      have e : es = ds := by simpa [seqM] using h
      subst e
      exact ⟨_, _, rfl, rl.fin _ _ h1, h2⟩
  | ref n =>
    cases r with
    | ref h1 =>
      simp only [seqM] at h
      split at h
      · rename_i es he
        have e : es = ds := by simpa using h
        subst e
        obtain ⟨_, _, vs, h3, h4⟩ := rl.cell n _ _ he h1
        exact ⟨_, vs, rfl, h3, h4⟩
      · cases h
  | _ => simp [seqM] at h
theorem seqOf_rep (rl : Rel K mg g H S) (r : Rep K mg g d v) (h : seqOf S d = some ds) : ∃ a vs, v = .ref a ∧ SqL K H a vs ∧ RepL K mg g ds vs := by
  cases d with
  | rol es =>
    cases r with
    | rol h1 h2 =>
      have e : es = ds := by simpa [seqOf] using h
      subst e
      exact ⟨_, _, rfl, sqL_up h1 rl.fin, h2⟩
  | lst es =>
    obtain ⟨a, vs, e1, e2, e3⟩ := seqM_rep rl r (ds := ds) (by simpa [seqM, seqOf] using h)
    exact ⟨a, vs, e1, SqL.of e2, e3⟩
  | ref n =>
    obtain ⟨a, vs, e1, e2, e3⟩ := seqM_rep rl r (ds := ds) (by simpa [seqM, seqOf] using h)
    exact ⟨a, vs, e1, SqL.of e2, e3⟩
  | _ => simp [seqOf] at h
theorem tup_rep (rl : Rel K mg g H S) (r : Rep K mg g (.tup ds) v) : ∃ a vs, v = .ref a ∧ SqT K H a vs ∧ RepL K mg g ds vs := by
  cases r with
  | tup h1 h2 => exact ⟨_, _, rfl, sqT_le h1 rl.fin, h2⟩
end

/-! ## new lists: nw = true where the list is to be changed later -/
def mkL (nw : Bool) (ds : List D) (S : Sto) : R D := if nw = true then .ok (.ref S.length) (S ++ [.lst ds]) else .ok (.lst ds) S
section
variable {K : PySem.W.Frag} {mg : Str → Option Value} {W : WX} {σ : Sl} {g : G} {H : Hp} {S : Sto} {ds : List D} {vs : List V} {Q : VK}
theorem post_mkL {nw : Bool} (rl : Rel K mg g H S) (r : RepL K mg g ds vs) (h : Post K mg (Rep K mg) W σ g (mkL nw ds S) Q) : ∀ p, H p = none → Q (.ref p) (upd H p (.lst vs)) := by
  intro p hp
  unfold mkL at h
  split at h
  · exact h _ _ _ G.le_cell (rl.newCell hp r) (Rep.newCell rl p)
  · have l : g.le (g.known p (.lst vs)) := G.le_known (rl.fnone hp)
    exact h _ _ _ l (rl.fresh hp _) (.lst upd_same (r.le l))
theorem post_mkT (rl : Rel K mg g H S) (r : RepL K mg g ds vs) (h : Post K mg (Rep K mg) W σ g (.ok (.tup ds) S) Q) : ∀ p, H p = none → Q (.ref p) (upd H p (.tup vs)) := by
  intro p hp
  have l : g.le (g.known p (.tup vs)) := G.le_known (rl.fnone hp)
  exact h _ _ _ l (rl.fresh hp _) (.tup (SqT.of upd_same) (r.le l))
theorem post_ok {x : D} {v : V} (rl : Rel K mg g H S) (r : Rep K mg g x v) (h : Post K mg (Rep K mg) W σ g (.ok x S) Q) : Q v H := h g v H (G.le.refl g) rl r
end

/-! ## arithmetic -/
def padd (nw : Bool) : P2 := fun x y S => match x, y with
  | .int i, .int j => .ok (.int (i + j)) S
  | .str a, .str b => if a.length + b.length ≤ 16777216 then .ok (.str (a ++ b)) S else .no
  | .tup a, .tup b => if a.length + b.length ≤ 16777216 then .ok (.tup (a ++ b)) S else .no
  | x, y => match seqM S x, seqM S y with
    | some a, some b => if a.length + b.length ≤ 16777216 then mkL nw (a ++ b) S else .no
    | _, _ => .no
def psub : P2 := fun x y S => match x, y with
  | .int i, .int j => .ok (.int (i - j)) S
  | _, _ => .no
def pmul (nw : Bool) : P2 := fun x y S => match x, y with
  | .int i, .int j => if (-(2 ^ 64) < i ∧ i < 2 ^ 64) ∨ (-(2 ^ 64) < j ∧ j < 2 ^ 64) then .ok (.int (i * j)) S else .no
  | x, .int k => match seqM S x with
    | some a => if -(2 ^ 63) ≤ k ∧ k < 2 ^ 63 ∧ a.length * k.toNat ≤ 16777216 then mkL nw (List.replicate k.toNat a).flatten S else .no
    | _ => .no
  | _, _ => .no
def pfdiv : P2 := fun x y S => match x, y with
  | .int i, .int j => if 0 < j ∧ j < 1073741824 then .ok (.int (i / j)) S else .no
  | _, _ => .no
def pmod : P2 := fun x y S => match x, y with
  | .int i, .int j => if 0 < j then .ok (.int (i % j)) S else .no
  | _, _ => .no
def ppow : P2 := fun x y S => match x, y with
  | .int i, .int j => if 0 ≤ j ∧ j ≤ 1000000 ∧ i.natAbs < 2 ^ 64 then .ok (.int (i ^ j.toNat)) S else .no
  | _, _ => .no
def pneg : P1 := fun x S => match x with
  | .int i => .ok (.int (-i)) S
  | _ => .no
section
variable {X : Cx} {W : WX}
theorem sizeL : sizeLine = 16777216 := sizeLine_eq
theorem RepL.rep {K : PySem.W.Frag} {mg : Str → Option Value} {g : G} {ds : List D} {vs : List V} (h : RepL K mg g ds vs) : ∀ n : Nat, RepL K mg g (List.replicate n ds).flatten (List.replicate n vs).flatten
  | 0 => .nil
  | n + 1 => by
    rw [List.replicate_succ, List.replicate_succ, List.flatten_cons, List.flatten_cons]
    exact h.append (RepL.rep h n)
theorem o_add (nw : Bool) : OpM X W (binaryOp .Add) (padd nw) := by
  intro g σ H S x y v u Q rl rx ry hP pins s vv uu I rv ru
  have sl := sizeL
  have gen : ∀ a b, seqM S x = some a → seqM S y = some b → Post X.K X.mg (Rep X.K X.mg) W σ g (if a.length + b.length ≤ 16777216 then mkL nw (a ++ b) S else .no) Q → wpAny (model X.prog X.w) X.A (binaryOp .Add vv uu) (EP X pins σ Q) X.xe s := by
    intro a b ha hb hP
    obtain ⟨p, vs, rfl, hp, r1⟩ := seqM_rep rl rx ha
    obtain ⟨q, us, rfl, hq, r2⟩ := seqM_rep rl ry hb
    split at hP
    · rename_i hz
      have e1 := r1.length
      have e2 := r2.length
      exact op_cat pins s σ H _ _ vv uu Q I rv ru ⟨p, q, vs, us, rfl, rfl, hp, hq, by omega, post_mkL rl (r1.append r2) hP⟩
    · exact hP.elim
  unfold padd at hP
  split at hP
  · cases rx; cases ry
    exact op_add pins s σ H _ _ vv uu Q I rv ru ⟨_, _, rfl, rfl, post_ok rl (.int _) hP⟩
  · rename_i a b
    split at hP
    · rename_i hz
      cases rx; cases ry
      exact op_add_str pins s σ H _ _ vv uu Q I rv ru ⟨_, _, rfl, rfl, by omega, post_ok rl (.str _) hP⟩
    · exact hP.elim
  · rename_i a b
    split at hP
    · rename_i hz
      obtain ⟨p, vs, rfl, hp, r1⟩ := tup_rep rl rx
      obtain ⟨q, us, rfl, hq, r2⟩ := tup_rep rl ry
      have e1 := r1.length
      have e2 := r2.length
      refine op_catA pins s σ H _ _ vv uu Q I rv ru ⟨p, q, vs, us, rfl, rfl, hp, hq, by omega, fun e => ?_, fun _ e => ?_, fun _ _ => post_mkT rl (r1.append r2) hP⟩
      · subst e
        cases r1
        rw [List.nil_append] at hP
        exact post_ok rl ry hP
      · subst e
        cases r2
        rw [List.append_nil] at hP
        exact post_ok rl rx hP
    · exact hP.elim
  · split at hP
    · rename_i a b ha hb
      exact gen a b ha hb hP
    · exact hP.elim
theorem o_sub : OpM X W (binaryOp .Sub) psub := by
  intro g σ H S x y v u Q rl rx ry hP pins s vv uu I rv ru
  unfold psub at hP
  split at hP
  · cases rx; cases ry
    exact op_sub pins s σ H _ _ vv uu Q I rv ru ⟨_, _, rfl, rfl, post_ok rl (.int _) hP⟩
  · exact hP.elim
theorem o_mul (nw : Bool) : OpM X W (binaryOp .Mult) (pmul nw) := by
  intro g σ H S x y v u Q rl rx ry hP pins s vv uu I rv ru
  have sl := sizeL
  unfold pmul at hP
  split at hP
  · split at hP
    · rename_i hz
      cases rx; cases ry
      exact op_mul pins s σ H _ _ vv uu Q I rv ru ⟨_, _, rfl, rfl, hz, post_ok rl (.int _) hP⟩
    · exact hP.elim
  · rename_i k _
    split at hP
    · rename_i a ha
      obtain ⟨p, vs, rfl, hp, r1⟩ := seqM_rep rl rx ha
      cases ry
      split at hP
      · rename_i hz
        have e1 := r1.length
        exact op_rep pins s σ H _ _ vv uu Q I rv ru ⟨p, _, vs, rfl, rfl, hp, hz.1, hz.2.1, by rw [← e1, sl]; exact hz.2.2, post_mkL rl (RepL.rep r1 _) hP⟩
      · exact hP.elim
    · exact hP.elim
  · exact hP.elim
theorem o_fdiv : OpM X W (binaryOp .FloorDiv) pfdiv := by
  intro g σ H S x y v u Q rl rx ry hP pins s vv uu I rv ru
  unfold pfdiv at hP
  split at hP
  · split at hP
    · rename_i hz
      cases rx; cases ry
      exact op_fdiv pins s σ H _ _ vv uu Q I rv ru ⟨_, _, rfl, rfl, hz, post_ok rl (.int _) hP⟩
    · exact hP.elim
  · exact hP.elim
theorem o_mod : OpM X W (binaryOp .Mod) pmod := by
  intro g σ H S x y v u Q rl rx ry hP pins s vv uu I rv ru
  unfold pmod at hP
  split at hP
  · split at hP
    · rename_i hz
      cases rx; cases ry
      exact op_mod pins s σ H _ _ vv uu Q I rv ru ⟨_, _, rfl, rfl, hz, post_ok rl (.int _) hP⟩
    · exact hP.elim
  · exact hP.elim
theorem o_pow : OpM X W (binaryOp .Pow) ppow := by
  intro g σ H S x y v u Q rl rx ry hP pins s vv uu I rv ru
  unfold ppow at hP
  split at hP
  · split at hP
    · rename_i hz
      cases rx; cases ry
      exact op_pow pins s σ H _ _ vv uu Q I rv ru ⟨_, _, rfl, rfl, hz, post_ok rl (.int _) hP⟩
    · exact hP.elim
  · exact hP.elim
theorem u_neg : UnM X W (unaryOp .USub) pneg := by
  intro g σ H S x v Q rl rx hP pins s vv I rv
  unfold pneg at hP
  split at hP
  · cases rx
    exact un_neg pins s σ H _ vv Q I rv ⟨_, rfl, post_ok rl (.int _) hP⟩
  · exact hP.elim
end

/-! ## comparisons -/
def pyL (f : D → Option PyData) : List D → Option (List PyData)
  | [] => some []
  | d :: ds => match f d, pyL f ds with
    | some x, some xs => some (x :: xs)
    | _, _ => none
/-- plain data: what == and in look at -/
def py : Nat → Sto → D → Option PyData
  | 0, _, _ => none
  | n + 1, S, d => match d with
    | .non => some .none
    | .bl b => some (.bool b)
    | .int i => some (.int i)
    | .str x => if PyData.strOk x = true then some (.str x) else none
    | .tup ds => match pyL (py n S) ds with
      | some xs => some (.tuple xs)
      | none => none
    | .lst ds => match pyL (py n S) ds with
      | some xs => some (.list xs)
      | none => none
    | .rol ds => match pyL (py n S) ds with
      | some xs => some (.list xs)
      | none => none
    | .ref k => match S[k]? with
      | some (.lst ds) => match pyL (py n S) ds with
        | some xs => some (.list xs)
        | none => none
      | _ => none
    | _ => none
section
variable {K : PySem.W.Frag} {mg : Str → Option Value} {g : G} {H : Hp} {S : Sto}
theorem pyL_dp {f : D → Option PyData} (hf : ∀ d v x, Rep K mg g d v → f d = some x → Dp K H v x) : ∀ (ds : List D) (vs : List V) (xs : List PyData), RepL K mg g ds vs → pyL f ds = some xs → DpAll K H vs xs
  | [], _, xs, h, e => by
    cases h
    have e' : [] = xs := by simpa [pyL] using e
    subst e'
    exact .nil
  | d :: ds, _, xs, h, e => by
    cases h with
    | cons h t =>
      simp only [pyL] at e
      split at e
      · rename_i x ys h1 h2
        have e' : x :: ys = xs := by simpa using e
        subst e'
        exact .cons (hf _ _ _ h h1) (pyL_dp hf ds _ _ t h2)
      · cases e
theorem py_dp (rl : Rel K mg g H S) : ∀ (n : Nat) (d : D) (v : V) (x : PyData), Rep K mg g d v → py n S d = some x → Dp K H v x
  | 0, _, _, _, _, e => by simp [py] at e
  | n + 1, d, v, x, r, e => by
    have ih : ∀ d v x, Rep K mg g d v → py n S d = some x → Dp K H v x := fun d v x => py_dp rl n d v x
    cases d with
    | non => cases r; simp only [py, Option.some.injEq] at e; subst e; exact .non
    | bl b => cases r; simp only [py, Option.some.injEq] at e; subst e; exact .bl _
    | int b => cases r; simp only [py, Option.some.injEq] at e; subst e; exact .int _
    | str b =>
      cases r
      simp only [py] at e
      split at e
      · simp only [Option.some.injEq] at e; subst e; exact .str _
      · cases e
    | tup ds =>
      obtain ⟨a, vs, rfl, h1, h2⟩ := tup_rep rl r
      simp only [py] at e
      split at e
      · rename_i xs hx
        simp only [Option.some.injEq] at e; subst e
        exact .tup h1 (pyL_dp ih ds vs xs h2 hx)
      · cases e
    | lst ds =>
      obtain ⟨a, vs, rfl, h1, h2⟩ := seqOf_rep (ds := ds) rl r rfl
      simp only [py] at e
      split at e
      · rename_i xs hx
        simp only [Option.some.injEq] at e; subst e
        exact .lst h1 (pyL_dp ih ds vs xs h2 hx)
      · cases e
    | rol ds =>
      obtain ⟨a, vs, rfl, h1, h2⟩ := seqOf_rep (ds := ds) rl r rfl
      simp only [py] at e
      split at e
      · rename_i xs hx
        simp only [Option.some.injEq] at e; subst e
        exact .lst h1 (pyL_dp ih ds vs xs h2 hx)
      · cases e
    | ref k =>
      simp only [py] at e
      split at e
      · rename_i ds hk
        obtain ⟨a, vs, rfl, h1, h2⟩ := seqOf_rep (ds := ds) rl r (by simp only [seqOf, hk])
        split at e
        · rename_i xs hx
          simp only [Option.some.injEq] at e; subst e
          exact .lst h1 (pyL_dp ih ds vs xs h2 hx)
        · cases e
      · cases e
    | _ => simp [py] at e
theorem pyL_shape {f : D → Option PyData} {n : Nat} (hf : ∀ d x, f d = some x → x.canLay0 = true ∧ x.depth ≤ n) : ∀ (ds : List D) (xs : List PyData), pyL f ds = some xs → PyData.canLayAll0 xs = true ∧ PyData.depthAll xs ≤ n
  | [], xs, e => by
    have e' : [] = xs := by simpa [pyL] using e
    subst e'
    exact ⟨rfl, by simp [PyData.depthAll]⟩
  | d :: ds, xs, e => by
    simp only [pyL] at e
    split at e
    · rename_i x ys h1 h2
      have e' : x :: ys = xs := by simpa using e
      subst e'
      obtain ⟨a1, a2⟩ := hf _ _ h1
      obtain ⟨b1, b2⟩ := pyL_shape hf ds ys h2
      exact ⟨by simp [PyData.canLayAll0, a1, b1], by simp only [PyData.depthAll]; omega⟩
    · cases e
theorem py_shape : ∀ (n : Nat) (d : D) (x : PyData), py n S d = some x → x.canLay0 = true ∧ x.depth ≤ n
  | 0, _, _, e => by simp [py] at e
  | n + 1, d, x, e => by
    have ih : ∀ d x, py n S d = some x → x.canLay0 = true ∧ x.depth ≤ n := fun d x => py_shape n d x
    cases d with
    | non => simp only [py, Option.some.injEq] at e; subst e; exact ⟨rfl, by simp [PyData.depth]⟩
    | bl b => simp only [py, Option.some.injEq] at e; subst e; exact ⟨rfl, by simp [PyData.depth]⟩
    | int b => simp only [py, Option.some.injEq] at e; subst e; exact ⟨rfl, by simp [PyData.depth]⟩
    | str b =>
      simp only [py] at e
      split at e
      · rename_i hz
        simp only [Option.some.injEq] at e; subst e; exact ⟨by simpa [PyData.canLay0] using hz, by simp [PyData.depth]⟩
      · cases e
    | tup ds =>
      simp only [py] at e
      split at e
      · rename_i xs hx
        simp only [Option.some.injEq] at e; subst e
        obtain ⟨a, b⟩ := pyL_shape ih ds xs hx
        exact ⟨by simpa [PyData.canLay0] using a, by simp only [PyData.depth]; omega⟩
      · cases e
    | lst ds =>
      simp only [py] at e
      split at e
      · rename_i xs hx
        simp only [Option.some.injEq] at e; subst e
        obtain ⟨a, b⟩ := pyL_shape ih ds xs hx
        exact ⟨by simpa [PyData.canLay0] using a, by simp only [PyData.depth]; omega⟩
      · cases e
    | rol ds =>
      simp only [py] at e
      split at e
      · rename_i xs hx
        simp only [Option.some.injEq] at e; subst e
        obtain ⟨a, b⟩ := pyL_shape ih ds xs hx
        exact ⟨by simpa [PyData.canLay0] using a, by simp only [PyData.depth]; omega⟩
      · cases e
    | ref k =>
      simp only [py] at e
      split at e
      · split at e
        · rename_i xs hx
          simp only [Option.some.injEq] at e; subst e
          obtain ⟨a, b⟩ := pyL_shape ih _ xs hx
          exact ⟨by simpa [PyData.canLay0] using a, by simp only [PyData.depth]; omega⟩
        · cases e
      · cases e
    | _ => simp [py] at e
theorem py_shaped {n : Nat} {d : D} {x : PyData} (hn : n ≤ 60) (e : py n S d = some x) : SeqAt.shaped x = true := by
  obtain ⟨a, b⟩ := py_shape n d x e
  unfold SeqAt.shaped
  rw [a, decide_eq_true (by omega)]
  rfl
end
def deep : Nat := 12
def peq : P2 := fun x y S => match x, y with
  | .str a, .str b => .ok (.bl (decide (a = b))) S
  | .int a, .int b => .ok (.bl (decide (a = b))) S
  | x, y => match py deep S x, py deep S y with
    | some a, some b => .ok (.bl (PyData.eqv a b)) S
    | _, _ => .no
def pne : P2 := fun x y S => match x, y with
  | .str a, .str b => .ok (.bl (!decide (a = b))) S
  | .int a, .int b => .ok (.bl (!decide (a = b))) S
  | x, y => match py deep S x, py deep S y with
    | some a, some b => .ok (.bl (!PyData.eqv a b)) S
    | _, _ => .no
def pcmp (f : Int → Int → Bool) : P2 := fun x y S => match x, y with
  | .int i, .int j => .ok (.bl (f i j)) S
  | _, _ => .no
/-- is it in the list, the tuple, the text -/
def isIn (S : Sto) (x y : D) : Option Bool := match y with
  | .str z => match x with
    | .str a => if a.length = 1 then some (decide (a.cps.getD 0 0 ∈ z.cps.toList)) else none
    | _ => none
  | y => match py deep S x, py deep S y with
    | some a, some (.tuple bs) => some (bs.any fun b => PyData.eqv b a)
    | some a, some (.list bs) => some (bs.any fun b => PyData.eqv b a)
    | _, _ => none
def pin : P2 := fun x y S => match isIn S x y with
  | some b => .ok (.bl b) S
  | none => .no
def pnin : P2 := fun x y S => match isIn S x y with
  | some b => .ok (.bl (!b)) S
  | none => .no
def pisN : P1 := fun x S => match x with
  | .non => .ok (.bl true) S
  | _ => .ok (.bl false) S
def pnotN : P1 := fun x S => match x with
  | .non => .ok (.bl false) S
  | _ => .ok (.bl true) S
section
variable {X : Cx} {W : WX}
theorem o_eq (hu : X.A.units + 64 < cLine) : OpM X W (compareOp .Eq) peq := by
  intro g σ H S x y v u Q rl rx ry hP pins s vv uu I rv ru
  unfold peq at hP
  split at hP
  · rename_i a b
    cases rx; cases ry
    refine op_eq pins s σ H _ _ vv uu Q I rv ru ⟨rfl, ?_⟩
    rw [show decide (V.str a = V.str b) = decide (a = b) from dec_str.trans (by rw [Bool.eq_iff_iff]; simp)]
    exact post_ok rl (.bl _) hP
  · rename_i a b
    cases rx; cases ry
    refine op_eq pins s σ H _ _ vv uu Q I rv ru ⟨rfl, ?_⟩
    rw [show decide (V.int a = V.int b) = decide (a = b) from dec_int.trans (by rw [Bool.eq_iff_iff]; simp)]
    exact post_ok rl (.bl _) hP
  · split at hP
    · rename_i a b h1 h2
      exact op_eqD hu pins s σ H _ _ vv uu Q I rv ru ⟨a, b, py_dp rl deep _ _ _ rx h1, py_dp rl deep _ _ _ ry h2, py_shaped (by decide) h1, py_shaped (by decide) h2, post_ok rl (.bl _) hP⟩
    · exact hP.elim
theorem o_ne (hu : X.A.units + 64 < cLine) : OpM X W (compareOp .NotEq) pne := by
  intro g σ H S x y v u Q rl rx ry hP pins s vv uu I rv ru
  unfold pne at hP
  split at hP
  · rename_i a b
    cases rx; cases ry
    refine op_ne pins s σ H _ _ vv uu Q I rv ru ⟨rfl, ?_⟩
    rw [show decide (V.str a = V.str b) = decide (a = b) from dec_str.trans (by rw [Bool.eq_iff_iff]; simp)]
    exact post_ok rl (.bl _) hP
  · rename_i a b
    cases rx; cases ry
    refine op_ne pins s σ H _ _ vv uu Q I rv ru ⟨rfl, ?_⟩
    rw [show decide (V.int a = V.int b) = decide (a = b) from dec_int.trans (by rw [Bool.eq_iff_iff]; simp)]
    exact post_ok rl (.bl _) hP
  · split at hP
    · rename_i a b h1 h2
      exact op_neD hu pins s σ H _ _ vv uu Q I rv ru ⟨a, b, py_dp rl deep _ _ _ rx h1, py_dp rl deep _ _ _ ry h2, py_shaped (by decide) h1, py_shaped (by decide) h2, post_ok rl (.bl _) hP⟩
    · exact hP.elim
theorem o_cmp {op : CmpOp} {f : Int → Int → Bool} (o : OpR X (compareOp op) (rI0 fun i j => .bl (f i j))) : OpM X W (compareOp op) (pcmp f) := by
  intro g σ H S x y v u Q rl rx ry hP pins s vv uu I rv ru
  unfold pcmp at hP
  split at hP
  · cases rx; cases ry
    exact o pins s σ H _ _ vv uu Q I rv ru ⟨_, _, rfl, rfl, post_ok rl (.bl _) hP⟩
  · exact hP.elim
theorem o_lt : OpM X W (compareOp .Lt) (pcmp fun i j => decide (i < j)) := o_cmp op_lt
theorem o_le : OpM X W (compareOp .LtE) (pcmp fun i j => decide (i ≤ j)) := o_cmp op_le
theorem o_gt : OpM X W (compareOp .Gt) (pcmp fun i j => decide (j < i)) := o_cmp op_gt
theorem o_ge : OpM X W (compareOp .GtE) (pcmp fun i j => decide (j ≤ i)) := o_cmp op_ge
theorem one_sign {a : Str} (h : a.length = 1) : a = ⟨#[a.cps.getD 0 0]⟩ := by
  obtain ⟨⟨l⟩⟩ := a
  have e : l.length = 1 := h
  match l, e with
  | [c], _ => rfl
theorem in_data (hu : X.A.units + 65 < cLine) {g : G} {H : Hp} {S : Sto} {x y : D} {v u : V} {a c : PyData} {bs : List PyData} {σ : Sl} {pins : List (Addr × Obj)} {s : Shared} {vv uu : Value} (rl : Rel X.K X.mg g H S) (rx : Rep X.K X.mg g x v) (ry : Rep X.K X.mg g y u) (I : Inv X pins σ H s)
    (rv : RelV v vv) (ru : RelV u uu) {Q : Value → Shared → Prop} {E : Value → Shared → Prop} (hc : c = .tuple bs ∨ c = .list bs) (h1 : py deep S x = some a) (h2 : py deep S y = some c) :
    (Q (.bool (bs.any fun z => PyData.eqv z a)) s → wpAny (model X.prog X.w) X.A (compareOp .In vv uu) Q E s) ∧ (Q (.bool (!(bs.any fun z => PyData.eqv z a))) s → wpAny (model X.prog X.w) X.A (compareOp .NotIn vv uu) Q E s) := by
  obtain ⟨as, r1⟩ := Dp.reads I a v vv (py_dp rl deep _ _ _ rx h1) rv
  obtain ⟨cs, r2⟩ := Dp.reads I c u uu (py_dp rl deep _ _ _ ry h2) ru
  have s1 : SeqAt.shaped a = true := py_shaped (by decide) h1
  have s2 : SeqAt.shaped c = true := py_shaped (by decide) h2
  rcases hc with rfl | rfl
  · exact ⟨fun q => SeqAt.in_tuple_reads r2 r1 (SeqAt.canLay_of_shaped s2) (SeqAt.canLay_of_shaped s1) (room_in_shaped s1 hu) q, fun q => SeqAt.notIn_tuple_reads r2 r1 (SeqAt.canLay_of_shaped s2) (SeqAt.canLay_of_shaped s1) (room_in_shaped s1 hu) q⟩
  · exact ⟨fun q => SeqAt.in_list_reads r2 r1 (SeqAt.canLay_of_shaped s2) (SeqAt.canLay_of_shaped s1) (room_in_shaped s1 hu) q, fun q => SeqAt.notIn_list_reads r2 r1 (SeqAt.canLay_of_shaped s2) (SeqAt.canLay_of_shaped s1) (room_in_shaped s1 hu) q⟩
theorem o_in (hu : X.A.units + 65 < cLine) : OpM X W (compareOp .In) pin := by
  intro g σ H S x y v u Q rl rx ry hP pins s vv uu I rv ru
  unfold pin at hP
  cases e : isIn S x y with
  | none => rw [e] at hP; exact hP.elim
  | some b =>
    rw [e] at hP
    have q : Q (.bl b) H := post_ok rl (.bl b) hP
    unfold isIn at e
    split at e
    · rename_i z
      split at e
      · rename_i a
        split at e
        · rename_i ha
          simp only [Option.some.injEq] at e
          subst e
          cases rx; cases ry
          rw [one_sign ha] at rv
          exact op_in_sign pins s σ H _ _ vv uu Q I rv ru ⟨_, _, rfl, rfl, q⟩
        · cases e
      · cases e
    · split at e
      · rename_i a bs h1 h2
        simp only [Option.some.injEq] at e
        exact (in_data hu rl rx ry I rv ru (.inl rfl) h1 h2).1 ⟨.bl b, H, I, congrArg Value.bool e, q⟩
      · rename_i a bs h1 h2
        simp only [Option.some.injEq] at e
        exact (in_data hu rl rx ry I rv ru (.inr rfl) h1 h2).1 ⟨.bl b, H, I, congrArg Value.bool e, q⟩
      · cases e
theorem o_nin (hu : X.A.units + 65 < cLine) : OpM X W (compareOp .NotIn) pnin := by
  intro g σ H S x y v u Q rl rx ry hP pins s vv uu I rv ru
  unfold pnin at hP
  cases e : isIn S x y with
  | none => rw [e] at hP; exact hP.elim
  | some b =>
    rw [e] at hP
    have q : Q (.bl (!b)) H := post_ok rl (.bl _) hP
    unfold isIn at e
    split at e
    · rename_i z
      split at e
      · rename_i a
        split at e
        · rename_i ha
          simp only [Option.some.injEq] at e
          subst e
          cases rx; cases ry
          rw [one_sign ha] at rv
          exact op_notIn_sign pins s σ H _ _ vv uu Q I rv ru ⟨_, _, rfl, rfl, q⟩
        · cases e
      · cases e
    · split at e
      · rename_i a bs h1 h2
        simp only [Option.some.injEq] at e
        exact (in_data hu rl rx ry I rv ru (.inl rfl) h1 h2).2 ⟨.bl (!b), H, I, congrArg (fun z => Value.bool (!z)) e, q⟩
      · rename_i a bs h1 h2
        simp only [Option.some.injEq] at e
        exact (in_data hu rl rx ry I rv ru (.inr rfl) h1 h2).2 ⟨.bl (!b), H, I, congrArg (fun z => Value.bool (!z)) e, q⟩
      · cases e
/-- is None -/
theorem em_isN {a : Expr} {ma : M D} {j : Nat} {p1 pos : Pos} (ha : EM X W a ma) : EM X W (.Compare a [.Is] [.Constant .none j p1] pos) (m1 pisN ma) := by
  intro g σ H ev S Q rl er hP
  refine wE (pe_cmp (pc_isN (peW X a)) (nomark _)) (ha g σ H ev S _ rl er (Post.bind hP fun g1 x S1 v H1 l1 rl1 rx hP1 => ?_))
  cases rx <;> exact post_ok rl1 (.bl _) hP1
theorem em_notN {a : Expr} {ma : M D} {j : Nat} {p1 pos : Pos} (ha : EM X W a ma) : EM X W (.Compare a [.IsNot] [.Constant .none j p1] pos) (m1 pnotN ma) := by
  intro g σ H ev S Q rl er hP
  refine wE (pe_cmp (pc_notN (peW X a)) (nomark _)) (ha g σ H ev S _ rl er (Post.bind hP fun g1 x S1 v H1 l1 rl1 rx hP1 => ?_))
  cases rx <;> exact post_ok rl1 (.bl _) hP1
theorem tm_isN {a : Expr} {ma : M D} {j : Nat} {p1 pos : Pos} (ha : EM X W a ma) : TM X W (.Compare a [.Is] [.Constant .none j p1] pos) (mT (m1 pisN ma)) := by
  intro g σ H ev S Q rl er hP
  refine wT (pt_cmp (pc_isN (peW X a)) (nomark _)) (ha g σ H ev S _ rl er (Post.bind (Post.bind (Rp := Rep X.K X.mg) (Q := fun v H' => ∃ k, v = .bl k ∧ Q k H') hP fun g1 x S1 v H1 l1 rl1 rx hP1 => post_asB rl1 rx hP1) fun g1 x S1 v H1 l1 rl1 rx hP1 => ?_))
  cases rx <;> exact post_ok rl1 (.bl _) hP1
theorem tm_notN {a : Expr} {ma : M D} {j : Nat} {p1 pos : Pos} (ha : EM X W a ma) : TM X W (.Compare a [.IsNot] [.Constant .none j p1] pos) (mT (m1 pnotN ma)) := by
  intro g σ H ev S Q rl er hP
  refine wT (pt_cmp (pc_notN (peW X a)) (nomark _)) (ha g σ H ev S _ rl er (Post.bind (Post.bind (Rp := Rep X.K X.mg) (Q := fun v H' => ∃ k, v = .bl k ∧ Q k H') hP fun g1 x S1 v H1 l1 rl1 rx hP1 => post_asB rl1 rx hP1) fun g1 x S1 v H1 l1 rl1 rx hP1 => ?_))
  cases rx <;> exact post_ok rl1 (.bl _) hP1
end
end ML


set_option Elab.async false
set_option linter.all false
set_option maxRecDepth 100000
set_option autoImplicit false
set_option maxHeartbeats 4000000
namespace ML
open PySem PySem.Spec PyProof.Rows L2

/-! ## and, or, not, if -/
def mAnd (ma mb : M D) : M D := fun ev S => (ma ev S).bind fun x S1 => match x with
  | .bl true => mb ev S1
  | .bl false => .ok (.bl false) S1
  | _ => .no
def mOr (ma mb : M D) : M D := fun ev S => (ma ev S).bind fun x S1 => match x with
  | .bl true => .ok (.bl true) S1
  | .bl false => mb ev S1
  | _ => .no
def pnot : P1 := fun x S => match x with
  | .bl b => .ok (.bl (!b)) S
  | _ => .no
def tAndM (ma mb : M Bool) : M Bool := fun ev S => (ma ev S).bind fun b S1 => if b = true then mb ev S1 else .ok false S1
def tOrM (ma mb : M Bool) : M Bool := fun ev S => (ma ev S).bind fun b S1 => if b = true then .ok true S1 else mb ev S1
def tNotM (ma : M Bool) : M Bool := fun ev S => (ma ev S).bind fun b S1 => .ok (!b) S1
def mIf {α : Type} (mt : M Bool) (ma mb : M α) : M α := fun ev S => (mt ev S).bind fun b S1 => if b = true then ma ev S1 else mb ev S1
/-- truth of a value -/
def asTr : D → Sto → R Bool := fun d S => match d with
  | .bl b => .ok b S
  | .non => .ok false S
  | .int i => .ok (i != 0) S
  | .str x => if x.length ≤ 16777216 then .ok ((x.length : Int) != 0) S else .no
  | .tup ds => .ok (!ds.isEmpty) S
  | d => match seqOf S d with
    | some ds => .ok (!ds.isEmpty) S
    | none => .no
def mTr (ma : M D) : M Bool := fun ev S => (ma ev S).bind asTr
section
variable {X : Cx} {W : WX} {e a b c : Expr} {es rest : List Expr} {pos : Pos} {ma mb mc : M D} {ml : M (List D)} {mt mu : M Bool}
theorem em_one {op : BoolOp} (ha : EM X W a ma) : EM X W (.BoolOp op [a] pos) ma := fun g σ H ev S Q rl er hP => wE (pe_one (peW X a)) (ha g σ H ev S Q rl er hP)
theorem em_and (ha : EM X W a ma) (hb : EM X W (.BoolOp .And (b :: rest) pos) mb) : EM X W (.BoolOp .And (a :: b :: rest) pos) (mAnd ma mb) := by
  intro g σ H ev S Q rl er hP
  refine wE (pe_and (peW X a) (peW X _)) (ha g σ H ev S _ rl er (Post.bind hP fun g1 x S1 v H1 l1 rl1 rx hP1 => ?_))
  split at hP1
  · cases rx; exact ⟨true, rfl, by rw [if_pos rfl]; exact hb g1 σ H1 ev S1 Q rl1 (er.le l1) hP1⟩
  · cases rx; exact ⟨false, rfl, by rw [if_neg Bool.false_ne_true]; exact post_ok rl1 (.bl _) hP1⟩
  · exact hP1.elim
theorem em_or (ha : EM X W a ma) (hb : EM X W (.BoolOp .Or (b :: rest) pos) mb) : EM X W (.BoolOp .Or (a :: b :: rest) pos) (mOr ma mb) := by
  intro g σ H ev S Q rl er hP
  refine wE (pe_or (peW X a) (peW X _)) (ha g σ H ev S _ rl er (Post.bind hP fun g1 x S1 v H1 l1 rl1 rx hP1 => ?_))
  split at hP1
  · cases rx; exact ⟨true, rfl, by rw [if_pos rfl]; exact post_ok rl1 (.bl _) hP1⟩
  · cases rx; exact ⟨false, rfl, by rw [if_neg Bool.false_ne_true]; exact hb g1 σ H1 ev S1 Q rl1 (er.le l1) hP1⟩
  · exact hP1.elim
theorem em_not (ha : EM X W a ma) : EM X W (.UnaryOp .Not a pos) (m1 pnot ma) := by
  intro g σ H ev S Q rl er hP
  refine wE (pe_not (peW X a)) (ha g σ H ev S _ rl er (Post.bind hP fun g1 x S1 v H1 l1 rl1 rx hP1 => ?_))
  unfold pnot at hP1
  split at hP1
  · cases rx; exact ⟨_, rfl, post_ok rl1 (.bl _) hP1⟩
  · exact hP1.elim
theorem em_if {c : Expr} (hc : TM X W c mt) (ha : EM X W a ma) (hb : EM X W b mb) : EM X W (.IfExp c a b pos) (mIf mt ma mb) := by
  intro g σ H ev S Q rl er hP
  refine wE (pe_ifExp (ptW X c) (peW X a) (peW X b)) (hc g σ H ev S _ rl er (Post.bind hP fun g1 x S1 v H1 l1 rl1 rx hP1 => ?_))
  have rx' : x = v := rx
  subst rx'
  cases x with
  | true => rw [if_pos rfl] at hP1 ⊢; exact ha g1 σ H1 ev S1 Q rl1 (er.le l1) hP1
  | false => rw [if_neg Bool.false_ne_true] at hP1 ⊢; exact hb g1 σ H1 ev S1 Q rl1 (er.le l1) hP1
theorem post_b {g : G} {σ : Sl} {x : Bool} {S : Sto} {H : Hp} {Q : Bool → Hp → Prop} (rl : Rel X.K X.mg g H S) (h : Post X.K X.mg RB W σ g (.ok x S) Q) : Q x H := h g x H (G.le.refl g) rl rfl
theorem tm_not (ha : TM X W a mt) : TM X W (.UnaryOp .Not a pos) (tNotM mt) := by
  intro g σ H ev S Q rl er hP
  refine wT (pt_not (ptW X a)) (ha g σ H ev S _ rl er (Post.bind hP fun g1 x S1 v H1 l1 rl1 rx hP1 => ?_))
  have rx' : x = v := rx
  subst rx'
  exact post_b rl1 hP1
theorem wm_and1 (ha : TM X W a mt) : WM X W (.BoolOp .And [a] pos) mt := fun g σ H ev S Q rl er hP => wW (pw_and1 (ptW X a)) (ha g σ H ev S Q rl er hP)
theorem wm_or1 (ha : TM X W a mt) : WM X W (.BoolOp .Or [a] pos) mt := fun g σ H ev S Q rl er hP => wW (pw_or1 (ptW X a)) (ha g σ H ev S Q rl er hP)
theorem wm_and (ha : TM X W a mt) (hb : WM X W (.BoolOp .And (b :: rest) pos) mu) : WM X W (.BoolOp .And (a :: b :: rest) pos) (tAndM mt mu) := by
  intro g σ H ev S Q rl er hP
  refine wW (pw_and (ptW X a) (pwW X _)) (ha g σ H ev S _ rl er (Post.bind hP fun g1 x S1 v H1 l1 rl1 rx hP1 => ?_))
  have rx' : x = v := rx
  subst rx'
  cases x with
  | true => rw [if_pos rfl] at hP1 ⊢; exact hb g1 σ H1 ev S1 Q rl1 (er.le l1) hP1
  | false => rw [if_neg Bool.false_ne_true] at hP1 ⊢; exact post_b rl1 hP1
theorem wm_or (ha : TM X W a mt) (hb : WM X W (.BoolOp .Or (b :: rest) pos) mu) : WM X W (.BoolOp .Or (a :: b :: rest) pos) (tOrM mt mu) := by
  intro g σ H ev S Q rl er hP
  refine wW (pw_or (ptW X a) (pwW X _)) (ha g σ H ev S _ rl er (Post.bind hP fun g1 x S1 v H1 l1 rl1 rx hP1 => ?_))
  have rx' : x = v := rx
  subst rx'
  cases x with
  | true => rw [if_pos rfl] at hP1 ⊢; exact post_b rl1 hP1
  | false => rw [if_neg Bool.false_ne_true] at hP1 ⊢; exact hb g1 σ H1 ev S1 Q rl1 (er.le l1) hP1
theorem tm_w (h : WM X W e mt) : TM X W e mt := fun g σ H ev S Q rl er hP => (h g σ H ev S Q rl er hP).wt
/-- any other expression as a test: by its truth -/
theorem tm_val (ha : EM X W a ma) (he : ∀ whole, isTrue a X.env whole = (do let v ← whole; standAt a.pos; holding [v] (truthy v)) := by intro _; rfl) : TM X W a (mTr ma) := by
  intro g σ H ev S Q rl er hP
  have sl := sizeL
  refine wT (pt_truth (peW X a) he) (ha g σ H ev S _ rl er (Post.bind hP fun g1 x S1 v H1 l1 rl1 rx hP1 => ?_))
  have lst : ∀ ds, seqOf S1 x = some ds → Post X.K X.mg RB W σ g1 (.ok (!ds.isEmpty) S1) Q → ∃ k, TruV X.K v H1 k ∧ Q k H1 := by
    intro ds h hq
    obtain ⟨p, vs, rfl, hp, r1⟩ := seqOf_rep rl1 rx h
    refine ⟨!vs.isEmpty, .inl ⟨vs, hp, rfl⟩, ?_⟩
    have e : vs.isEmpty = ds.isEmpty := by cases r1 <;> rfl
    rw [e]
    exact post_b rl1 hq
  unfold asTr at hP1
  split at hP1
  · cases rx; exact ⟨_, rfl, post_b rl1 hP1⟩
  · cases rx; exact ⟨_, rfl, post_b rl1 hP1⟩
  · cases rx; exact ⟨_, rfl, post_b rl1 hP1⟩
  · cases rx
    split at hP1
    · rename_i hz
      exact ⟨_, ⟨by omega, rfl⟩, post_b rl1 hP1⟩
    · exact hP1.elim
  · rename_i ds
    obtain ⟨p, vs, rfl, hp, r1⟩ := tup_rep rl1 rx
    refine ⟨!vs.isEmpty, .inr (.inl ⟨vs, hp, rfl⟩), ?_⟩
    have e : vs.isEmpty = ds.isEmpty := by cases r1 <;> rfl
    rw [e]
    exact post_b rl1 hP1
  · split at hP1
    · rename_i ds h
      exact lst ds h hP1
    · exact hP1.elim

/-! ## argument lists, displays -/
def mNil : M (List D) := fun _ S => .ok [] S
def mCons (ma : M D) (ml : M (List D)) : M (List D) := fun ev S => (ma ev S).bind fun x S1 => (ml ev S1).bind fun xs S2 => .ok (x :: xs) S2
theorem am_nil : AM X W [] mNil := fun g σ H ev S Q rl er hP => wA pa_nil (hP g [] H (G.le.refl g) rl .nil)
theorem am_cons (ha : EM X W e ma) (hr : AM X W es ml) (hs : starEach (e :: es) X.env = (false, eval e X.env) :: starEach es X.env := by exact star1 rfl) : AM X W (e :: es) (mCons ma ml) := by
  intro g σ H ev S Q rl er hP
  refine wA (pa_cons (peW X e) (paW X es) hs) (ha g σ H ev S _ rl er (Post.bind hP fun g1 x S1 v H1 l1 rl1 rx hP1 => ?_))
  refine hr g1 σ H1 ev S1 _ rl1 (er.le l1) (Post.bind hP1 fun g2 xs S2 vs H2 l2 rl2 rxs hP2 => ?_)
  exact hP2 g2 (v :: vs) H2 (G.le.refl g2) rl2 (.cons (rx.le l2) rxs)
def ptup : List D → Sto → R D := fun xs S => if xs.length ≤ 16777216 then .ok (.tup xs) S else .no
def plst (nw : Bool) : List D → Sto → R D := fun xs S => if xs.length ≤ 16777216 then mkL nw xs S else .no
def mL (p : List D → Sto → R D) (ml : M (List D)) : M D := fun ev S => (ml ev S).bind p
theorem em_tup {k : Nat} (h : AM X W es ml) : EM X W (.Tuple es k pos) (mL ptup ml) := by
  intro g σ H ev S Q rl er hP
  have sl := sizeL
  refine wE (pe_tup (paW X es)) (h g σ H ev S _ rl er (Post.bind hP fun g1 xs S1 vs H1 l1 rl1 rx hP1 => ?_))
  unfold ptup at hP1
  split at hP1
  · rename_i hz
    exact ⟨by rw [← rx.length]; omega, post_mkT rl1 rx hP1⟩
  · exact hP1.elim
theorem em_lst (nw : Bool) (h : AM X W es ml) : EM X W (.List es pos) (mL (plst nw) ml) := by
  intro g σ H ev S Q rl er hP
  have sl := sizeL
  refine wE (pe_lst (paW X es)) (h g σ H ev S _ rl er (Post.bind hP fun g1 xs S1 vs H1 l1 rl1 rx hP1 => ?_))
  unfold plst at hP1
  split at hP1
  · rename_i hz
    exact ⟨by rw [← rx.length]; omega, post_mkL rl1 rx hP1⟩
  · exact hP1.elim
theorem em_dc0 : EM X W (.Dict [] [] pos) (mC .dc0) := by
  intro g σ H ev S Q rl er hP
  refine wE pe_dnewK fun p hp => ?_
  have l : g.le (g.known p (.dK [])) := G.le_known (rl.fnone hp)
  exact hP _ _ _ l (rl.fresh hp _) (.dc0 upd_same)

/-! ## subscripts, slices -/
def atD (ds : List D) (i : Int) : Option D := (ixN ds.length i).bind fun j => ds[j]?
def pix : P2 := fun x y S => match y with
  | .int i => match x with
    | .tup ds => match atD ds i with
      | some d => .ok d S
      | none => .no
    | .str z => if z.length ≤ 16777216 then (match atI z.cps.toList i with
      | some c => .ok (.str ⟨#[c]⟩) S
      | none => .no) else .no
    | x => match seqOf S x with
      | some ds => (match atD ds i with
        | some d => .ok d S
        | none => .no)
      | none => .no
  | _ => .no
theorem atD_rep {K : PySem.W.Frag} {mg : Str → Option Value} {g : G} {ds : List D} {vs : List V} {i : Int} {d : D} (r : RepL K mg g ds vs) (h : atD ds i = some d) : ∃ v, atI vs i = some v ∧ Rep K mg g d v := by
  unfold atD at h
  rw [r.length] at h
  cases e : ixN vs.length i with
  | none => rw [e] at h; cases h
  | some j =>
    rw [e] at h
    obtain ⟨v, h1, h2⟩ := r.get h
    exact ⟨v, by unfold atI; rw [e]; exact h1, h2⟩
theorem em_ix (ha : EM X W a ma) (hb : EM X W b mb) (hs : PlainIx b := by exact fun _ _ => rfl) : EM X W (.Subscript a b pos) (m2 pix ma mb) := by
  intro g σ H ev S Q rl er hP
  have sl := sizeL
  refine wE (pe_ix ix_seq (peW X a) (peW X b) hs) ?_
  refine twoM ha hb rl er hP fun g' x y S' v u H' l rl' rx ry hP' => ?_
  unfold pix at hP'
  split at hP'
  · rename_i i
    cases ry
    split at hP'
    · rename_i ds
      obtain ⟨p, vs, rfl, hp, r1⟩ := tup_rep rl' rx
      split at hP'
      · rename_i d hd
        obtain ⟨w, h1, h2⟩ := atD_rep r1 hd
        exact .inr (.inl ⟨p, vs, i, w, rfl, rfl, hp, h1, post_ok rl' h2 hP'⟩)
      · exact hP'.elim
    · rename_i z
      cases rx
      split at hP'
      · rename_i hz
        split at hP'
        · rename_i c hc
          exact .inr (.inr ⟨z, i, c, rfl, rfl, by omega, hc, post_ok rl' (.str _) hP'⟩)
        · exact hP'.elim
      · exact hP'.elim
    · split at hP'
      · rename_i ds hds
        obtain ⟨p, vs, rfl, hp, r1⟩ := seqOf_rep rl' rx hds
        split at hP'
        · rename_i d hd
          obtain ⟨w, h1, h2⟩ := atD_rep r1 hd
          exact .inl ⟨p, vs, i, w, rfl, rfl, hp, h1, post_ok rl' h2 hP'⟩
        · exact hP'.elim
      · exact hP'.elim
  · exact hP'.elim
/-- a part of a slice -/
def OM (X : Cx) (W : WX) (e : Option Expr) (m : M (Option Int)) : Prop := ∀ (g : G) (σ : Sl) (H : Hp) (ev : Ev) (S : Sto) (Q : Option Int → Hp → Prop), Rel X.K X.mg g H S → EvR X.K X.mg X.pn g ev σ → Post X.K X.mg (fun _ a b => a = b) W σ g (m ev S) Q →
  ∀ (pins : List (Addr × Obj)) (s : Shared), Inv X pins σ H s → wpAny (model X.prog X.w) X.A (evalPart e X.env) (fun u s' => ∃ o H', Inv X pins σ H' s' ∧ IsPart u o ∧ Q o H') X.xe s
def oNone : M (Option Int) := fun _ S => .ok none S
def asI : D → Sto → R (Option Int) := fun d S => match d with
  | .int i => .ok (some i) S
  | _ => .no
def oSome (ma : M D) : M (Option Int) := fun ev S => (ma ev S).bind asI
theorem om_none : OM X W none oNone := fun g σ H ev S Q rl er hP pins s I => po_none.run pins s σ H Q I (hP g none H (G.le.refl g) rl rfl)
theorem om_some (ha : EM X W a ma) : OM X W (some a) (oSome ma) := by
  intro g σ H ev S Q rl er hP pins s I
  refine (po_some (peW X a)).run pins s σ H Q I (ha g σ H ev S _ rl er (Post.bind hP fun g1 x S1 v H1 l1 rl1 rx hP1 => ?_))
  unfold asI at hP1
  split at hP1
  · cases rx; exact ⟨_, rfl, hP1 g1 _ H1 (G.le.refl g1) rl1 rfl⟩
  · exact hP1.elim
def cutD {α : Type} (xs : List α) (lo hi : Option Int) : List α := (xs.drop (HT.sIx xs.length 0 lo)).take (HT.sIx xs.length xs.length hi - HT.sIx xs.length 0 lo)
def pslice (nw : Bool) (x : D) (lo hi : Option Int) (S : Sto) : R D := match x with
  | .str z => if z.length ≤ 16777216 then .ok (.str (cutS z lo hi)) S else .no
  | .tup ds => .ok (.tup (cutD ds lo hi)) S
  | x => match seqOf S x with
    | some ds => mkL nw (cutD ds lo hi) S
    | none => .no
def mSl (nw : Bool) (ma : M D) (ol oh : M (Option Int)) : M D := fun ev S => (ma ev S).bind fun x S1 => (ol ev S1).bind fun lo S2 => (oh ev S2).bind fun hi S3 => pslice nw x lo hi S3
theorem cutD_rep {K : PySem.W.Frag} {mg : Str → Option Value} {g : G} {ds : List D} {vs : List V} (r : RepL K mg g ds vs) (lo hi : Option Int) : RepL K mg g (cutD ds lo hi) (cutV vs lo hi) := by
  unfold cutD cutV
  rw [r.length]
  exact (r.drop _).take _
theorem cutD_all {α : Type} {ds : List α} {lo hi : Option Int} (h1 : HT.sIx ds.length 0 lo = 0) (h2 : HT.sIx ds.length ds.length hi = ds.length) : cutD ds lo hi = ds := by
  unfold cutD
  rw [h1, h2, List.drop_zero, Nat.sub_zero, List.take_length]
theorem em_slice (nw : Bool) {lo hi : Option Expr} {p2 : Pos} {ol oh : M (Option Int)} (ha : EM X W a ma) (hl : OM X W lo ol) (hh : OM X W hi oh) : EM X W (.Subscript a (.Slice lo hi none p2) pos) (mSl nw ma ol oh) := by
  intro g σ H ev S Q rl er hP
  have sl := sizeL
  have po : ∀ o, PO X o (fun σ H Q => ∀ (pins : List (Addr × Obj)) (s : Shared), Inv X pins σ H s → wpAny (model X.prog X.w) X.A (evalPart o X.env) (fun u s' => ∃ o H', Inv X pins σ H' s' ∧ IsPart u o ∧ Q o H') X.xe s) := fun o => ⟨fun pins s σ H Q I h => h pins s I⟩
  refine wE (pe_slice ((sl_str.or sl_tupA).or sl_list) (peW X a) (po lo) (po hi)) ?_
  refine ha g σ H ev S _ rl er (Post.bind hP fun g1 x S1 v H1 l1 rl1 rx hP1 => ?_)
  refine hl g1 σ H1 ev S1 _ rl1 (er.le l1) (Post.bind hP1 fun g2 lo' S2 lo2 H2 l2 rl2 ro hP2 => ?_)
  have ro' : lo' = lo2 := ro
  subst ro'
  refine hh g2 σ H2 ev S2 _ rl2 (er.le (l1.trans l2)) (Post.bind hP2 fun g3 hi' S3 hi2 H3 l3 rl3 rh hP3 => ?_)
  have rh' : hi' = hi2 := rh
  subst rh'
  have rx3 := rx.le (l2.trans l3)
  unfold pslice at hP3
  split at hP3
  · cases rx
    split at hP3
    · rename_i hz
      exact .inl (.inl ⟨_, rfl, by omega, post_ok rl3 (.str _) hP3⟩)
    · exact hP3.elim
  · rename_i ds
    obtain ⟨p, vs, rfl, hp, r1⟩ := tup_rep rl3 rx3
    refine .inl (.inr ⟨p, vs, rfl, hp, fun h => ?_, fun _ => post_mkT rl3 (cutD_rep r1 _ _) hP3⟩)
    rw [← r1.length] at h
    rw [cutD_all h.1 h.2] at hP3
    exact post_ok rl3 rx3 hP3
  · split at hP3
    · rename_i ds hds
      obtain ⟨p, vs, rfl, hp, r1⟩ := seqOf_rep rl3 rx3 hds
      exact .inr ⟨p, vs, rfl, hp, post_mkL rl3 (cutD_rep r1 _ _) hP3⟩
    · exact hP3.elim
end
end ML


set_option Elab.async false
set_option linter.all false
set_option maxRecDepth 100000
set_option autoImplicit false
set_option maxHeartbeats 4000000
namespace ML
open PySem PySem.Spec PyProof.Rows L2

/-! ## calls of built-ins -/
abbrev PL := List D → Sto → R D
def rM (X : Cx) (p : PL) : List V → Hp → VK → Prop := fun vs H Q => ∃ (g : G) (S : Sto) (xs : List D) (W : WX) (σ : Sl), Rel X.K X.mg g H S ∧ RepL X.K X.mg g xs vs ∧ Post X.K X.mg (Rep X.K X.mg) W σ g (p xs S) Q
theorem callR_imp {X : Cx} {f : Value} {r r' : List V → Hp → VK → Prop} (h : CallR X f r) (k : ∀ xs H Q, r' xs H Q → r xs H Q) : CallR X f r' := fun pins s σ H xs us Q I rv q => h pins s σ H xs us Q I rv (k _ _ _ q)
section
variable {X : Cx} {W : WX} {e a b c : Expr} {es rest : List Expr} {pos p0 : Pos} {ma mb mc : M D} {ml : M (List D)} {mt mu : M Bool} {x : Str} {id T : String} {p : PL}
theorem em_callB (hc : CallR X (.builtin id) (rM X p)) (hm : X.mg x = none) (hv : bootBuiltins x = some (.builtin id)) (ha : AM X W (e :: es) ml) (hg : Gl X x := by rfl) (hn : x ≠ "__name__" := by decide) (hdb : (x == ("__debug__" : Str)) = false := by decide)
    (he : starEach (e :: es) X.env = (false, eval e X.env) :: starEach es X.env := by exact star1 rfl) (hpl : (backTo pos (starEach es X.env)).any (·.1) = false := by exact starP rfl) : EM X W (.Call (.Name x p0) (e :: es) [] pos) (mL p ml) := by
  intro g σ H ev S Q rl er hP
  refine wE (pe_callB hc hg hm hv (paW X _) hn hdb he hpl) (ha g σ H ev S _ rl er (Post.bind hP fun g1 xs S1 vs H1 l1 rl1 rx hP1 => ?_))
  exact ⟨g1, S1, xs, W, σ, rl1, rx, hP1⟩
theorem em_callTy (hc : CallR X (.type T) (rM X p)) (hm : X.mg x = none) (hv : bootBuiltins x = some (.type T)) (ha : AM X W (e :: es) ml) (hg : Gl X x := by rfl) (hn : x ≠ "__name__" := by decide) (hdb : (x == ("__debug__" : Str)) = false := by decide)
    (he : starEach (e :: es) X.env = (false, eval e X.env) :: starEach es X.env := by exact star1 rfl) (hpl : (backTo pos (starEach es X.env)).any (·.1) = false := by exact starP rfl) : EM X W (.Call (.Name x p0) (e :: es) [] pos) (mL p ml) := by
  intro g σ H ev S Q rl er hP
  refine wE (pe_callTy hc hg hm hv (paW X _) hn hdb he hpl) (ha g σ H ev S _ rl er (Post.bind hP fun g1 xs S1 vs H1 l1 rl1 rx hP1 => ?_))
  exact ⟨g1, S1, xs, W, σ, rl1, rx, hP1⟩

def plen : PL := fun xs S => match xs with
  | [.str z] => if z.length ≤ 16777216 then .ok (.int z.length) S else .no
  | [.tup ds] => .ok (.int ds.length) S
  | [x] => match seqOf S x with
    | some ds => .ok (.int ds.length) S
    | none => .no
  | _ => .no
def pabs : PL := fun xs S => match xs with
  | [.int i] => .ok (.int (if i < 0 then -i else i)) S
  | _ => .no
def pmax2 : PL := fun xs S => match xs with
  | [.int i, .int j] => .ok (.int (if j > i then j else i)) S
  | _ => .no
def pmin2 : PL := fun xs S => match xs with
  | [.int i, .int j] => .ok (.int (if j < i then j else i)) S
  | _ => .no
def pint : PL := fun xs S => match xs with
  | [.int i] => .ok (.int i) S
  | [.bl k] => .ok (.int (if k then 1 else 0)) S
  | [.str z] => match intText? z with
    | some n => if z.length ≤ 640 then .ok (.int n) S else .no
    | none => .no
  | _ => .no
def pstr : PL := fun xs S => match xs with
  | [.int i] => if i.natAbs.log2 < 1920 then .ok (.str (toString i)) S else .no
  | _ => .no
def asBs : List D → Option (List Bool)
  | [] => some []
  | .bl b :: r => (asBs r).map (b :: ·)
  | _ => none
def asIs : List D → Option (List Int)
  | [] => some []
  | .int b :: r => (asIs r).map (b :: ·)
  | _ => none
def asSs : List D → Option (List Str)
  | [] => some []
  | .str b :: r => (asSs r).map (b :: ·)
  | _ => none
def pall : PL := fun xs S => match xs with
  | [x] => match (seqOf S x).bind asBs with
    | some bs => .ok (.bl (bs.all fun b => b)) S
    | none => .no
  | _ => .no
def pany : PL := fun xs S => match xs with
  | [x] => match (seqOf S x).bind asBs with
    | some bs => .ok (.bl (bs.any fun b => b)) S
    | none => .no
  | _ => .no
def psum : PL := fun xs S => match xs with
  | [x] => match (seqOf S x).bind asIs with
    | some bs => .ok (.int bs.sum) S
    | none => .no
  | _ => .no
def ptuple : PL := fun xs S => match xs with
  | [.tup ds] => .ok (.tup ds) S
  | [x] => match seqOf S x with
    | some ds => .ok (.tup ds) S
    | none => .no
  | _ => .no
def plist (nw : Bool) : PL := fun xs S => match xs with
  | [.tup ds] => mkL nw ds S
  | [x] => match seqOf S x with
    | some ds => mkL nw ds S
    | none => .no
  | _ => .no
section
variable {K : PySem.W.Frag} {mg : Str → Option Value} {g : G}
theorem rep1 {x : D} {vs : List V} (h : RepL K mg g [x] vs) : ∃ v, vs = [v] ∧ Rep K mg g x v := by
  cases h with
  | cons h t => cases t; exact ⟨_, rfl, h⟩
theorem rep2 {x y : D} {vs : List V} (h : RepL K mg g [x, y] vs) : ∃ v u, vs = [v, u] ∧ Rep K mg g x v ∧ Rep K mg g y u := by
  cases h with
  | cons h t =>
    cases t with
    | cons h2 t2 => cases t2; exact ⟨_, _, rfl, h, h2⟩
theorem asBs_rep : ∀ {ds : List D} {vs : List V} {bs : List Bool}, RepL K mg g ds vs → asBs ds = some bs → vs = bs.map V.bl
  | [], _, bs, h, e => by
    cases h
    have e' : [] = bs := by simpa [asBs] using e
    subst e'
    rfl
  | d :: ds, _, bs, h, e => by
    cases h with
    | cons h t =>
      cases d with
      | bl b =>
        simp only [asBs, Option.map_eq_some_iff] at e
        obtain ⟨r, e1, e2⟩ := e
        subst e2
        cases h
        rw [asBs_rep t e1]
        rfl
      | _ => simp [asBs] at e
theorem asIs_rep : ∀ {ds : List D} {vs : List V} {bs : List Int}, RepL K mg g ds vs → asIs ds = some bs → vs = bs.map V.int
  | [], _, bs, h, e => by
    cases h
    have e' : [] = bs := by simpa [asIs] using e
    subst e'
    rfl
  | d :: ds, _, bs, h, e => by
    cases h with
    | cons h t =>
      cases d with
      | int b =>
        simp only [asIs, Option.map_eq_some_iff] at e
        obtain ⟨r, e1, e2⟩ := e
        subst e2
        cases h
        rw [asIs_rep t e1]
        rfl
      | _ => simp [asIs] at e
theorem asSs_rep : ∀ {ds : List D} {vs : List V} {bs : List Str}, RepL K mg g ds vs → asSs ds = some bs → vs = bs.map V.str
  | [], _, bs, h, e => by
    cases h
    have e' : [] = bs := by simpa [asSs] using e
    subst e'
    rfl
  | d :: ds, _, bs, h, e => by
    cases h with
    | cons h t =>
      cases d with
      | str b =>
        simp only [asSs, Option.map_eq_some_iff] at e
        obtain ⟨r, e1, e2⟩ := e
        subst e2
        cases h
        rw [asSs_rep t e1]
        rfl
      | _ => simp [asSs] at e
theorem seqAs {α : Type} {f : List D → Option (List α)} {S : Sto} {x : D} {bs : List α} (h : (seqOf S x).bind f = some bs) : ∃ ds, seqOf S x = some ds ∧ f ds = some bs := by
  cases e : seqOf S x with
  | none => rw [e] at h; cases h
  | some ds => rw [e] at h; exact ⟨ds, rfl, h⟩
end
theorem c_len : CallR X (.builtin "len") (rM X plen) := callR_imp call_len fun vs H Q ⟨g, S, xs, W, σ, rl, rx, hP⟩ => by
  have sl := sizeL
  unfold plen at hP
  split at hP
  · obtain ⟨v, rfl, r⟩ := rep1 rx
    cases r
    split at hP
    · rename_i hz
      exact ⟨_, _, rfl, ⟨by omega, rfl⟩, post_ok rl (.int _) hP⟩
    · exact hP.elim
  · obtain ⟨v, rfl, r⟩ := rep1 rx
    obtain ⟨q, us, rfl, hq, r1⟩ := tup_rep rl r
    exact ⟨_, _, rfl, .inr ⟨us, hq, rfl⟩, by rw [← r1.length]; exact post_ok rl (.int _) hP⟩
  · obtain ⟨v, rfl, r⟩ := rep1 rx
    split at hP
    · rename_i ds h
      obtain ⟨q, us, rfl, hq, r1⟩ := seqOf_rep rl r h
      exact ⟨_, _, rfl, .inl ⟨us, hq, rfl⟩, by rw [← r1.length]; exact post_ok rl (.int _) hP⟩
    · exact hP.elim
  · exact hP.elim
theorem c_abs : CallR X (.builtin "abs") (rM X pabs) := callR_imp call_abs fun vs H Q ⟨g, S, xs, W, σ, rl, rx, hP⟩ => by
  unfold pabs at hP
  split at hP
  · obtain ⟨v, rfl, r⟩ := rep1 rx
    cases r
    exact ⟨_, rfl, post_ok rl (.int _) hP⟩
  · exact hP.elim
theorem c_max2 (hc : X.calm = true) : CallR X (.builtin "max") (rM X pmax2) := callR_imp (call_max2 hc) fun vs H Q ⟨g, S, xs, W, σ, rl, rx, hP⟩ => by
  unfold pmax2 at hP
  split at hP
  · obtain ⟨v, u, rfl, r, r'⟩ := rep2 rx
    cases r
    cases r'
    exact ⟨_, _, rfl, post_ok rl (.int _) hP⟩
  · exact hP.elim
theorem c_min2 (hc : X.calm = true) : CallR X (.builtin "min") (rM X pmin2) := callR_imp (call_min2 hc) fun vs H Q ⟨g, S, xs, W, σ, rl, rx, hP⟩ => by
  unfold pmin2 at hP
  split at hP
  · obtain ⟨v, u, rfl, r, r'⟩ := rep2 rx
    cases r
    cases r'
    exact ⟨_, _, rfl, post_ok rl (.int _) hP⟩
  · exact hP.elim
theorem c_int : CallR X (.type "int") (rM X pint) := callR_imp (call_int1.or call_int_str) fun vs H Q ⟨g, S, xs, W, σ, rl, rx, hP⟩ => by
  unfold pint at hP
  split at hP
  · obtain ⟨v, rfl, r⟩ := rep1 rx
    cases r
    exact .inl (.inl ⟨_, rfl, post_ok rl (.int _) hP⟩)
  · obtain ⟨v, rfl, r⟩ := rep1 rx
    cases r
    exact .inl (.inr ⟨_, rfl, post_ok rl (.int _) hP⟩)
  · obtain ⟨v, rfl, r⟩ := rep1 rx
    cases r
    split at hP
    · rename_i n hn
      split at hP
      · rename_i hz
        exact .inr ⟨_, n, rfl, hn, hz, post_ok rl (.int _) hP⟩
      · exact hP.elim
    · exact hP.elim
  · exact hP.elim
theorem c_str : CallR X (.type "str") (rM X pstr) := callR_imp call_str_int fun vs H Q ⟨g, S, xs, W, σ, rl, rx, hP⟩ => by
  unfold pstr at hP
  split at hP
  · obtain ⟨v, rfl, r⟩ := rep1 rx
    cases r
    split at hP
    · rename_i hz
      exact ⟨_, rfl, hz, post_ok rl (.str _) hP⟩
    · exact hP.elim
  · exact hP.elim
theorem c_all (hc : X.calm = true) : CallR X (.builtin "all") (rM X pall) := callR_imp (cr_all hc) fun vs H Q ⟨g, S, xs, W, σ, rl, rx, hP⟩ => by
  unfold pall at hP
  split at hP
  · obtain ⟨v, rfl, r⟩ := rep1 rx
    split at hP
    · rename_i bs h
      obtain ⟨ds, h1, h2⟩ := seqAs h
      obtain ⟨q, us, rfl, hq, r1⟩ := seqOf_rep rl r h1
      rw [asBs_rep r1 h2] at hq
      exact ⟨q, bs, rfl, hq, post_ok rl (.bl _) hP⟩
    · exact hP.elim
  · exact hP.elim
theorem c_any (hc : X.calm = true) : CallR X (.builtin "any") (rM X pany) := callR_imp (cr_any hc) fun vs H Q ⟨g, S, xs, W, σ, rl, rx, hP⟩ => by
  unfold pany at hP
  split at hP
  · obtain ⟨v, rfl, r⟩ := rep1 rx
    split at hP
    · rename_i bs h
      obtain ⟨ds, h1, h2⟩ := seqAs h
      obtain ⟨q, us, rfl, hq, r1⟩ := seqOf_rep rl r h1
      rw [asBs_rep r1 h2] at hq
      exact ⟨q, bs, rfl, hq, post_ok rl (.bl _) hP⟩
    · exact hP.elim
  · exact hP.elim
theorem c_sum (hc : X.calm = true) : CallR X (.builtin "sum") (rM X psum) := callR_imp (cr_sum hc) fun vs H Q ⟨g, S, xs, W, σ, rl, rx, hP⟩ => by
  unfold psum at hP
  split at hP
  · obtain ⟨v, rfl, r⟩ := rep1 rx
    split at hP
    · rename_i bs h
      obtain ⟨ds, h1, h2⟩ := seqAs h
      obtain ⟨q, us, rfl, hq, r1⟩ := seqOf_rep rl r h1
      rw [asIs_rep r1 h2] at hq
      exact ⟨q, bs, rfl, hq, post_ok rl (.int _) hP⟩
    · exact hP.elim
  · exact hP.elim
theorem c_tuple : CallR X (.type "tuple") (rM X ptuple) := callR_imp call_tuple_of fun vs H Q ⟨g, S, xs, W, σ, rl, rx, hP⟩ => by
  unfold ptuple at hP
  split at hP
  · obtain ⟨v, rfl, r⟩ := rep1 rx
    obtain ⟨q, us, rfl, hq, r1⟩ := tup_rep rl r
    exact ⟨q, us, rfl, .inr ⟨hq, post_ok rl r hP⟩⟩
  · obtain ⟨v, rfl, r⟩ := rep1 rx
    split at hP
    · rename_i ds h
      obtain ⟨q, us, rfl, hq, r1⟩ := seqOf_rep rl r h
      exact ⟨q, us, rfl, .inl ⟨hq, post_mkT rl r1 hP⟩⟩
    · exact hP.elim
  · exact hP.elim
theorem c_list (nw : Bool) : CallR X (.type "list") (rM X (plist nw)) := callR_imp call_list_of fun vs H Q ⟨g, S, xs, W, σ, rl, rx, hP⟩ => by
  unfold plist at hP
  split at hP
  · obtain ⟨v, rfl, r⟩ := rep1 rx
    obtain ⟨q, us, rfl, hq, r1⟩ := tup_rep rl r
    exact ⟨q, us, rfl, .inr hq, post_mkL rl r1 hP⟩
  · obtain ⟨v, rfl, r⟩ := rep1 rx
    split at hP
    · rename_i ds h
      obtain ⟨q, us, rfl, hq, r1⟩ := seqOf_rep rl r h
      exact ⟨q, us, rfl, .inl hq, post_mkL rl r1 hP⟩
    · exact hP.elim
  · exact hP.elim

/-! ### isinstance with built-in classes -/
inductive Ki where
  | non | bool | int | str | tup | lst | dct
  deriving DecidableEq
def Ki.name : Ki → String
  | .non => "NoneType" | .bool => "bool" | .int => "int" | .str => "str" | .tup => "tuple" | .lst => "list" | .dct => "dict"
def Ki.isA (a b : Ki) : Bool := decide (a = b) || (decide (a = .bool) && decide (b = .int))
def kiN (n : String) : Option Ki := if n = "int" then some .int else if n = "bool" then some .bool else if n = "str" then some .str else if n = "tuple" then some .tup else if n = "list" then some .lst else if n = "dict" then some .dct else none
def kindOf (S : Sto) : D → Option Ki
  | .non => some .non
  | .bl _ => some .bool
  | .int _ => some .int
  | .str _ => some .str
  | .tup _ => some .tup
  | .lst _ => some .lst
  | .rol _ => some .lst
  | .ref n => match S[n]? with
    | some (.lst _) => some .lst
    | _ => none
  | .dc0 => some .dct
  | _ => none
def kisOf : List D → Option (List Ki)
  | [] => some []
  | .ty n :: r => match kiN n, kisOf r with
    | some t, some ts => some (t :: ts)
    | _, _ => none
  | _ => none
def pisi : PL := fun xs S => match xs with
  | [x, .ty n] => match kindOf S x, kiN n with
    | some k, some t => .ok (.bl (k.isA t)) S
    | _, _ => .no
  | [x, .tup ts] => match kindOf S x with
    | some k => match kisOf ts with
      | some ks => .ok (.bl (ks.any fun t => k.isA t)) S
      | none => .no
    | none => .no
  | _ => .no
theorem kit_isA (a b : Ki) : kitB a.name b.name = some (a.isA b) := by
  cases a <;> cases b <;> decide +kernel
theorem kiN_name {n : String} {t : Ki} (h : kiN n = some t) : n = t.name := by
  unfold kiN at h
  repeat (split at h; · rename_i e; simp only [Option.some.injEq] at h; subst h; exact e)
  cases h
theorem kind_ty {g : G} {H : Hp} {S : Sto} {d : D} {v : V} {k : Ki} (rl : Rel X.K X.mg g H S) (r : Rep X.K X.mg g d v) (h : kindOf S d = some k) : TyX X.K H v (.type k.name) := by
  have lst : ∀ {a : Addr} {vs : List V}, SqL X.K H a vs → TyX X.K H (.ref a) (.type "list") := fun {a vs} hs => by
    rcases hs with (hs | ⟨o, hs⟩) | ⟨o, its, n, h1, h2, _⟩
    · exact .base (.lst hs)
    · exact .base (.frz hs)
    · exact .kList h1 h2
  cases d with
  | non => cases r; cases h; exact .base .non
  | bl b => cases r; cases h; exact .base (.bl _)
  | int b => cases r; cases h; exact .base (.int _)
  | str b => cases r; cases h; exact .base (.str _)
  | tup ds =>
    cases h
    obtain ⟨a, vs, rfl, hs, _⟩ := tup_rep rl r
    rcases hs with (hs | ⟨o, hs⟩) | ⟨o, its, n, h1, h2, _⟩
    · exact .base (.tup hs)
    · exact .fTuple hs
    · exact .kTuple h1 h2
  | lst ds =>
    cases h
    obtain ⟨a, vs, rfl, hs, _⟩ := seqOf_rep (ds := ds) rl r rfl
    exact lst hs
  | rol ds =>
    cases h
    obtain ⟨a, vs, rfl, hs, _⟩ := seqOf_rep (ds := ds) rl r rfl
    exact lst hs
  | ref n =>
    simp only [kindOf] at h
    split at h
    · rename_i ds hk
      cases h
      obtain ⟨a, vs, rfl, hs, _⟩ := seqOf_rep (ds := ds) rl r (by simp only [seqOf, hk])
      exact lst hs
    · cases h
  | dc0 =>
    cases h
    cases r with
    | dc0 h => exact .base (.dK (rl.fin _ _ h))
  | _ => cases h
theorem kisOf_rep {K : PySem.W.Frag} {mg : Str → Option Value} {g : G} : ∀ {ts : List D} {cs : List V} {ks : List Ki}, RepL K mg g ts cs → kisOf ts = some ks → Paired ClsV cs (ks.map fun k => Value.type k.name)
  | [], _, ks, r, h => by
    cases r
    simp only [kisOf, Option.some.injEq] at h
    subst h
    exact .nil
  | d :: ts, _, ks, r, h => by
    cases r with
    | cons r t =>
      cases d with
      | ty n =>
        cases r
        simp only [kisOf] at h
        split at h
        · rename_i t' ts' h1 h2
          simp only [Option.some.injEq] at h
          subst h
          refine .cons ?_ (kisOf_rep t h2)
          rw [kiN_name h1]
          exact .ty _
        · cases h
      | _ => simp [kisOf] at h
theorem kitAny_is {K : PySem.W.Frag} (k : Ki) : ∀ ks : List Ki, PySem.W.kitAny K (.type k.name) (ks.map fun k => Value.type k.name) = some (ks.any fun t => k.isA t)
  | [] => rfl
  | t :: ks => by
    have hk : PySem.W.kitOne K (.type k.name) (.type t.name) = some (k.isA t) := kit_ty (kit_isA k t)
    refine kitAny_cons hk (fun e => ?_) fun e => ?_
    · rw [List.any_cons, e, Bool.false_or]
      exact kitAny_is k ks
    · rw [List.any_cons, e, Bool.true_or]
/-- a tuple of classes, wherever it stands -/
theorem call_isiS : CallR X (.builtin "isinstance") (fun xs H Q => ∃ (x : V) (tp : Addr) (cs : List V) (t : Value) (us : List Value) (b : Bool), xs = [x, .ref tp] ∧ SqT X.K H tp cs ∧ Paired ClsV cs us ∧ TyX X.K H x t ∧ PySem.W.kitAny X.K t us = some b ∧ Q (.bl b) H) := by
  intro pins s σ H xs us Q I r h
  obtain ⟨x, tp, cs, t, ws, b, rfl, hT, k, ty, e, q⟩ := h
  obtain ⟨u1, u2, rfl, r1, r2⟩ := vals2 r
  cases (show u2 = Value.ref tp from r2)
  obtain ⟨P, Z, p, hx⟩ := kit_of I r1 ty
  obtain ⟨its, rv, ⟨o, h1, h2, n, h3⟩, _⟩ := I.tuple hT
  cases ClsV.all k rv
  obtain ⟨oc, od, dt, sl⟩ := o
  cases h2
  cases h3
  exact PySem.W.kia_tup Z I.kIn p h1 e hx fun tk => ⟨.bl b, H, I.tok tk, rfl, q⟩
theorem c_isi : CallR X (.builtin "isinstance") (rM X pisi) := callR_imp (call_isi.or call_isiS) fun vs H Q ⟨g, S, xs, W, σ, rl, rx, hP⟩ => by
  unfold pisi at hP
  split at hP
  · obtain ⟨v, u, rfl, r, r'⟩ := rep2 rx
    cases r'
    split at hP
    · rename_i k t h1 h2
      refine .inl ⟨v, _, _, _, k.isA t, rfl, .ty _, kind_ty rl r h1, ?_, post_ok rl (.bl _) hP⟩
      rw [kiN_name h2]
      exact kit_ty (kit_isA k t)
    · exact hP.elim
  · obtain ⟨v, u, rfl, r, r'⟩ := rep2 rx
    split at hP
    · rename_i k h1
      split at hP
      · rename_i ks h2
        obtain ⟨q, us, rfl, hq, r1⟩ := tup_rep rl r'
        exact .inr ⟨v, q, us, _, _, _, rfl, hq, kisOf_rep r1 h2, kind_ty rl r h1, kitAny_is k ks, post_ok rl (.bl _) hP⟩
      · exact hP.elim
    · exact hP.elim
  · exact hP.elim
/-- a built-in class as a value -/
theorem em_ty {x : Str} {n : String} {pos : Pos} (hm : X.mg x = none) (hv : bootBuiltins x = some (.type n)) (hg : Gl X x := by rfl) (hn : x ≠ "__name__" := by decide) (hdb : (x == ("__debug__" : Str)) = false := by decide) : EM X W (.Name x pos) (mC (.ty n)) :=
  fun g σ H ev S Q rl er hP => wE (pe_bltn (v := .ty n) hg hm hv rfl hn hdb) (hP g _ H (G.le.refl g) rl (.ty n))
end
end ML


set_option Elab.async false
set_option linter.all false
set_option maxRecDepth 100000
set_option autoImplicit false
set_option maxHeartbeats 4000000
namespace ML
open PySem PySem.Spec PyProof.Rows L2
set_option maxRecDepth 8000 in
theorem extend_tup (l : Addr) (items : Array Value) (n : Nat) (b : Addr) (items2 : Array Value) (n2 : Nat) (od : Option Addr) (sl : Array (Option Value)) (hs0 : ¬(!items.isEmpty && Builtin.List.listTooLong (items.size + items2.size)) = true) (hs1 : items.size ≤ sizeLine) (hs2 : items.size + items2.size ≤ sizeLine + 1) :
    Meets (Builtin.«list.extend» ⟨[.ref l, .ref b], []⟩) (fun _ R s => s.heap.get? l = some { cls := .type "list", dict := none, data := .seq items n, slots := #[] } ∧ s.heap.get? b = some { cls := .type "tuple", dict := od, data := .seq items2 n2, slots := sl } ∧ R (.ok (.ret Value.none)) { s with heap := s.heap.update l (Obj.mapSeq fun x => x ++ items2), toks := s.toks }) :=
  .of_wp fun prog w A R s h => by
    obtain ⟨hp, g, d, tk, os⟩ := s; obtain ⟨hl, hb, h⟩ := h; have f2 := PySem.F.sub_tuple_tuple; have f3 := PySem.F.sub_list_list; have f4 := PySem.F.sub_tuple_list;
    have hz' : (items ++ items2).size ≤ sizeLine + 1 := by rw [Array.size_append]; exact hs2
    wp_walk using (wpAny_updateSeq hl rfl (hz := hs1) (_hz' := hz')), AutoSeq1.wpAny_loadPart' hl, AutoSeq1.wpAny_loadPart' hb; exact ⟨_, rfl, h⟩

/-! ## methods of lists and texts -/
abbrev PM := D → List D → Sto → R D
def rMm (X : Cx) (p : PM) : V → List V → Hp → VK → Prop := fun v vs H Q => ∃ (g : G) (S : Sto) (x : D) (xs : List D) (W : WX) (σ : Sl), Rel X.K X.mg g H S ∧ Rep X.K X.mg g x v ∧ RepL X.K X.mg g xs vs ∧ Post X.K X.mg (Rep X.K X.mg) W σ g (p x xs S) Q
theorem mtR_imp {X : Cx} {id : String} {r r' : V → List V → Hp → VK → Prop} (h : MtR X id r) (k : ∀ x xs H Q, r' x xs H Q → r x xs H Q) : MtR X id r' := fun pins s σ H x xs v us Q I rv rs q => h pins s σ H x xs v us Q I rv rs (k _ _ _ _ q)
def isSeq (S : Sto) (d : D) : Bool := (seqOf S d).isSome
def isStr (_ : Sto) : D → Bool
  | .str _ => true
  | _ => false
def mMe (isT : Sto → D → Bool) (p : PM) (mo : M D) (ml : M (List D)) : M D := fun ev S => (mo ev S).bind fun x S1 => if isT S1 x = true then (ml ev S1).bind fun ys S2 => p x ys S2 else .no
def IsTy (X : Cx) (T : String) (isT : Sto → D → Bool) : Prop := ∀ (g : G) (H : Hp) (S : Sto) (d : D) (v : V), Rel X.K X.mg g H S → Rep X.K X.mg g d v → isT S d = true → tyV X.K T v H
section
variable {X : Cx} {W : WX} {o e a b c : Expr} {es rest : List Expr} {pos cpos apos : Pos} {mo ma mb mc : M D} {ml : M (List D)} {x name : Str} {id T : String} {p : PM} {isT : Sto → D → Bool}
theorem isSeq_ty : IsTy X "list" isSeq := fun g H S d v rl r h => by
  unfold isSeq at h
  cases e : seqOf S d with
  | none => rw [e] at h; cases h
  | some ds =>
    obtain ⟨q, us, rfl, hq, _⟩ := seqOf_rep rl r e
    exact .inl ⟨rfl, us, hq⟩
theorem isStr_ty : IsTy X "str" isStr := fun g H S d v rl r h => by
  cases d with
  | str z => cases r; exact rfl
  | _ => cases h
theorem em_bm (hT : IsTy X T isT) (pa : PlainAttrs T) (slot : Slot T name id) (hty : typeOf (.builtin id) = pure (.type "method_descriptor")) (hm : MtR X id (rMm X p)) (ho : EM X W o mo) (ha : AM X W (e :: es) ml)
    (hbase : attributeBase o name X.env (eval o X.env) = eval o X.env := by rfl)
    (hfew : ((backTo cpos (starEach (e :: es) X.env)).all (fun x => !x.1) && (backToKw cpos (keywordEach [] X.env)).all (fun x => x.1.isSome)
      && decide ((e :: es).length + ([] : List Keyword).length + (if ([] : List Keyword).isEmpty then 0 else 1) < 30)) = true := by exact starFew rfl rfl)
    (hline : (apos.endLine == cpos.line) = true := by rfl) (hs : starEach (e :: es) X.env = (false, eval e X.env) :: starEach es X.env := by exact star1 rfl) (hplain : (backTo cpos (starEach es X.env)).any (·.1) = false := by exact starP rfl) :
    EM X W (.Call (.Attribute o name apos) (e :: es) [] cpos) (mMe isT p mo ml) := by
  intro g σ H ev S Q rl er hP
  refine wE (pe_bm pa slot hty hm (peW X o) (paW X _) hbase hfew hline hs hplain) (ho g σ H ev S _ rl er (Post.bind hP fun g1 x S1 v H1 l1 rl1 rx hP1 => ?_))
  split at hP1
  · rename_i ht
    refine ⟨hT g1 H1 S1 x v rl1 rx ht, ha g1 σ H1 ev S1 _ rl1 (er.le l1) (Post.bind hP1 fun g2 ys S2 us H2 l2 rl2 ry hP2 => ?_)⟩
    exact ⟨g2, S2, x, ys, W, σ, rl2, rx.le l2, ry, hP2⟩
  · exact hP1.elim
theorem em_bm0 (hT : IsTy X T isT) (pa : PlainAttrs T) (slot : Slot T name id) (hty : typeOf (.builtin id) = pure (.type "method_descriptor")) (hm : MtR X id (rMm X p)) (ho : EM X W o mo)
    (hbase : attributeBase o name X.env (eval o X.env) = eval o X.env := by rfl) (hline : (apos.endLine == cpos.line) = true := by rfl) : EM X W (.Call (.Attribute o name apos) [] [] cpos) (mMe isT p mo mNil) := by
  intro g σ H ev S Q rl er hP
  refine wE (pe_bm0 pa slot hty hm (peW X o) hbase hline) (ho g σ H ev S _ rl er (Post.bind hP fun g1 x S1 v H1 l1 rl1 rx hP1 => ?_))
  split at hP1
  · rename_i ht
    exact ⟨hT g1 H1 S1 x v rl1 rx ht, g1, S1, x, [], W, σ, rl1, rx, .nil, hP1⟩
  · exact hP1.elim

def pappend : PM := fun x ys S => match x, ys with
  | .ref n, [y] => match S[n]? with
    | some (.lst ds) => if ds.length < 16777216 then .ok .non (S.set n (.lst (ds ++ [y]))) else .no
    | _ => .no
  | _, _ => .no
def seqX (S : Sto) : D → Option (List D)
  | .tup ds => some ds
  | y => seqM S y
def pextend : PM := fun x ys S => match x, ys with
  | .ref n, [y] => match S[n]?, seqX S y with
    | some (.lst ds), some es => if ds.length + es.length ≤ 16777216 then .ok .non (S.set n (.lst (ds ++ es))) else .no
    | _, _ => .no
  | _, _ => .no
def ppop : PM := fun x ys S => match x, ys with
  | .ref n, [] => match S[n]? with
    | some (.lst ds) => match ds.getLast? with
      | some y => .ok y (S.set n (.lst ds.dropLast))
      | none => .no
    | _ => .no
  | _, _ => .no
/-- the first place -/
def firstAt (f : PyData → Bool) : List PyData → Nat → Option Nat
  | [], _ => none
  | d :: ds, n => if f d = true then some n else firstAt f ds (n + 1)
def pindex : PM := fun x ys S => match ys with
  | [y] => match py deep S x, py deep S y with
    | some (.list ds), some d => match firstAt (fun z => PyData.eqv z d) ds 0 with
      | some n => .ok (.int n) S
      | none => .no
    | _, _ => .no
  | _ => .no
def pjoin : PM := fun x ys S => match x, ys with
  | .str a, [.tup ds] => match asSs ds with
    | some zs => if (zs.map (·.length)).sum + zs.length * a.length ≤ 16777216 then .ok (.str (Txt.join a zs)) S else .no
    | none => .no
  | .str a, [y] => match (seqOf S y).bind asSs with
    | some zs => if (zs.map (·.length)).sum + zs.length * a.length ≤ 16777216 then .ok (.str (Txt.join a zs)) S else .no
    | none => .no
  | _, _ => .no
def psplit (nw : Bool) : PM := fun x ys S => match x, ys with
  | .str a, [.str b] => if (b.length == 0) = false ∧ a.length + 2 ≤ 16777216 then mkL nw ((Txt.split a b).map D.str) S else .no
  | .str a, [.str b, .int k] => if (b.length == 0) = false ∧ -(2 ^ 63) ≤ k ∧ k < 2 ^ 63 ∧ a.length + 2 ≤ 16777216 then mkL nw ((Txt.splitMax a b k).map D.str) S else .no
  | _, _ => .no
def pupper : PM := fun x ys S => match x, ys with
  | .str a, [] => if a.length ≤ 5592405 then .ok (.str (Txt.upper a)) S else .no
  | _, _ => .no
theorem cell_ref {K : PySem.W.Frag} {mg : Str → Option Value} {g : G} {H : Hp} {S : Sto} {n : Nat} {v : V} {ds : List D} (rl : Rel K mg g H S) (r : Rep K mg g (.ref n) v) (e : S[n]? = some (.lst ds)) : ∃ (a : Addr) (vs : List V), v = .ref a ∧ g.r[n]? = some a ∧ H a = some (.lst vs) ∧ RepL K mg g ds vs := by
  cases r with
  | ref h1 =>
    obtain ⟨_, _, vs, h3, h4⟩ := rl.cell n _ _ e h1
    exact ⟨_, vs, rfl, h1, h3, h4⟩
theorem m_append : MtR X "list.append" (rMm X pappend) := mtR_imp (r := rAppend) mt_append fun v vs H Q ⟨g, S, x, xs, W, σ, rl, rx, rxs, hP⟩ => by
  have sl := sizeL
  unfold pappend at hP
  split at hP
  · split at hP
    · rename_i n y ds he
      split at hP
      · rename_i hz
        obtain ⟨u, rfl, ry⟩ := rep1 rxs
        obtain ⟨a, ws, rfl, h1, h2, h3⟩ := cell_ref rl rx he
        refine ⟨a, ws, u, rfl, rfl, h2, by rw [← h3.length]; omega, ?_⟩
        exact hP g .non _ (G.le.refl g) (rl.setCell he h1 (h3.append (.cons ry .nil))) .non
      · exact hP.elim
    · exact hP.elim
  · exact hP.elim
theorem mt_extendT : MtM X "list.extend" (fun x vs H Q => ∃ l b xs zs, x = .ref l ∧ vs = [.ref b] ∧ H l = some (.lst xs) ∧ SqT X.K H b zs ∧ xs.length + zs.length ≤ sizeLine ∧ Q .non (upd H l (.lst (xs ++ zs)))) := by
  intro pins s σ H x vs v us Q I rx rv h
  obtain ⟨l, b, xs, zs, rfl, rfl, hH, hB, hz, q⟩ := h
  cases rx
  obtain ⟨u, rfl, ru⟩ := rv.one
  cases ru
  obtain ⟨z, its, n, r, hl, e⟩ := I.lstM hH
  obtain ⟨its2, r2, ⟨o, h1, h2, n2, h3⟩, hz2⟩ := I.tuple hB
  obtain ⟨oc, od, dt, sl⟩ := o
  cases h2
  cases h3
  have hl2 := r2.length
  have hsz : its.toArray.size + its2.toArray.size ≤ sizeLine := by rw [List.size_toArray, List.size_toArray]; omega
  have hlong : ¬ (!its.toArray.isEmpty && Builtin.List.listTooLong (its.toArray.size + its2.toArray.size)) = true := by
    rw [notLongL hsz, Bool.and_false]
    exact Bool.false_ne_true
  refine call_meets F.slot_list_extend ⟨_, e, rfl⟩ F.entry_list_extend (F.args_list_extend_2 _ _)
    (extend_tup l its.toArray n b its2.toArray n2 od sl hlong (by rw [List.size_toArray]; omega) (by omega)) ⟨e, h1, ?_⟩
  refine ⟨.non, _, I.lset (its' := its ++ its2) hH e (by simp) (r.append r2) ?_, rfl, q⟩
  rw [List.length_append]
  omega
theorem m_extend : MtR X "list.extend" (rMm X pextend) := mtR_imp (r := fun x vs H Q => rExtend x vs H Q ∨ ∃ l b xs zs, x = .ref l ∧ vs = [.ref b] ∧ H l = some (.lst xs) ∧ SqT X.K H b zs ∧ xs.length + zs.length ≤ sizeLine ∧ Q .non (upd H l (.lst (xs ++ zs)))) (MtR.or mt_extend mt_extendT) fun v vs H Q ⟨g, S, x, xs, W, σ, rl, rx, rxs, hP⟩ => by
  have sl := sizeL
  unfold pextend at hP
  split at hP
  · rename_i n y
    split at hP
    · rename_i ds es he hy
      split at hP
      · rename_i hz
        obtain ⟨u, rfl, ry⟩ := rep1 rxs
        obtain ⟨a, ws, rfl, h1, h2, h3⟩ := cell_ref rl rx he
        have fin : ∀ {us : List V}, RepL X.K X.mg g es us → Q .non (upd H a (.lst (ws ++ us))) := fun {us} h5 => hP g .non _ (G.le.refl g) (rl.setCell he h1 (h3.append h5)) .non
        unfold seqX at hy
        split at hy
        · simp only [Option.some.injEq] at hy
          subst hy
          obtain ⟨b, us, rfl, h4, h5⟩ := tup_rep rl ry
          exact .inr ⟨a, b, ws, us, rfl, rfl, h2, h4, by rw [← h3.length, ← h5.length]; omega, fin h5⟩
        · obtain ⟨b, us, rfl, h4, h5⟩ := seqM_rep rl ry hy
          exact .inl ⟨a, b, ws, us, rfl, rfl, h2, h4, by rw [← h3.length, ← h5.length]; omega, fin h5⟩
      · exact hP.elim
    · exact hP.elim
  · exact hP.elim
theorem m_pop : MtR X "list.pop" (rMm X ppop) := mtR_imp (r := rPop) mt_pop fun v vs H Q ⟨g, S, x, xs, W, σ, rl, rx, rxs, hP⟩ => by
  unfold ppop at hP
  split at hP
  · split at hP
    · rename_i n ds he
      split at hP
      · rename_i y hy
        cases rxs
        obtain ⟨a, ws, rfl, h1, h2, h3⟩ := cell_ref rl rx he
        have hy' : ds[ds.length - 1]? = some y := by rw [← List.getLast?_eq_getElem?]; exact hy
        obtain ⟨u, e1, e2⟩ := h3.get hy'
        refine ⟨a, ws, u, rfl, rfl, h2, by rw [← h3.length]; exact e1, ?_⟩
        have hd : RepL X.K X.mg g ds.dropLast ws.dropLast := by
          rw [List.dropLast_eq_take, List.dropLast_eq_take, h3.length]
          exact h3.take _
        exact hP g u _ (G.le.refl g) (rl.setCell he h1 hd) e2
      · exact hP.elim
    · exact hP.elim
  · exact hP.elim
theorem firstAt_is {f : PyData → Bool} : ∀ {ds : List PyData} {n m : Nat}, firstAt f ds n = some m → ∃ (j : Nat) (z : PyData), m = n + j ∧ ds[j]? = some z ∧ f z = true ∧ ∀ (i : Nat) (z' : PyData), i < j → ds[i]? = some z' → f z' = false
  | [], _, _, h => by cases h
  | d :: ds, n, m, h => by
    unfold firstAt at h
    split at h
    · rename_i hd
      cases h
      exact ⟨0, d, rfl, rfl, hd, fun i z' hi => absurd hi (Nat.not_lt_zero i)⟩
    · rename_i hd
      obtain ⟨j, z, e1, e2, e3, e4⟩ := firstAt_is h
      refine ⟨j + 1, z, by omega, by simpa using e2, e3, fun i z' hi hz => ?_⟩
      cases i with
      | zero =>
        have : d = z' := by simpa using hz
        subst this
        simpa using hd
      | succ i => exact e4 i z' (by omega) (by simpa using hz)
theorem m_index (hu : X.A.units + 65 < cLine) : MtR X "list.index" (rMm X pindex) := mtR_imp (mt_indexD hu) fun v vs H Q ⟨g, S, x, xs, W, σ, rl, rx, rxs, hP⟩ => by
  unfold pindex at hP
  split at hP
  · split at hP
    · rename_i y ds d h1 h2
      split at hP
      · rename_i n hn
        obtain ⟨u, rfl, ry⟩ := rep1 rxs
        obtain ⟨j, z, e1, e2, e3, e4⟩ := firstAt_is hn
        have hd := py_dp rl deep _ _ _ rx h1
        obtain ⟨a, rfl⟩ : ∃ a, v = .ref a := by cases hd; exact ⟨_, rfl⟩
        have ej : n = j := by omega
        subst ej
        exact ⟨a, u, d, ds, n, z, rfl, rfl, hd, py_dp rl deep _ _ _ ry h2, py_shaped (by decide) h1, py_shaped (by decide) h2, e2, e3, e4, post_ok rl (.int _) hP⟩
      · exact hP.elim
    · exact hP.elim
  · exact hP.elim
theorem m_join : MtR X "str.join" (rMm X pjoin) := mtR_imp mt_join fun v vs H Q ⟨g, S, x, xs, W, σ, rl, rx, rxs, hP⟩ => by
  unfold pjoin at hP
  split at hP
  · split at hP
    · rename_i a ds zs hz
      split at hP
      · rename_i hl
        cases rx
        obtain ⟨u, rfl, ry⟩ := rep1 rxs
        obtain ⟨q, us, rfl, hq, r1⟩ := tup_rep rl ry
        rw [asSs_rep r1 hz] at hq
        exact ⟨_, q, zs, rfl, rfl, .inr hq, hl, post_ok rl (.str _) hP⟩
      · exact hP.elim
    · exact hP.elim
  · split at hP
    · rename_i a y _ zs hz
      split at hP
      · rename_i hl
        cases rx
        obtain ⟨u, rfl, ry⟩ := rep1 rxs
        obtain ⟨ds, h1, h2⟩ := seqAs hz
        obtain ⟨q, us, rfl, hq, r1⟩ := seqOf_rep rl ry h1
        rw [asSs_rep r1 h2] at hq
        exact ⟨_, q, zs, rfl, rfl, .inl hq, hl, post_ok rl (.str _) hP⟩
      · exact hP.elim
    · exact hP.elim
  · exact hP.elim
theorem repStrs {K : PySem.W.Frag} {mg : Str → Option Value} {g : G} : ∀ zs : List Str, RepL K mg g (zs.map D.str) (zs.map V.str)
  | [] => .nil
  | z :: zs => .cons (.str z) (repStrs zs)
theorem m_split (nw : Bool) : MtR X "str.split" (rMm X (psplit nw)) := mtR_imp (mt_split.or mt_splitMax) fun v vs H Q ⟨g, S, x, xs, W, σ, rl, rx, rxs, hP⟩ => by
  have sl := sizeL
  unfold psplit at hP
  split at hP
  · split at hP
    · rename_i hz
      cases rx
      obtain ⟨u, rfl, ry⟩ := rep1 rxs
      cases ry
      exact .inl ⟨_, _, rfl, rfl, hz.1, by omega, post_mkL rl (repStrs _) hP⟩
    · exact hP.elim
  · split at hP
    · rename_i hz
      cases rx
      obtain ⟨u, u', rfl, ry, ry'⟩ := rep2 rxs
      cases ry
      cases ry'
      exact .inr ⟨_, _, _, rfl, rfl, hz.1, hz.2.1, hz.2.2.1, by omega, post_mkL rl (repStrs _) hP⟩
    · exact hP.elim
  · exact hP.elim
theorem m_upper : MtR X "str.upper" (rMm X pupper) := mtR_imp mt_upper fun v vs H Q ⟨g, S, x, xs, W, σ, rl, rx, rxs, hP⟩ => by
  unfold pupper at hP
  split at hP
  · split at hP
    · rename_i hz
      cases rx
      cases rxs
      exact ⟨_, rfl, rfl, hz, post_ok rl (.str _) hP⟩
    · exact hP.elim
  · exact hP.elim
end
end ML


set_option Elab.async false
set_option linter.all false
set_option maxRecDepth 100000
set_option autoImplicit false
set_option maxHeartbeats 4000000
namespace ML
open PySem PySem.Spec PyProof.Rows L2

/-! ## what enumerate and zip draw from: a list, a tuple, a text -/
inductive SK where
  | l | t | s
def SrcV (K : PySem.W.Frag) (H : Hp) : SK → V → List V → Prop
  | .l, v, vs => ∃ a, v = .ref a ∧ SqL K H a vs
  | .t, v, vs => ∃ a, v = .ref a ∧ SqT K H a vs
  | .s, v, vs => ∃ z : Str, v = .str z ∧ vs = z.cps.toList.map fun c => V.str ⟨#[c]⟩
def ItAt : SK → Value → Addr → Nat → Heap → Prop
  | .l, u, it, i, h => ∃ a, u = .ref a ∧ h.IsListIter it a i
  | .t, u, it, i, h => ∃ a, u = .ref a ∧ h.IsTupleIter it a i
  | .s, u, it, i, h => ∃ x t, u = .str x t ∧ h.IsStrIter it (strIterType x) x t i
def fpS : SK → Value → List Addr
  | .l, .ref a => [a]
  | .t, .ref a => [a]
  | _, _ => []
theorem itAt_at {k : SK} {u : Value} {it : Addr} {i : Nat} {h h' : Heap} (x : ItAt k u it i h) (e : ∀ o, h.get? it = some o → h'.get? it = some o) : ItAt k u it i h' := by
  cases k with
  | l => obtain ⟨a, e1, e2⟩ := x; exact ⟨a, e1, e2.at e⟩
  | t => obtain ⟨a, e1, e2⟩ := x; exact ⟨a, e1, e2.at e⟩
  | s => obtain ⟨a, t, e1, o, e2, r⟩ := x; exact ⟨a, t, e1, o, e _ e2, r⟩
theorem itAt_obj {k : SK} {u : Value} {it : Addr} {i : Nat} {h : Heap} (x : ItAt k u it i h) : ∃ o, h.get? it = some o ∧ ∀ v, o.data ≠ .cell v := by
  cases k with
  | l => obtain ⟨a, e1, o, e2, c, d⟩ := x; exact ⟨o, e2, fun v z => by rw [d] at z; cases z⟩
  | t => obtain ⟨a, e1, o, e2, c, d⟩ := x; exact ⟨o, e2, fun v z => by rw [d] at z; cases z⟩
  | s => obtain ⟨a, t, e1, o, e2, c, d⟩ := x; exact ⟨o, e2, fun v z => by rw [d] at z; cases z⟩
section
variable {X : Cx} {pins : List (Addr × Obj)} {σ : Sl} {H : Hp} {s : Shared}
theorem srcV_inj (I : Inv X pins σ H s) {k : SK} {v : V} {vs us : List V} (a : SrcV X.K H k v vs) (b : SrcV X.K H k v us) : vs = us := by
  cases k with
  | l => obtain ⟨p, rfl, h1⟩ := a; obtain ⟨q, e, h2⟩ := b; cases e; exact I.list_inj h1 h2
  | t => obtain ⟨p, rfl, h1⟩ := a; obtain ⟨q, e, h2⟩ := b; cases e; exact I.tuple_inj h1 h2
  | s => obtain ⟨p, rfl, h1⟩ := a; obtain ⟨q, e, h2⟩ := b; cases e; rw [h1, h2]
theorem draws_of {P : Program} {w : World} {A : Around} (hA : A.handled = none) (I : Inv X pins σ H s) {k : SK} {v : V} {u : Value} {vs : List V} (rv : RelV v u) (hs : SrcV X.K H k v vs) {it : Addr} (hit : it ∉ fpS k u) :
    ∃ (Pd : Nat → Value → Prop) (St : Nat → Heap → Prop), Draws P w A it (it :: fpS k u) vs.length Pd St ∧ (∀ i, ItAt k u it i s.heap → St i s.heap) ∧ (∀ i h, St i h → ItAt k u it i h) ∧ ∀ i x, Pd i x → ∃ y, vs[i]? = some y ∧ RelV y x := by
  cases k with
  | l =>
    obtain ⟨a, rfl, hq⟩ := hs
    cases rv
    obtain ⟨its, r, pl, _⟩ := I.list hq
    have hne : a ≠ it := fun e => hit (by subst e; exact List.mem_singleton.mpr rfl)
    have hl : vs.length = its.toArray.size := by rw [List.size_toArray]; exact r.length
    rw [hl]
    refine ⟨_, _, Draws.list hA it a hne its.toArray, fun i x => ?_, fun i h x => ⟨a, rfl, x.1⟩, fun i x hx => ?_⟩
    · obtain ⟨b, e, x⟩ := x
      cases e
      exact ⟨x, pl.isList⟩
    · have hx' : its[i]? = some x := by simpa using hx
      have hi : i < vs.length := by rw [r.length]; exact (List.getElem?_eq_some_iff.mp hx').1
      obtain ⟨u, e1, e2⟩ := r.get (List.getElem?_eq_getElem hi)
      rw [hx'] at e1
      cases e1
      exact ⟨_, List.getElem?_eq_getElem hi, e2⟩
  | t =>
    obtain ⟨a, rfl, hq⟩ := hs
    cases rv
    obtain ⟨its, r, pl, _⟩ := I.tuple hq
    have hne : a ≠ it := fun e => hit (by subst e; exact List.mem_singleton.mpr rfl)
    have hl : vs.length = its.toArray.size := by rw [List.size_toArray]; exact r.length
    rw [hl]
    refine ⟨_, _, Draws.tuple hA it a hne its.toArray, fun i x => ?_, fun i h x => ⟨a, rfl, x.1⟩, fun i x hx => ?_⟩
    · obtain ⟨b, e, x⟩ := x
      cases e
      exact ⟨x, pl⟩
    · have hx' : its[i]? = some x := by simpa using hx
      have hi : i < vs.length := by rw [r.length]; exact (List.getElem?_eq_some_iff.mp hx').1
      obtain ⟨u, e1, e2⟩ := r.get (List.getElem?_eq_getElem hi)
      rw [hx'] at e1
      cases e1
      exact ⟨_, List.getElem?_eq_getElem hi, e2⟩
  | s =>
    obtain ⟨z, rfl, rfl⟩ := hs
    obtain ⟨t, rfl⟩ := rv
    have hl : (z.cps.toList.map fun c => V.str ⟨#[c]⟩).length = z.cps.size := by rw [List.length_map, Array.length_toList]
    rw [hl]
    refine ⟨_, _, Draws.text hA it z t, fun i x => ?_, fun i h x => ⟨z, t, rfl, x⟩, fun i x hx => ?_⟩
    · obtain ⟨b, t', e, x⟩ := x
      cases e
      exact x
    · obtain ⟨c, u, e1, rfl⟩ := hx
      exact ⟨.str ⟨#[c]⟩, by rw [List.getElem?_map, Array.getElem?_toList, e1]; rfl, _, rfl⟩
end
/-- how iter(u) begins -/
def kO : SK → Value → Obj
  | .l, u => { cls := .type "list_iterator", data := .fields #[u, .int 0 0] }
  | .t, u => { cls := .type "tuple_iterator", data := .fields #[u, .int 0 0] }
  | .s, .str x t => { cls := .type (strIterType x), data := .fields #[.str x t, .int 0 0] }
  | .s, u => { cls := .type "tuple_iterator", data := .fields #[u, .int 0 0] }
section
variable {X : Cx} {pins : List (Addr × Obj)} {σ : Sl} {H : Hp} {s : Shared}
theorem begins_of (I : Inv X pins σ H s) {k : SK} {v : V} {u : Value} {vs : List V} (rv : RelV v u) (hs : SrcV X.K H k v vs) : ∃ C : Heap → Prop, Begins u (kO k u) C ∧ C s.heap ∧ (∀ (h : Heap) (it : Addr), h.get? it = some (kO k u) → ItAt k u it 0 h) ∧ ∀ b ∈ fpS k u, b < s.heap.objs.size := by
  cases k with
  | l =>
    obtain ⟨a, rfl, hq⟩ := hs
    cases rv
    obtain ⟨its, r, pl, _⟩ := I.list hq
    refine ⟨_, begins_list a its.toArray, pl.isList, fun h it e => ⟨a, rfl, _, e, rfl, rfl⟩, fun b hb => ?_⟩
    have e : b = a := by simpa [fpS] using hb
    subst e
    exact pl.lt
  | t =>
    obtain ⟨a, rfl, hq⟩ := hs
    cases rv
    obtain ⟨its, r, pl, _⟩ := I.tuple hq
    refine ⟨_, begins_tuple a its.toArray, pl, fun h it e => ⟨a, rfl, _, e, rfl, rfl⟩, fun b hb => ?_⟩
    have e : b = a := by simpa [fpS] using hb
    subst e
    obtain ⟨o, e, _⟩ := pl
    exact Heap.lt_size e
  | s =>
    obtain ⟨z, rfl, rfl⟩ := hs
    obtain ⟨t, rfl⟩ := rv
    exact ⟨_, begins_text z t, trivial, fun h it e => ⟨z, t, rfl, _, e, rfl, rfl⟩, fun b hb => by simp [fpS] at hb⟩
end

/-! ### enumerate -/
def Itn (K : PySem.W.Frag) (k : SK) (v : V) : It :=
  ⟨fun i H => ∃ vs, SrcV K H k v vs ∧ i < vs.length, fun i H x H' => ∃ T y, x = .ref T ∧ H T = none ∧ H' = upd H T (.tup [.int (i : Nat), y]) ∧ ∀ vs, SrcV K H k v vs → vs[i]? = some y, fun i H => ∃ vs, SrcV K H k v vs ∧ i = vs.length⟩
theorem turn_enumS {P : Program} {w : World} {K : PySem.W.Frag} {elts : List Expr} {kk : Nat} {tpos : Pos} {k : SK} {v : V} {u : Value} {e it : Addr} (rv : RelV v u) (hei : e ≠ it) (hfe : e ∉ fpS k u) (hfi : it ∉ fpS k u) :
    Turn P w K (.Tuple elts kk tpos) (Itn K k v) [e, it] e (fun i h => (∃ old, IsEnum h e it (0 + (i : Int)) old) ∧ ItAt k u it i h) where
  mem := by simp
  obj := fun i h st b hb => by
    obtain ⟨⟨old, h1⟩, h2⟩ := st
    have e' : b = e ∨ b = it := by simpa using hb
    rcases e' with rfl | rfl
    · exact ⟨_, h1, fun v z => nomatch z⟩
    · exact itAt_obj h2
  keep := fun i h h' st kp => by
    obtain ⟨⟨old, h1⟩, h2⟩ := st
    exact ⟨⟨old, kp e (by simp) _ h1⟩, itAt_at h2 fun o q => kp it (by simp) o q⟩
  item := by
    intro X hP hw hK hc i pins s σ H E I hf st hg
    subst hP hw hK
    obtain ⟨vs, hs, hlt⟩ := hg
    obtain ⟨⟨old, he⟩, hit⟩ := st
    obtain ⟨Pd, St, D, st0, st1, pd⟩ := draws_of (P := X.prog) (w := X.w) (A := X.A.in1) (I.ok.hd hc) I rv hs hfi
    have Gn := GoesN.enumFrom (elts := elts) (x1 := kk) (pos := tpos) 0 D e hei (by simp only [List.mem_cons, not_or]; exact ⟨hei, hfe⟩) (by simp)
    refine thn (Gn.goes i s (fun x s2 => ∃ y H', Inv X pins σ H' s2 ∧ RelV y x ∧ (Itn X.K k v).yld i H y H' ∧ ((∃ old, IsEnum s2.heap e it (0 + ((i + 1 : Nat) : Int)) old) ∧ ItAt k u it (i + 1) s2.heap) ∧ ∀ b ∈ [e, it], H' b = none) E hlt ⟨⟨old, he⟩, st0 i hit⟩ fun x h' tk hY hSt hk htk => ?_) fun r s1 hr => hr
    obtain ⟨T, t, z, rfl, hT, hz, hT2⟩ := hY
    obtain ⟨y, hy, ry⟩ := pd i z hz
    have new : ObjOk X.prog X.w (upd H T (.tup [.int (i : Nat), y])) h' T (.tup [.int (i : Nat), y]) :=
      ⟨by show 2 ≤ sizeLine; decide, [.int (0 + (i : Int)) t, z], .cons ⟨t, by rw [Int.zero_add]⟩ (.cons ry .nil), hT2⟩
    have I1 := I.turnedNew (t' := tk) (ch := [e, it]) (fun b o hb q => hk b o hb q) hf hT new
    refine ⟨.ref T, _, I1, rfl, ⟨T, y, rfl, I.hok.fresh hT, rfl, fun us hu => ?_⟩, ⟨hSt.1, st1 _ _ hSt.2⟩, fun b hb => ?_⟩
    · rw [srcV_inj I hu hs]
      exact hy
    · have hl : b < s.heap.objs.size := by
        have e' : b = e ∨ b = it := by simpa using hb
        rcases e' with rfl | rfl
        · exact Heap.lt_size he
        · obtain ⟨o, q, _⟩ := itAt_obj hit
          exact Heap.lt_size q
      rw [upd_ne (Nat.ne_of_lt (Nat.lt_of_lt_of_le hl hT))]
      exact (hf b hb).1
  done := by
    intro X hP hw hK hc i pins s σ H E I hf st hg
    subst hP hw hK
    obtain ⟨vs, hs, rfl⟩ := hg
    obtain ⟨⟨old, he⟩, hit⟩ := st
    obtain ⟨Pd, St, D, st0, st1, pd⟩ := draws_of (P := X.prog) (w := X.w) (A := X.A.in1) (I.ok.hd hc) I rv hs hfi
    have Gn := GoesN.enumFrom (elts := elts) (x1 := kk) (pos := tpos) 0 D e hei (by simp only [List.mem_cons, not_or]; exact ⟨hei, hfe⟩) (by simp)
    exact Gn.stops s (fun s1 => Inv X pins σ H s1) E ⟨⟨old, he⟩, st0 _ hit⟩ fun h' tk hk htk => I.turnedL (t' := tk) (ch := [e, it]) (fun b o hb q => hk b o hb q) hf
  self := fun A i s Q E st h => wpAny_pyIter_enum st.1.choose_spec h

theorem meets_enum1 {v : Value} {o : Obj} {H : Heap → Prop} (B : Begins v o H) :
    Meets (Builtin.«enumerate.__new__» ⟨[.type "enumerate", v], []⟩) (fun _ R s => H s.heap ∧
      R (.ok (.ret (.ref (s.heap.push o).objs.size))) { s with heap := (s.heap.push o).push { cls := .type "enumerate", data := .fields #[.none, .bool false, .ref s.heap.objs.size, rawInt 0, .none, .none] } }) :=
  .of_wp fun prog w A R s h => by
    obtain ⟨hp, g, d, tk, os⟩ := s
    obtain ⟨h1, h⟩ := h
    have hsub := sub_enumerate
    have q1 : ∀ {A' : Around} {E : Value → Shared → Prop} {Q : Value → Shared → Prop}, Q (.ref hp.objs.size) ⟨hp.push o, g, d, tk, os⟩ → wpAny (model prog w) A' (pyIter v) Q E ⟨hp, g, d, tk, os⟩ :=
      fun q => B.iter prog w _ _ ⟨hp, g, d, tk, os⟩ _ h1 q
    wp_walk using q1
    refine wpAny_stack_any fun st => wpAny_pure ?_
    split
    · rename_i c _ _ _ _ _
      cases (c == Value.type "enumerate")
      · wp_walk using q1
        exact ⟨_, rfl, h⟩
      · wp_walk using q1
        exact ⟨_, rfl, h⟩
    · wp_walk using q1
      exact ⟨_, rfl, h⟩
theorem enum_begins1 {prog : Program} {w : World} {A : Around} {E : Value → Shared → Prop} {s : Shared} {v : Value} {o : Obj} {H : Heap → Prop} {Q : Value → Shared → Prop} (B : Begins v o H) (h1 : H s.heap)
    (h : ∀ h', IsEnum h' (s.heap.objs.size + 1) s.heap.objs.size 0 .none → h'.get? s.heap.objs.size = some o → (∀ b o, s.heap.get? b = some o → h'.get? b = some o) → Q (.ref (s.heap.objs.size + 1)) { s with heap := h' }) :
    wpAny (model prog w) A (call (.type "enumerate") [v]) Q E s := by
  refine callType_new F.called_enumerate (by decide) (F.typeCall_enumerate_1 _) (F.newCall_enumerate_1 _) (fun obj => F.args_object_init_2 obj _) F.entry_enumerate_new (meets_enum1 B) ⟨h1, ?_⟩
  have hz : (s.heap.push o).objs.size = s.heap.objs.size + 1 := Heap.size_push ..
  show _ ∧ _
  rw [hz]
  have he : IsEnum ((s.heap.push o).push { cls := .type "enumerate", data := .fields #[.none, .bool false, .ref s.heap.objs.size, rawInt 0, .none, .none] }) (s.heap.objs.size + 1) s.heap.objs.size 0 .none := by
    have q := Heap.get?_push_size (s.heap.push o) (o := { cls := .type "enumerate", data := .fields #[.none, .bool false, .ref s.heap.objs.size, rawInt 0, .none, .none] }) rfl
    rw [hz] at q
    exact q
  exact ⟨⟨_, he, rfl⟩, h _ he (Heap.get?_push_of_some _ (Heap.get?_push_size _ B.free)) fun b o x => Heap.get?_push_of_some _ (Heap.get?_push_of_some _ x)⟩
def iEnumS (K : PySem.W.Frag) (ta : TA) : TI := fun σ H R => ta σ H fun vs H1 => ∃ v k us, vs = [v] ∧ SrcV K H1 k v us ∧ R (Itn K k v) H1
theorem pi_enumS {X : Cx} {e : Expr} {ta : TA} {p pos tpos : Pos} {elts : List Expr} {kk : Nat} (hm : X.mg "enumerate" = none) (ha : PA X [e] ta) (hg : Gl X "enumerate" := by rfl)
    (hs : starEach [e] X.env = (false, eval e X.env) :: starEach [] X.env := by exact star1 rfl) (hpl : (backTo pos (starEach [] X.env)).any (·.1) = false := by exact starP rfl) :
    PI X (.Tuple elts kk tpos) (.Call (.Name "enumerate" p) [e] [] pos) (iEnumS X.K ta) := by
  refine ⟨fun pins s σ H R I h => ?_⟩
  refine Call_ (ld_blt I hg hm (by decide +kernel) (PyProof.Rows.callWith_type1 (T := "enumerate") (thn (ha.run pos pins s σ H _ I h) fun us s1 ⟨vs, H1, I1, r1, q1⟩ => ?_) hs hpl))
  obtain ⟨v, k, ys, ex, hsrc, q1⟩ := q1
  subst ex
  obtain ⟨u, rfl, rv⟩ := vals1 r1
  obtain ⟨C, B, hC, hAt, hlt⟩ := begins_of I1 rv hsrc
  refine enum_begins1 B hC fun h' he hio hk => ?_
  have I2 : Inv X pins σ H1 { s1 with heap := h' } := I1.kept (t' := s1.toks) hk
  refine wpAny_pyIter_enum he ?_
  have nin : ∀ j, s1.heap.objs.size + j ∉ fpS k u := fun j hm => absurd (hlt _ hm) (Nat.not_lt.mpr (Nat.le_add_right _ _))
  refine ⟨s1.heap.objs.size + 1, [s1.heap.objs.size + 1, s1.heap.objs.size], _, _, H1, rfl, I2, turn_enumS rv (Nat.succ_ne_self _) (nin 1) (nin 0), ⟨⟨_, by rw [show (0 : Int) + ((0 : Nat) : Int) = 0 from rfl]; exact he⟩, hAt _ _ hio⟩, fun b hb => ?_, q1⟩
  have e' : b = s1.heap.objs.size + 1 ∨ b = s1.heap.objs.size := by simpa using hb
  have hle : s1.heap.objs.size ≤ b := by
    rcases e' with rfl | rfl
    · exact Nat.le_succ _
    · exact Nat.le_refl _
  exact I1.fpOk hle (I1.hok.fresh hle)

/-! ### zip of two -/
def Itz2 (K : PySem.W.Frag) (k k' : SK) (v v' : V) : It :=
  ⟨fun i H => ∃ vs us, SrcV K H k v vs ∧ SrcV K H k' v' us ∧ i < vs.length ∧ i < us.length,
    fun i H x H' => ∃ T y z, x = .ref T ∧ H T = none ∧ H' = upd H T (.tup [y, z]) ∧ (∀ vs, SrcV K H k v vs → vs[i]? = some y) ∧ ∀ us, SrcV K H k' v' us → us[i]? = some z,
    fun i H => ∃ vs us, SrcV K H k v vs ∧ SrcV K H k' v' us ∧ i = min vs.length us.length⟩
theorem turn_zipS {P : Program} {w : World} {K : PySem.W.Frag} {elts : List Expr} {kk : Nat} {tpos : Pos} {k k' : SK} {v v' : V} {u u' : Value} {N : Addr} (rv : RelV v u) (rv' : RelV v' u') (h1 : ∀ b ∈ fpS k u, b < N) (h2 : ∀ b ∈ fpS k' u', b < N) :
    Turn P w K (.Tuple elts kk tpos) (Itz2 K k k' v v') [N + 4, N + 2, N + 3, N, N + 1] (N + 4) (fun i h => IsZip h (N + 4) (N + 2) (N + 3) .none ∧ IsTupOf2 h (N + 2) (.ref N) (.ref (N + 1)) ∧ (∃ a1 a2, IsTupOf2 h (N + 3) a1 a2) ∧ ItAt k u N i h ∧ ItAt k' u' (N + 1) i h) where
  mem := by simp
  obj := fun i h st b hb => by
    obtain ⟨hz, hTI, ⟨x, y, hTO⟩, ha, hb'⟩ := st
    have e' : b = N + 4 ∨ b = N + 2 ∨ b = N + 3 ∨ b = N ∨ b = N + 1 := by simpa using hb
    rcases e' with q | q | q | q | q
    · rw [q]; exact ⟨_, hz, fun v z => nomatch z⟩
    · rw [q]; exact ⟨_, hTI, fun v z => nomatch z⟩
    · rw [q]; exact ⟨_, hTO, fun v z => nomatch z⟩
    · rw [q]; exact itAt_obj ha
    · rw [q]; exact itAt_obj hb'
  keep := fun i h h' st kp => by
    obtain ⟨hz, hTI, ⟨x, y, hTO⟩, ha, hb⟩ := st
    exact ⟨kp _ (by simp) _ hz, kp _ (by simp) _ hTI, ⟨x, y, kp _ (by simp) _ hTO⟩, itAt_at ha fun o q => kp _ (by simp) o q, itAt_at hb fun o q => kp _ (by simp) o q⟩
  item := by
    intro X hP hw hK hc i pins s σ H E I hf st hg
    subst hP hw hK
    obtain ⟨vs, us, hs, hs', hlt, hlt'⟩ := hg
    obtain ⟨hz, hTI, hTO, ha, hb⟩ := st
    obtain ⟨Pd, St, D, st0, st1, pd⟩ := draws_of (P := X.prog) (w := X.w) (A := X.A.in1) (it := N) (I.ok.hd hc) I rv hs (fun z => absurd (h1 _ z) (Nat.lt_irrefl _))
    obtain ⟨Pd', St', D', st0', st1', pd'⟩ := draws_of (P := X.prog) (w := X.w) (A := X.A.in1) (it := N + 1) (I.ok.hd hc) I rv' hs' (fun z => absurd (Nat.lt_of_succ_lt (h2 _ z)) (Nat.lt_irrefl _))
    have Gn := GoesN.zip2 (elts := elts) (x1 := kk) (pos := tpos) (zip_sep2 h1 h2) D D'
    refine thn (Gn.goes i s (fun x s2 => ∃ y H', Inv X pins σ H' s2 ∧ RelV y x ∧ (Itz2 X.K k k' v v').yld i H y H' ∧ (IsZip s2.heap (N + 4) (N + 2) (N + 3) .none ∧ IsTupOf2 s2.heap (N + 2) (.ref N) (.ref (N + 1)) ∧ (∃ a1 a2, IsTupOf2 s2.heap (N + 3) a1 a2) ∧ ItAt k u N (i + 1) s2.heap ∧ ItAt k' u' (N + 1) (i + 1) s2.heap) ∧ ∀ b ∈ [N + 4, N + 2, N + 3, N, N + 1], H' b = none) E (by omega) ⟨hz, hTI, hTO, st0 i ha, st0' i hb⟩ fun x h' tk hY hSt hk htk => ?_) fun r s1 hr => hr
    obtain ⟨T, x1, x2, rfl, hT, hx1, hx2, hT2⟩ := hY
    obtain ⟨y1, hy1, ry1⟩ := pd i x1 hx1
    obtain ⟨y2, hy2, ry2⟩ := pd' i x2 hx2
    have new : ObjOk X.prog X.w (upd H T (.tup [y1, y2])) h' T (.tup [y1, y2]) := ⟨by show 2 ≤ sizeLine; decide, [x1, x2], .cons ry1 (.cons ry2 .nil), hT2⟩
    have I1 := I.turnedNew (t' := tk) (ch := [N + 4, N + 3, N, N + 1]) (fun b o hb q => hk b o hb q) (fun b hb => hf b (by
      have e' : b = N + 4 ∨ b = N + 3 ∨ b = N ∨ b = N + 1 := by simpa using hb
      rcases e' with q | q | q | q <;> simp [q])) hT new
    refine ⟨.ref T, _, I1, rfl, ⟨T, y1, y2, rfl, I.hok.fresh hT, rfl, fun ws hw => ?_, fun ws hw => ?_⟩, ⟨hSt.1, hSt.2.1, hSt.2.2.1, st1 _ _ hSt.2.2.2.1, st1' _ _ hSt.2.2.2.2⟩, fun b hb => ?_⟩
    · rw [srcV_inj I hw hs]
      exact hy1
    · rw [srcV_inj I hw hs']
      exact hy2
    · have hl : b < s.heap.objs.size := by
        have e' : b = N + 4 ∨ b = N + 2 ∨ b = N + 3 ∨ b = N ∨ b = N + 1 := by simpa using hb
        have h4 : N + 4 < s.heap.objs.size := Heap.lt_size hz
        rcases e' with rfl | rfl | rfl | rfl | rfl
        · exact h4
        · exact Nat.lt_trans (Nat.add_lt_add_left (by decide) N) h4
        · exact Nat.lt_trans (Nat.add_lt_add_left (by decide) N) h4
        · exact Nat.lt_of_le_of_lt (Nat.le_add_right _ 4) h4
        · exact Nat.lt_trans (Nat.add_lt_add_left (by decide) N) h4
      rw [upd_ne (Nat.ne_of_lt (Nat.lt_of_lt_of_le hl hT))]
      exact (hf b hb).1
  done := by
    intro X hP hw hK hc i pins s σ H E I hf st hg
    subst hP hw hK
    obtain ⟨vs, us, hs, hs', rfl⟩ := hg
    obtain ⟨hz, hTI, hTO, ha, hb⟩ := st
    obtain ⟨Pd, St, D, st0, st1, pd⟩ := draws_of (P := X.prog) (w := X.w) (A := X.A.in1) (it := N) (I.ok.hd hc) I rv hs (fun z => absurd (h1 _ z) (Nat.lt_irrefl _))
    obtain ⟨Pd', St', D', st0', st1', pd'⟩ := draws_of (P := X.prog) (w := X.w) (A := X.A.in1) (it := N + 1) (I.ok.hd hc) I rv' hs' (fun z => absurd (Nat.lt_of_succ_lt (h2 _ z)) (Nat.lt_irrefl _))
    have Gn := GoesN.zip2 (elts := elts) (x1 := kk) (pos := tpos) (zip_sep2 h1 h2) D D'
    exact Gn.stops s (fun s1 => Inv X pins σ H s1) E ⟨hz, hTI, hTO, st0 _ ha, st0' _ hb⟩ fun h' tk hk htk => I.turnedL (t' := tk) (ch := [N + 4, N + 3, N, N + 1]) (fun b o hb q => hk b o hb q) (fun b hb => hf b (by
      have e' : b = N + 4 ∨ b = N + 3 ∨ b = N ∨ b = N + 1 := by simpa using hb
      rcases e' with q | q | q | q <;> simp [q]))
  self := fun A i s Q E st h => wpAny_pyIter_zip st.1 h
def iZipS (K : PySem.W.Frag) (ta : TA) : TI := fun σ H R => ta σ H fun vs H1 => ∃ v v' k k' us us', vs = [v, v'] ∧ SrcV K H1 k v us ∧ SrcV K H1 k' v' us' ∧ R (Itz2 K k k' v v') H1
theorem pi_zipS {X : Cx} {e e2 : Expr} {ta : TA} {p pos tpos : Pos} {elts : List Expr} {kk : Nat} (hm : X.mg "zip" = none) (ha : PA X [e, e2] ta) (hg : Gl X "zip" := by rfl)
    (hs : starEach [e, e2] X.env = (false, eval e X.env) :: starEach [e2] X.env := by exact star1 rfl) (hpl : (backTo pos (starEach [e2] X.env)).any (·.1) = false := by exact starP rfl) :
    PI X (.Tuple elts kk tpos) (.Call (.Name "zip" p) [e, e2] [] pos) (iZipS X.K ta) := by
  refine ⟨fun pins s σ H R I h => ?_⟩
  refine Call_ (ld_blt I hg hm PyProof.Rows.boot_zip (PyProof.Rows.callWith_type1 (thn (ha.run pos pins s σ H _ I h) fun us s1 ⟨vs, H1, I1, r1, q1⟩ => ?_) hs hpl))
  obtain ⟨v, v', k, k', ys, ys', ex, hsrc, hsrc', q1⟩ := q1
  subst ex
  obtain ⟨u, u', rfl, rv, rv'⟩ := vals2 r1
  obtain ⟨C, B, hC, hAt, hlt⟩ := begins_of I1 rv hsrc
  obtain ⟨C', B', hC', hAt', hlt'⟩ := begins_of I1 rv' hsrc'
  refine zip_begins2 B B' hC hC' fun h' hz hTI hTO ho1 ho2 hsz hk => wpAny_pyIter_zip hz ?_
  have I2 : Inv X pins σ H1 { s1 with heap := h' } := I1.kept (t' := s1.toks) hk
  refine ⟨s1.heap.objs.size + 4, [s1.heap.objs.size + 4, s1.heap.objs.size + 2, s1.heap.objs.size + 3, s1.heap.objs.size, s1.heap.objs.size + 1], _, _, H1, rfl, I2, turn_zipS rv rv' hlt hlt', ⟨hz, hTI, ⟨_, _, hTO⟩, hAt _ _ ho1, hAt' _ _ ho2⟩, fun c hcm => ?_, q1⟩
  have e' : c = s1.heap.objs.size + 4 ∨ c = s1.heap.objs.size + 2 ∨ c = s1.heap.objs.size + 3 ∨ c = s1.heap.objs.size ∨ c = s1.heap.objs.size + 1 := by simpa using hcm
  have hle : s1.heap.objs.size ≤ c := by
    rcases e' with z | z | z | z | z
    · rw [z]; exact Nat.le_add_right _ _
    · rw [z]; exact Nat.le_add_right _ _
    · rw [z]; exact Nat.le_add_right _ _
    · rw [z]; exact Nat.le_refl _
    · rw [z]; exact Nat.le_add_right _ _
  exact I1.fpOk hle (I1.hok.fresh hle)
end ML


set_option Elab.async false
set_option linter.all false
set_option maxRecDepth 100000
set_option autoImplicit false
set_option maxHeartbeats 4000000
namespace ML
open PySem PySem.Spec PyProof.Rows L2

/-! ## what a loop walks: its items, and the lists of the store that must stay meanwhile -/
structure Src where
  items : List D
  deps : List (Nat × List D)
def Src.live (c : Src) (S : Sto) : Bool := c.deps.all fun p => match S[p.1]? with
  | some (.lst ds) => beqL ds p.2
  | _ => false
structure SrcOk (K : PySem.W.Frag) (mg : Str → Option Value) (g0 : G) (c : Src) (J : It) : Prop where
  goes : ∀ (i : Nat) (H : Hp) (S : Sto) (g : G), g0.ext g → Rel K mg g H S → c.live S = true → i < c.items.length → J.go i H
  stops : ∀ (H : Hp) (S : Sto) (g : G), g0.ext g → Rel K mg g H S → c.live S = true → J.stop c.items.length H
  yields : ∀ (i : Nat) (H : Hp) (v : V) (H' : Hp) (S : Sto) (g : G) (d : D), g0.ext g → Rel K mg g H S → c.live S = true → c.items[i]? = some d → J.yld i H v H' → ∃ g', g.le g' ∧ Rel K mg g' H' S ∧ Rep K mg g' d v
section
variable {K : PySem.W.Frag} {mg : Str → Option Value} {g0 g : G} {H : Hp} {S : Sto}
theorem SrcOk.le {g1 : G} {c : Src} {J : It} (h : SrcOk K mg g0 c J) (l : g0.le g1) : SrcOk K mg g1 c J :=
  ⟨fun i H S g k => h.goes i H S g (l.ext.trans k), fun H S g k => h.stops H S g (l.ext.trans k), fun i H v H' S g d k => h.yields i H v H' S g d (l.ext.trans k)⟩
/-- where a value is drawn from, and what must stay -/
def drawn (S : Sto) : D → Option Src
  | .tup ds => some ⟨ds, []⟩
  | .str z => some ⟨z.cps.toList.map fun c => .str ⟨#[c]⟩, []⟩
  | .lst ds => some ⟨ds, []⟩
  | .rol ds => some ⟨ds, []⟩
  | .ref n => match S[n]? with
    | some (.lst ds) => some ⟨ds, [(n, ds)]⟩
    | _ => none
  | _ => none
theorem live_dep {n : Nat} {ds : List D} {c : Src} (h : c.live S = true) (m : (n, ds) ∈ c.deps) : S[n]? = some (.lst ds) := by
  unfold Src.live at h
  rw [List.all_eq_true] at h
  have q := h _ m
  split at q
  · rename_i es he
    rw [he, of_beqL q]
  · cases q
theorem repChars {g : G} : ∀ l : List Nat, RepL K mg g (l.map fun c => D.str ⟨#[c]⟩) (l.map fun c => V.str ⟨#[c]⟩)
  | [] => .nil
  | _ :: l => .cons (.str _) (repChars l)
/-- the items of a drawn value stand at every later moment at which the deps stand -/
theorem drawn_src {d : D} {v : V} {c : Src} (rl : Rel K mg g0 H S) (r : Rep K mg g0 d v) (h : drawn S d = some c) :
    ∃ k, ∀ (g : G) (H' : Hp) (S' : Sto), g0.ext g → Rel K mg g H' S' → c.deps.all (fun p => match S'[p.1]? with | some (.lst ds) => beqL ds p.2 | _ => false) = true → ∃ vs, SrcV K H' k v vs ∧ RepL K mg g c.items vs := by
  cases d with
  | tup ds =>
    simp only [drawn, Option.some.injEq] at h
    subst h
    refine ⟨.t, fun g H' S' l rl' _ => ?_⟩
    obtain ⟨a, vs, rfl, h1, h2⟩ := tup_rep rl' (r.ext l)
    exact ⟨vs, ⟨a, rfl, h1⟩, h2⟩
  | str z =>
    simp only [drawn, Option.some.injEq] at h
    subst h
    cases r
    exact ⟨.s, fun g H' S' l rl' _ => ⟨_, ⟨z, rfl, rfl⟩, repChars _⟩⟩
  | lst ds =>
    simp only [drawn, Option.some.injEq] at h
    subst h
    refine ⟨.l, fun g H' S' l rl' _ => ?_⟩
    obtain ⟨a, vs, rfl, h1, h2⟩ := seqOf_rep (ds := ds) rl' (r.ext l) rfl
    exact ⟨vs, ⟨a, rfl, h1⟩, h2⟩
  | rol ds =>
    simp only [drawn, Option.some.injEq] at h
    subst h
    refine ⟨.l, fun g H' S' l rl' _ => ?_⟩
    obtain ⟨a, vs, rfl, h1, h2⟩ := seqOf_rep (ds := ds) rl' (r.ext l) rfl
    exact ⟨vs, ⟨a, rfl, h1⟩, h2⟩
  | ref n =>
    simp only [drawn] at h
    split at h
    · rename_i ds hn
      simp only [Option.some.injEq] at h
      subst h
      refine ⟨.l, fun g H' S' l rl' hl => ?_⟩
      have e : S'[n]? = some (.lst ds) := live_dep (c := ⟨ds, [(n, ds)]⟩) hl (by simp)
      obtain ⟨a, vs, rfl, h1, h2⟩ := seqOf_rep (ds := ds) rl' (r.ext l) (by simp only [seqOf, e])
      exact ⟨vs, ⟨a, rfl, h1⟩, h2⟩
    · cases h
  | _ => simp [drawn] at h
theorem drawn_live {S : Sto} {d : D} {c : Src} (h : drawn S d = some c) : c.live S = true := by
  cases d with
  | tup ds => simp only [drawn, Option.some.injEq] at h; subst h; rfl
  | str ds => simp only [drawn, Option.some.injEq] at h; subst h; rfl
  | lst ds => simp only [drawn, Option.some.injEq] at h; subst h; rfl
  | rol ds => simp only [drawn, Option.some.injEq] at h; subst h; rfl
  | ref n =>
    simp only [drawn] at h
    split at h
    · rename_i ds hn
      simp only [Option.some.injEq] at h
      subst h
      simp only [Src.live, List.all_cons, List.all_nil, Bool.and_true, hn]
      exact beqL_self ds
    · cases h
  | _ => simp [drawn] at h
/-- the judgement: what is walked -/
def IM (X : Cx) (W : WX) (tg iter : Expr) (m : M Src) : Prop := ∀ (g : G) (σ : Sl) (H : Hp) (ev : Ev) (S : Sto) (R : It → Hp → Prop), Rel X.K X.mg g H S → EvR X.K X.mg X.pn g ev σ → Post X.K X.mg (fun g c J => SrcOk X.K X.mg g c J) W σ g (m ev S) R →
  ∀ (pins : List (Addr × Obj)) (s : Shared), Inv X pins σ H s → wpAny (model X.prog X.w) X.A (eval iter X.env) (fun v s1 => wpAny (model X.prog X.w) X.A (pyIter v) (PIE X pins σ tg R) X.xe s1) X.xe s
theorem imP {X : Cx} {W : WX} {tg iter : Expr} {m : M Src} (h : IM X W tg iter m) : ∀ (g : G) (ev : Ev) (S : Sto), PI X tg iter (fun σ H R => Rel X.K X.mg g H S ∧ EvR X.K X.mg X.pn g ev σ ∧ Post X.K X.mg (fun g c J => SrcOk X.K X.mg g c J) W σ g (m ev S) R) :=
  fun g ev S => ⟨fun pins s σ H R I q => h g σ H ev S R q.1 q.2.1 q.2.2 pins s I⟩
end
def asSrc : D → Sto → R Src := fun d S => match drawn S d with
  | some c => .ok c S
  | none => .no
def mSrc (ma : M D) : M Src := fun ev S => (ma ev S).bind asSrc
section
variable {X : Cx} {W : WX} {tg iter a b : Expr} {ma mb mc : M D} {pos p0 tpos : Pos} {ml : M (List D)}
theorem pi_or {w1 w2 : TI} (h1 : PI X tg iter w1) (h2 : PI X tg iter w2) : PI X tg iter (fun σ H R => w1 σ H R ∨ w2 σ H R) := ⟨fun pins s σ H R I q => by
  rcases q with q | q
  · exact h1.run pins s σ H R I q
  · exact h2.run pins s σ H R I q⟩
theorem srcOk_list {g : G} {c : Src} {a : Addr} (hk : ∀ (g' : G) (H' : Hp) (S' : Sto), g.ext g' → Rel X.K X.mg g' H' S' → c.live S' = true → ∃ vs, SqL X.K H' a vs ∧ RepL X.K X.mg g' c.items vs) : SrcOk X.K X.mg g c (Itl X.K a) := by
  refine ⟨fun i H' S' g' l rl hl hi => ?_, fun H' S' g' l rl hl => ?_, fun i H' w H2 S' g' d l rl hl hi hy => ?_⟩
  · obtain ⟨vs, h1, h2⟩ := hk g' H' S' l rl hl
    exact walk_list.goes i H' (by rw [← h2.length]; exact hi) h1
  · obtain ⟨vs, h1, h2⟩ := hk g' H' S' l rl hl
    rw [h2.length]
    exact walk_list.stops H' h1
  · obtain ⟨vs, h1, h2⟩ := hk g' H' S' l rl hl
    obtain ⟨w', e1, e2⟩ := h2.get hi
    have hlt : i < vs.length := (List.getElem?_eq_some_iff.mp e1).1
    obtain ⟨rfl, e3⟩ := walk_list.yields i H' w H2 hlt h1 hy
    rw [e1] at e3
    cases e3
    exact ⟨g', G.le.refl g', rl, e2⟩
theorem srcOk_tup {g : G} {c : Src} {a : Addr} (hk : ∀ (g' : G) (H' : Hp) (S' : Sto), g.ext g' → Rel X.K X.mg g' H' S' → c.live S' = true → ∃ vs, SqT X.K H' a vs ∧ RepL X.K X.mg g' c.items vs) : SrcOk X.K X.mg g c (Itt X.K a) := by
  refine ⟨fun i H' S' g' l rl hl hi => ?_, fun H' S' g' l rl hl => ?_, fun i H' w H2 S' g' d l rl hl hi hy => ?_⟩
  · obtain ⟨vs, h1, h2⟩ := hk g' H' S' l rl hl
    exact walk_tup.goes i H' (by rw [← h2.length]; exact hi) h1
  · obtain ⟨vs, h1, h2⟩ := hk g' H' S' l rl hl
    rw [h2.length]
    exact walk_tup.stops H' h1
  · obtain ⟨vs, h1, h2⟩ := hk g' H' S' l rl hl
    obtain ⟨w', e1, e2⟩ := h2.get hi
    have hlt : i < vs.length := (List.getElem?_eq_some_iff.mp e1).1
    obtain ⟨rfl, e3⟩ := walk_tup.yields i H' w H2 hlt h1 hy
    rw [e1] at e3
    cases e3
    exact ⟨g', G.le.refl g', rl, e2⟩
/-- any list, tuple or text -/
theorem im_seq (ha : EM X W a ma) : IM X W tg a (mSrc ma) := by
  intro g σ H ev S R rl er hP pins s I
  have ho := PI.run (pi_or (pi_or (pi_list (tg := tg) (peW X a)) (pi_tup (tg := tg) (peW X a))) (pi_str (tg := tg) (peW X a))) pins s σ H R I
  cases e : ma ev S with
  | ok d S1 =>
    have hP2 : Post X.K X.mg (fun g c J => SrcOk X.K X.mg g c J) W σ g (asSrc d S1) R := by
      have q : Post X.K X.mg (fun g c J => SrcOk X.K X.mg g c J) W σ g ((ma ev S).bind asSrc) R := hP
      rw [e] at q
      exact q
    have ee := ha g σ H ev S
    rw [e] at ee
    unfold asSrc at hP2
    cases ed : drawn S1 d with
    | none => rw [ed] at hP2; exact hP2.elim
    | some c =>
      rw [ed] at hP2
      have lst : (∀ (g1 : G) (v : V) (H1 : Hp), g.le g1 → Rel X.K X.mg g1 H1 S1 → Rep X.K X.mg g1 d v → ∃ a, v = .ref a ∧ (∃ vs, SqL X.K H1 a vs) ∧ R (Itl X.K a) H1) → wpAny (model X.prog X.w) X.A (eval a X.env) (fun v s1 => wpAny (model X.prog X.w) X.A (pyIter v) (PIE X pins σ tg R) X.xe s1) X.xe s :=
        fun q => ho (.inl (.inl (ee _ rl er fun g1 v H1 l1 rl1 rx => q g1 v H1 l1 rl1 rx)))
      have tup : (∀ (g1 : G) (v : V) (H1 : Hp), g.le g1 → Rel X.K X.mg g1 H1 S1 → Rep X.K X.mg g1 d v → ∃ a, v = .ref a ∧ (∃ vs, SqT X.K H1 a vs) ∧ R (Itt X.K a) H1) → wpAny (model X.prog X.w) X.A (eval a X.env) (fun v s1 => wpAny (model X.prog X.w) X.A (pyIter v) (PIE X pins σ tg R) X.xe s1) X.xe s :=
        fun q => ho (.inl (.inr (ee _ rl er fun g1 v H1 l1 rl1 rx => q g1 v H1 l1 rl1 rx)))
      have isL : (∃ ds, seqOf S1 d = some ds) → (∀ ds, seqOf S1 d = some ds → ∀ S', c.live S' = true → seqOf S' d = some ds ∧ c.items = ds) → wpAny (model X.prog X.w) X.A (eval a X.env) (fun v s1 => wpAny (model X.prog X.w) X.A (pyIter v) (PIE X pins σ tg R) X.xe s1) X.xe s := by
        rintro ⟨ds, hd⟩ hs
        refine lst fun g1 v H1 l1 rl1 rx => ?_
        obtain ⟨p, vs, rfl, h1, h2⟩ := seqOf_rep rl1 rx hd
        refine ⟨p, rfl, ⟨vs, h1⟩, hP2 g1 _ H1 l1 rl1 (srcOk_list fun g' H' S' l' rl' hl' => ?_)⟩
        obtain ⟨e1, e2⟩ := hs ds hd S' hl'
        obtain ⟨p', vs', e3, h3, h4⟩ := seqOf_rep rl' (rx.ext l') e1
        cases e3
        rw [e2]
        exact ⟨vs', h3, h4⟩
      cases d with
      | tup ds =>
        simp only [drawn, Option.some.injEq] at ed
        subst ed
        refine tup fun g1 v H1 l1 rl1 rx => ?_
        obtain ⟨p, vs, rfl, h1, h2⟩ := tup_rep rl1 rx
        refine ⟨p, rfl, ⟨vs, h1⟩, hP2 g1 _ H1 l1 rl1 (srcOk_tup fun g' H' S' l' rl' hl' => ?_)⟩
        obtain ⟨p', vs', e3, h3, h4⟩ := tup_rep rl' (rx.ext l')
        cases e3
        exact ⟨vs', h3, h4⟩
      | str z =>
        simp only [drawn, Option.some.injEq] at ed
        subst ed
        refine ho (.inr (ee _ rl er fun g1 v H1 l1 rl1 rx => ?_))
        cases rx
        refine ⟨z, rfl, hP2 g1 _ H1 l1 rl1 ⟨fun i H' S' g' l rl hl hi => ?_, fun H' S' g' l rl hl => ?_, fun i H' w H2 S' g' d l rl hl hi hy => ?_⟩⟩
        · exact walk_str.goes i H' (by simpa using hi) trivial
        · have e : (z.cps.toList.map fun c => D.str ⟨#[c]⟩).length = z.cps.size := by rw [List.length_map, Array.length_toList]
          show (Its z).stop (z.cps.toList.map fun c => D.str ⟨#[c]⟩).length H'
          rw [e]
          exact walk_str.stops H' trivial
        · have hi' : (z.cps.toList.map fun c => D.str ⟨#[c]⟩)[i]? = some d := hi
          rw [List.getElem?_map, Array.getElem?_toList] at hi'
          cases e0 : z.cps[i]? with
          | none => rw [e0] at hi'; cases hi'
          | some c =>
            rw [e0] at hi'
            simp only [Option.map_some, Option.some.injEq] at hi'
            subst hi'
            have hlt : i < z.cps.size := (Array.getElem?_eq_some_iff.mp e0).1
            obtain ⟨rfl, c', e3, rfl⟩ := walk_str.yields i H' w H2 hlt trivial hy
            rw [e0] at e3
            cases e3
            exact ⟨g', G.le.refl g', rl, .str _⟩
      | lst ds =>
        simp only [drawn, Option.some.injEq] at ed
        subst ed
        exact isL ⟨ds, rfl⟩ (fun es he S' _ => ⟨he, by simpa [seqOf] using he⟩)
      | rol ds =>
        simp only [drawn, Option.some.injEq] at ed
        subst ed
        exact isL ⟨ds, rfl⟩ (fun es he S' _ => ⟨he, by simpa [seqOf] using he⟩)
      | ref n =>
        simp only [drawn] at ed
        split at ed
        · rename_i ds hn
          simp only [Option.some.injEq] at ed
          subst ed
          refine isL ⟨ds, by simp only [seqOf, hn]⟩ (fun es he S' hl' => ?_)
          have e1 : S'[n]? = some (.lst ds) := live_dep hl' (by simp)
          simp only [seqOf, hn, Option.some.injEq] at he
          subst he
          exact ⟨by simp only [seqOf, e1], rfl⟩
        · cases ed
      | _ => simp [drawn] at ed
  | ex x S1 =>
    have hx := ha g σ H ev S
    rw [e] at hx
    have hP2 : Post X.K X.mg (fun g c J => SrcOk X.K X.mg g c J) W σ g ((ma ev S).bind asSrc) R := hP
    rw [e] at hP2
    refine ho (.inl (.inl (hx _ rl er hP2)))
  | no =>
    have hP2 : Post X.K X.mg (fun g c J => SrcOk X.K X.mg g c J) W σ g ((ma ev S).bind asSrc) R := hP
    rw [e] at hP2
    exact hP2.elim

/-! ### ranges -/
def rangeD (lo : Int) (n : Nat) : List D := (List.range n).map fun (i : Nat) => D.int (lo + i)
def inR (i : Int) : Prop := -(2 ^ 62) ≤ i ∧ i < 2 ^ 62
instance (i : Int) : Decidable (inR i) := by unfold inR; infer_instance
def asRange1 : List D → Sto → R Src := fun xs S => match xs with
  | [.int j] => if inR j then .ok ⟨rangeD 0 j.toNat, []⟩ S else .no
  | _ => .no
def asRange2 : List D → Sto → R Src := fun xs S => match xs with
  | [.int i, .int j] => if inR i ∧ inR j then .ok ⟨rangeD i (j - i).toNat, []⟩ S else .no
  | _ => .no
def mRange1 (ml : M (List D)) : M Src := fun ev S => (ml ev S).bind asRange1
def mRange2 (ml : M (List D)) : M Src := fun ev S => (ml ev S).bind asRange2
theorem srcOk_range {g : G} {lo : Int} {n : Nat} : SrcOk X.K X.mg g ⟨rangeD lo n, []⟩ (Itr lo n) := by
  have e : (rangeD lo n).length = n := by unfold rangeD; rw [List.length_map, List.length_range]
  refine ⟨fun i H' S' g' l rl hl hi => walk_range.goes i H' (by rw [← e]; exact hi) trivial, fun H' S' g' l rl hl => ?_, fun i H' w H2 S' g' d l rl hl hi hy => ?_⟩
  · show (Itr lo n).stop (rangeD lo n).length H'
    rw [e]
    exact walk_range.stops H' trivial
  · have hi' : (rangeD lo n)[i]? = some d := hi
    have hlt : i < n := by
      have := (List.getElem?_eq_some_iff.mp hi').1
      rwa [e] at this
    obtain ⟨rfl, rfl⟩ := walk_range.yields i H' w H2 hlt trivial hy
    unfold rangeD at hi'
    rw [List.getElem?_map, List.getElem?_range hlt] at hi'
    simp only [Option.map_some, Option.some.injEq] at hi'
    subst hi'
    exact ⟨g', G.le.refl g', rl, .int _⟩
theorem im_range1 (hm : X.mg "range" = none) (ha : AM X W [a] ml) (hg : Gl X "range" := by rfl) (hs : starEach [a] X.env = [(false, eval a X.env)] := by exact star1n rfl) : IM X W tg (.Call (.Name "range" p0) [a] [] pos) (mRange1 ml) := by
  intro g σ H ev S R rl er hP pins s I
  refine (pi_range1 hg hm (paW X [a]) hs).run pins s σ H R I (ha g σ H ev S _ rl er (Post.bind hP fun g1 xs S1 vs H1 l1 rl1 rx hP1 => ?_))
  unfold asRange1 at hP1
  split at hP1
  · split at hP1
    · rename_i j hz
      obtain ⟨v, rfl, r⟩ := rep1 rx
      cases r
      exact ⟨_, rfl, hz.1, hz.2, hP1 g1 _ H1 (G.le.refl g1) rl1 srcOk_range⟩
    · exact hP1.elim
  · exact hP1.elim
theorem im_range2 (hm : X.mg "range" = none) (ha : AM X W [a, b] ml) (hg : Gl X "range" := by rfl) (hs : starEach [a, b] X.env = [(false, eval a X.env), (false, eval b X.env)] := by exact star2n rfl rfl) (hs2 : starEach [b] X.env = [(false, eval b X.env)] := by exact star1n rfl) :
    IM X W tg (.Call (.Name "range" p0) [a, b] [] pos) (mRange2 ml) := by
  intro g σ H ev S R rl er hP pins s I
  refine (pi_range2 hg hm (paW X [a, b]) hs hs2).run pins s σ H R I (ha g σ H ev S _ rl er (Post.bind hP fun g1 xs S1 vs H1 l1 rl1 rx hP1 => ?_))
  unfold asRange2 at hP1
  split at hP1
  · split at hP1
    · rename_i j hz
      obtain ⟨v, u, rfl, r, r'⟩ := rep2 rx
      cases r
      cases r'
      exact ⟨_, _, rfl, ⟨hz.1.1, hz.1.2, hz.2.1, hz.2.2⟩, hP1 g1 _ H1 (G.le.refl g1) rl1 srcOk_range⟩
    · exact hP1.elim
  · exact hP1.elim

/-! ### enumerate, zip -/
def enumD : Nat → List D → List D
  | _, [] => []
  | n, d :: ds => .tup [.int n, d] :: enumD (n + 1) ds
def zipD : List D → List D → List D
  | a :: as, b :: bs => .tup [a, b] :: zipD as bs
  | _, _ => []
def asEnum : List D → Sto → R Src := fun xs S => match xs with
  | [d] => match drawn S d with
    | some c => .ok ⟨enumD 0 c.items, c.deps⟩ S
    | none => .no
  | _ => .no
def asZip : List D → Sto → R Src := fun xs S => match xs with
  | [d, e] => match drawn S d, drawn S e with
    | some c, some c' => .ok ⟨zipD c.items c'.items, c.deps ++ c'.deps⟩ S
    | _, _ => .no
  | _ => .no
def mEnum (ml : M (List D)) : M Src := fun ev S => (ml ev S).bind asEnum
def mZip (ml : M (List D)) : M Src := fun ev S => (ml ev S).bind asZip
theorem enumD_len : ∀ (ds : List D) (n : Nat), (enumD n ds).length = ds.length
  | [], _ => rfl
  | d :: ds, n => by show (enumD (n + 1) ds).length + 1 = ds.length + 1; rw [enumD_len ds]
theorem enumD_get : ∀ (ds : List D) (n i : Nat) (d : D), (enumD n ds)[i]? = some d → ∃ e, ds[i]? = some e ∧ d = .tup [.int ((n + i : Nat) : Int), e]
  | [], _, _, _, h => by simp [enumD] at h
  | x :: ds, n, 0, d, h => by simp [enumD] at h; exact ⟨x, rfl, h.symm⟩
  | x :: ds, n, i + 1, d, h => by
    obtain ⟨e, e1, e2⟩ := enumD_get ds (n + 1) i d (by simpa [enumD] using h)
    exact ⟨e, by simpa using e1, by rw [e2, Nat.add_assoc, Nat.add_comm 1 i]⟩
theorem zipD_len : ∀ (as bs : List D), (zipD as bs).length = min as.length bs.length
  | [], _ => by simp [zipD]
  | _ :: _, [] => by simp [zipD]
  | a :: as, b :: bs => by show (zipD as bs).length + 1 = _; rw [zipD_len as bs]; simp only [List.length_cons]; omega
theorem zipD_get : ∀ (as bs : List D) (i : Nat) (d : D), (zipD as bs)[i]? = some d → ∃ x y, as[i]? = some x ∧ bs[i]? = some y ∧ d = .tup [x, y]
  | [], _, _, _, h => by simp [zipD] at h
  | _ :: _, [], _, _, h => by simp [zipD] at h
  | a :: as, b :: bs, 0, d, h => by simp [zipD] at h; exact ⟨a, b, rfl, rfl, h.symm⟩
  | a :: as, b :: bs, i + 1, d, h => by
    obtain ⟨x, y, e1, e2, e3⟩ := zipD_get as bs i d (by simpa [zipD] using h)
    exact ⟨x, y, by simpa using e1, by simpa using e2, e3⟩
theorem rep_pair {K : PySem.W.Frag} {mg : Str → Option Value} {g : G} {H : Hp} {S : Sto} {x y : D} {v u : V} {T : Addr} (rl : Rel K mg g H S) (rx : Rep K mg g x v) (ry : Rep K mg g y u) (hT : H T = none) :
    ∃ g', g.le g' ∧ Rel K mg g' (upd H T (.tup [v, u])) S ∧ Rep K mg g' (.tup [x, y]) (.ref T) := by
  have l : g.le (g.known T (.tup [v, u])) := G.le_known (rl.fnone hT)
  exact ⟨_, l, rl.fresh hT _, .tup (SqT.of upd_same) (.cons (rx.le l) (.cons (ry.le l) .nil))⟩
theorem im_enum {elts : List Expr} {kk : Nat} (hm : X.mg "enumerate" = none) (ha : AM X W [a] ml) (hg : Gl X "enumerate" := by rfl)
    (hs : starEach [a] X.env = (false, eval a X.env) :: starEach [] X.env := by exact star1 rfl) (hpl : (backTo pos (starEach [] X.env)).any (·.1) = false := by exact starP rfl) :
    IM X W (.Tuple elts kk tpos) (.Call (.Name "enumerate" p0) [a] [] pos) (mEnum ml) := by
  intro g σ H ev S R rl er hP pins s I
  refine (pi_enumS hm (paW X [a]) hg hs hpl).run pins s σ H R I (ha g σ H ev S _ rl er (Post.bind hP fun g1 xs S1 vs H1 l1 rl1 rx hP1 => ?_))
  unfold asEnum at hP1
  split at hP1
  · rename_i d
    obtain ⟨v, rfl, r⟩ := rep1 rx
    cases ed : drawn S1 d with
    | none => rw [ed] at hP1; exact hP1.elim
    | some c =>
      rw [ed] at hP1
      obtain ⟨k, hk⟩ := drawn_src rl1 r ed
      have cur : ∃ vs, SrcV X.K H1 k v vs := by
        have hl : c.deps.all (fun p => match S1[p.1]? with | some (.lst ds) => beqL ds p.2 | _ => false) = true := drawn_live ed
        obtain ⟨vs, h1, _⟩ := hk g1 H1 S1 (G.ext.refl g1) rl1 hl
        exact ⟨vs, h1⟩
      obtain ⟨vs0, hv0⟩ := cur
      refine ⟨v, k, vs0, rfl, hv0, hP1 g1 _ H1 (G.le.refl g1) rl1 ⟨fun i H' S' g' l rl' hl hi => ?_, fun H' S' g' l rl' hl => ?_, fun i H' w H2 S' g' d l rl' hl hi hy => ?_⟩⟩
      · obtain ⟨us, h1, h2⟩ := hk g' H' S' l rl' hl
        have hi' : i < (enumD 0 c.items).length := hi
        rw [enumD_len, h2.length] at hi'
        exact ⟨us, h1, hi'⟩
      · obtain ⟨us, h1, h2⟩ := hk g' H' S' l rl' hl
        exact ⟨us, h1, by show (enumD 0 c.items).length = us.length; rw [enumD_len, h2.length]⟩
      · obtain ⟨us, h1, h2⟩ := hk g' H' S' l rl' hl
        obtain ⟨e, e1, rfl⟩ := enumD_get _ _ _ _ hi
        obtain ⟨y', e2, e3⟩ := h2.get e1
        obtain ⟨T, y, rfl, hT, rfl, hy2⟩ := hy
        have e4 := hy2 us h1
        rw [e2] at e4
        cases e4
        have z : ((0 + i : Nat) : Int) = (i : Nat) := by omega
        rw [z]
        exact rep_pair rl' (.int _) e3 hT
  · exact hP1.elim
theorem im_zip {elts : List Expr} {kk : Nat} (hm : X.mg "zip" = none) (ha : AM X W [a, b] ml) (hg : Gl X "zip" := by rfl)
    (hs : starEach [a, b] X.env = (false, eval a X.env) :: starEach [b] X.env := by exact star1 rfl) (hpl : (backTo pos (starEach [b] X.env)).any (·.1) = false := by exact starP rfl) :
    IM X W (.Tuple elts kk tpos) (.Call (.Name "zip" p0) [a, b] [] pos) (mZip ml) := by
  intro g σ H ev S R rl er hP pins s I
  refine (pi_zipS hm (paW X [a, b]) hg hs hpl).run pins s σ H R I (ha g σ H ev S _ rl er (Post.bind hP fun g1 xs S1 vs H1 l1 rl1 rx hP1 => ?_))
  unfold asZip at hP1
  split at hP1
  · rename_i d e
    obtain ⟨v, u, rfl, r, r'⟩ := rep2 rx
    split at hP1
    · rename_i c c' ed ee
      obtain ⟨k, hk⟩ := drawn_src rl1 r ed
      obtain ⟨k', hk'⟩ := drawn_src rl1 r' ee
      obtain ⟨vs0, hv0, _⟩ := hk g1 H1 S1 (G.ext.refl g1) rl1 (drawn_live ed)
      obtain ⟨us0, hu0, _⟩ := hk' g1 H1 S1 (G.ext.refl g1) rl1 (drawn_live ee)
      have both : ∀ (g' : G) (H' : Hp) (S' : Sto), g1.ext g' → Rel X.K X.mg g' H' S' → Src.live ⟨zipD c.items c'.items, c.deps ++ c'.deps⟩ S' = true → ∃ vs us, SrcV X.K H' k v vs ∧ RepL X.K X.mg g' c.items vs ∧ SrcV X.K H' k' u us ∧ RepL X.K X.mg g' c'.items us := by
        intro g' H' S' l rl' hl
        unfold Src.live at hl
        rw [List.all_append, Bool.and_eq_true] at hl
        obtain ⟨vs, h1, h2⟩ := hk g' H' S' l rl' hl.1
        obtain ⟨us, h3, h4⟩ := hk' g' H' S' l rl' hl.2
        exact ⟨vs, us, h1, h2, h3, h4⟩
      refine ⟨v, u, k, k', vs0, us0, rfl, hv0, hu0, hP1 g1 _ H1 (G.le.refl g1) rl1 ⟨fun i H' S' g' l rl' hl hi => ?_, fun H' S' g' l rl' hl => ?_, fun i H' w H2 S' g' d l rl' hl hi hy => ?_⟩⟩
      · obtain ⟨vs, us, h1, h2, h3, h4⟩ := both g' H' S' l rl' hl
        have hi' : i < (zipD c.items c'.items).length := hi
        rw [zipD_len, h2.length, h4.length] at hi'
        exact ⟨vs, us, h1, h3, by omega, by omega⟩
      · obtain ⟨vs, us, h1, h2, h3, h4⟩ := both g' H' S' l rl' hl
        exact ⟨vs, us, h1, h3, by show (zipD c.items c'.items).length = _; rw [zipD_len, h2.length, h4.length]⟩
      · obtain ⟨vs, us, h1, h2, h3, h4⟩ := both g' H' S' l rl' hl
        obtain ⟨x, y, e1, e2, rfl⟩ := zipD_get _ _ _ _ hi
        obtain ⟨x', f1, f2⟩ := h2.get e1
        obtain ⟨y', f3, f4⟩ := h4.get e2
        obtain ⟨T, x2, y2, rfl, hT, rfl, hy1, hy2⟩ := hy
        have e4 := hy1 vs h1
        have e5 := hy2 us h3
        rw [f1] at e4
        rw [f3] at e5
        cases e4
        cases e5
        exact rep_pair rl' f2 f4 hT
    · exact hP1.elim
  · exact hP1.elim
end
end ML


set_option Elab.async false
set_option linter.all false
set_option maxRecDepth 100000
set_option autoImplicit false
set_option maxHeartbeats 4000000
namespace ML
open PySem PySem.Spec PyProof.Rows L2

/-! ## targets -/
theorem wipe_get (σ : Sl) : ∀ (vs : List Nat) (j : Nat), (wipe σ vs)[j]? = if j ∈ vs ∧ j < σ.length then some none else σ[j]?
  | [], j => by simp [wipe]
  | v :: vs, j => by
    unfold wipe
    rw [List.getElem?_set, wipe_length, wipe_get σ vs j]
    by_cases h : v = j
    · subst h
      by_cases hl : v < σ.length
      · simp [hl]
      · simp [hl, List.getElem?_eq_none (Nat.le_of_not_lt hl)]
    · simp only [if_neg h, List.mem_cons]
      have : j = v ↔ False := ⟨fun e => h e.symm, False.elim⟩
      simp [this]
theorem wipe_set (σ : Sl) {i : Nat} (x : Option V) {vs : List Nat} (h : i ∈ vs) : wipe (σ.set i x) vs = wipe σ vs := by
  apply List.ext_getElem?
  intro j
  rw [wipe_get, wipe_get, List.length_set, List.getElem?_set]
  by_cases hj : j ∈ vs ∧ j < σ.length
  · rw [if_pos hj, if_pos hj]
  · rw [if_neg hj, if_neg hj]
    by_cases e : i = j
    · subst e
      have hl : ¬ i < σ.length := fun l => hj ⟨h, l⟩
      simp [hl, List.getElem?_eq_none (Nat.le_of_not_lt hl)]
    · rw [if_neg e]
abbrev W0 : WX := fun _ _ _ _ => False
section
variable (X : Cx)
abbrev PostGP (P : List (Addr × Obj)) (vs : List Nat) (σ : Sl) (g : G) (r : R Ev) (Q : Sl → Hp → Prop) : Prop := Post X.K X.mg (fun g ev' σ' => EvR X.K X.mg P g ev' σ' ∧ wipe σ' vs = wipe σ vs) W0 [] g r Q
abbrev PostG (vs : List Nat) (σ : Sl) (g : G) (r : R Ev) (Q : Sl → Hp → Prop) : Prop := PostGP X X.pn vs σ g r Q
/-- the names that get a value are those at vs -/
def GM (vs : List Nat) (tg : Expr) (m : D → M Ev) : Prop := ∀ (g : G) (σ : Sl) (H : Hp) (ev : Ev) (S : Sto) (d : D) (v : V) (Q : Sl → Hp → Prop), Rel X.K X.mg g H S → EvR X.K X.mg X.pn g ev σ → Rep X.K X.mg g d v →
  PostG X vs σ g (m d ev S) Q →
  ∀ (pins : List (Addr × Obj)) (s : Shared) (u : Value), Inv X pins σ H s → RelV v u → wpAny (model X.prog X.w) X.A (assign tg X.env u) (fun _ s' => ∃ σ' H', Inv X pins σ' H' s' ∧ Q σ' H') X.xe s
def GMs (vs : List Nat) (ts : List Expr) (m : List D → M Ev) : Prop := ∀ (g : G) (σ : Sl) (H : Hp) (ev : Ev) (S : Sto) (ds : List D) (us : List V) (Q : Sl → Hp → Prop), Rel X.K X.mg g H S → EvR X.K X.mg X.pn g ev σ → RepL X.K X.mg g ds us →
  PostG X vs σ g (m ds ev S) Q →
  ∀ (pins : List (Addr × Obj)) (s : Shared) (ws : List Value), Inv X pins σ H s → Vals us ws → wpAny (model X.prog X.w) X.A (assignInOrder ((assignEach ts X.env).map (·.2)) ws) (fun _ s' => ∃ σ' H', Inv X pins σ' H' s' ∧ Q σ' H') X.xe s
end
section
variable {X : Cx} {W : WX} {pos : Pos} {vs : List Nat}
def tgN (i : Nat) : D → M Ev := fun d ev S => .ok (ev.set i (some d)) S
def tgNil : List D → M Ev := fun ds ev S => match ds with
  | [] => .ok ev S
  | _ => .no
def tgCons (t : D → M Ev) (u : List D → M Ev) : List D → M Ev := fun ds ev S => match ds with
  | d :: r => (t d ev S).bind fun ev1 S1 => u r ev1 S1
  | [] => .no
def tgT (n : Nat) (u : List D → M Ev) : D → M Ev := fun d ev S => match d with
  | .tup ds => if ds.length = n then u ds ev S else .no
  | _ => .no
theorem PostG.mono {σ σ1 : Sl} {g : G} {r : R Ev} {Q : Sl → Hp → Prop} (e : wipe σ1 vs = wipe σ vs) (h : PostG X vs σ g r Q) : PostG X vs σ1 g r Q := by
  cases r with
  | ok a S => exact fun g' b H l rl ⟨p, q⟩ => h g' b H l rl ⟨p, by rw [q, e]⟩
  | ex x S => exact h
  | no => exact h
theorem pgOf {tg : Expr} {m : D → M Ev} (h : GM X vs tg m) : PG X tg (fun v σ H Q => ∃ (g : G) (ev : Ev) (S : Sto) (d : D), Rel X.K X.mg g H S ∧ EvR X.K X.mg X.pn g ev σ ∧ Rep X.K X.mg g d v ∧ PostG X vs σ g (m d ev S) Q) :=
  ⟨fun pins s σ H v u Q I r ⟨g, ev, S, d, h1, h2, h3, h4⟩ => h g σ H ev S d v Q h1 h2 h3 h4 pins s u I r⟩
theorem pgsOf {ts : List Expr} {m : List D → M Ev} (h : GMs X vs ts m) : PGs X ts (fun v σ H Q => ∃ (g : G) (ev : Ev) (S : Sto) (d : List D), Rel X.K X.mg g H S ∧ EvR X.K X.mg X.pn g ev σ ∧ RepL X.K X.mg g d v ∧ PostG X vs σ g (m d ev S) Q) :=
  ⟨fun pins s σ H v u Q I r ⟨g, ev, S, d, h1, h2, h3, h4⟩ => h g σ H ev S d v Q h1 h2 h3 h4 pins s u I r⟩
theorem gm_name (i : Nat) {x : Str} (hN : X.N.Nodup) (hv : i ∈ vs := by decide) (hi : X.N[i]? = some x := by rfl) (hx : Loc X.env.scope x := by first | exact Or.inl rfl | exact Or.inr rfl) (hf : X.fn x = true ∨ X.env.scope.names.lookup x = some .local := by first | exact .inl rfl | exact .inr rfl) :
    GM X vs (.Name x pos) (tgN i) := by
  intro g σ H ev S d v Q rl er r hP pins s u I ru
  exact (pg_name hN hi hx hf).run pins s σ H v u Q I ru (hP g _ H (G.le.refl g) rl ⟨er.set r i, wipe_set σ _ hv⟩)
theorem gms_nil : GMs X vs [] tgNil := by
  intro g σ H ev S ds us Q rl er r hP pins s ws I ru
  cases r with
  | nil => exact pgs_nil.run pins s σ H _ ws Q I ru ⟨rfl, hP g σ H (G.le.refl g) rl ⟨er, rfl⟩⟩
  | cons _ _ => exact hP.elim
theorem gms_cons {e : Expr} {es : List Expr} {t : D → M Ev} {u : List D → M Ev} (h1 : GM X vs e t) (h2 : GMs X vs es u)
    (hs : (assignEach (e :: es) X.env).map (·.2) = assign e X.env :: (assignEach es X.env).map (·.2) := by rfl) : GMs X vs (e :: es) (tgCons t u) := by
  intro g σ H ev S ds us Q rl er r hP pins s ws I ru
  cases r with
  | nil => exact hP.elim
  | cons hd hr =>
    rename_i d v ds vs'
    refine (pgs_cons (pgOf h1) (pgsOf h2) hs).run pins s σ H _ ws Q I ru ⟨v, vs', rfl, g, ev, S, d, rl, er, hd, ?_⟩
    refine Post.bind hP fun g1 ev1 S1 σ1 H1 l1 rl1 ⟨er1, hw1⟩ hP1 => ?_
    exact ⟨g1, ev1, S1, ds, rl1, er1, hr.le l1, PostG.mono hw1 hP1⟩

theorem gm_tup {es : List Expr} {k : Nat} {n : Nat} {u : List D → M Ev} (hc : X.calm = true) (h : GMs X vs es u) (hn : (assignEach es X.env).length = n := by rfl) (hst : (assignEach es X.env).findIdx? (·.1) = none := by rfl) : GM X vs (.Tuple es k pos) (tgT n u) := by
  intro g σ H ev S d v Q rl er r hP pins s w I rw'
  unfold tgT at hP
  split at hP
  · rename_i ds
    split at hP
    · rename_i hl
      obtain ⟨a, xs, rfl, h1, h2⟩ := tup_rep rl r
      exact (pg_tup hc (pgsOf h) hn hst).run pins s σ H _ w Q I rw' ⟨a, xs, rfl, h1, by rw [← h2.length]; exact hl, g, ev, S, ds, rl, er, h2, hP⟩
    · exact hP.elim
  · exact hP.elim
end
end ML


set_option Elab.async false
set_option linter.all false
set_option maxRecDepth 100000
set_option autoImplicit false
set_option maxHeartbeats 4000000
namespace ML
open PySem PySem.Spec PyProof.Rows L2

/-! ## list comprehensions -/
def evWipe (ev : Ev) : List Nat → Ev
  | [] => ev
  | v :: vs => (evWipe ev vs).set v none
theorem EvR.wipe {K : PySem.W.Frag} {mg : Str → Option Value} {P : List (Addr × Obj)} {g : G} {ev : Ev} {σ : Sl} (h : EvR K mg P g ev σ) : ∀ vs : List Nat, EvR K mg P g (evWipe ev vs) (wipe σ vs)
  | [] => h
  | v :: vs => (EvR.wipe h vs).gone v
/-- without the exception of an except suite -/
def noXo : Option D → Option D
  | some (.xo _ _ _) => none
  | o => o
def evNoX (ev : Ev) : Ev := ev.map noXo
theorem EvR.noX {K : PySem.W.Frag} {mg : Str → Option Value} {P P' : List (Addr × Obj)} {g : G} {ev : Ev} {σ : Sl} (h : EvR K mg P g ev σ) : EvR K mg P' g (evNoX ev) σ := by
  refine ⟨by unfold evNoX; rw [List.length_map]; exact h.1, fun i d e => ?_⟩
  unfold evNoX at e
  rw [List.getElem?_map] at e
  cases e1 : ev[i]? with
  | none => rw [e1] at e; cases e
  | some o =>
    rw [e1] at e
    cases o with
    | none => cases e
    | some d' =>
      obtain ⟨v, h1, h2⟩ := h.2 i d' e1
      cases d' with
      | xo _ _ _ => cases e
      | _ => cases e; exact ⟨v, h1, h2⟩
theorem EvR.ofNil {K : PySem.W.Frag} {mg : Str → Option Value} {P : List (Addr × Obj)} {g : G} {ev : Ev} {σ : Sl} (h : EvR K mg [] g ev σ) : EvR K mg P g ev σ := by
  refine ⟨h.1, fun i d e => ?_⟩
  obtain ⟨v, h1, h2⟩ := h.2 i d e
  cases d with
  | xo _ _ _ => obtain ⟨_, _, _, _, _, _, q, _⟩ := h2; cases q
  | _ => exact ⟨v, h1, h2⟩
def noEx {α : Type} : R α → R α
  | .ok a S => .ok a S
  | _ => .no
def lcL (tg : D → M Ev) (cond : M Bool) (el : M D) (ev : Ev) (c : Src) : List D → List D → Sto → R (List D)
  | [], acc, S => if c.live S = true then .ok acc S else .no
  | d :: ds, acc, S => if c.live S = true then (tg d ev S).bind fun ev2 S2 => (cond ev2 S2).bind fun b S3 => if b = true then (el ev2 S3).bind fun y S4 => if acc.length < 16777216 then lcL tg cond el ev c ds (acc ++ [y]) S4 else .no else lcL tg cond el ev c ds acc S3 else .no
def mLc (nw : Bool) (own : List Nat) (fe : Ev → Ev) (mi : M Src) (tg : D → M Ev) (cond : M Bool) (el : M D) : M D := fun ev S => (mi ev S).bind fun c S1 => (noEx (lcL tg cond el (evWipe (fe ev) own) c c.items [] S1)).bind fun acc S2 => mkL nw acc S2
def mYes : M Bool := fun _ S => .ok true S
/-- the tests of a for clause -/
def TMs (X : Cx) (W : WX) (ifs : List Expr) (m : M Bool) : Prop := PTs X ifs (fun σ H Q => ∃ (g : G) (ev : Ev) (S : Sto), Rel X.K X.mg g H S ∧ EvR X.K X.mg X.pn g ev σ ∧ Post X.K X.mg RB W σ g (m ev S) Q)
section
variable {X : Cx} {W : WX} {K : PySem.W.Frag} {mg : Str → Option Value}
theorem tms_nil : TMs X W [] mYes := ⟨fun pins s σ H Q I ⟨g, ev, S, rl, er, hP⟩ => pts_nil.run pins s σ H Q I (hP g _ H (G.le.refl g) rl rfl)⟩
theorem ptOf {e : Expr} {m : M Bool} (h : TM X W e m) : PT X e (fun σ H Q => ∃ (g : G) (ev : Ev) (S : Sto), Rel X.K X.mg g H S ∧ EvR X.K X.mg X.pn g ev σ ∧ Post X.K X.mg RB W σ g (m ev S) Q) :=
  ⟨fun pins s σ H Q I ⟨g, ev, S, rl, er, hP⟩ => h g σ H ev S Q rl er hP pins s I⟩
theorem peOf {e : Expr} {m : M D} (h : EM X W e m) : PE X e (fun σ H Q => ∃ (g : G) (ev : Ev) (S : Sto), Rel X.K X.mg g H S ∧ EvR X.K X.mg X.pn g ev σ ∧ Post X.K X.mg (Rep X.K X.mg) W σ g (m ev S) Q) :=
  ⟨fun pins s σ H Q I ⟨g, ev, S, rl, er, hP⟩ => h g σ H ev S Q rl er hP pins s I⟩
theorem tms_one {e : Expr} {m : M Bool} (h : TM X W e m) : TMs X W [e] m := pts_one (ptOf h)

theorem Post.bindX {α β γ δ ε : Type} {Rp : G → α → β → Prop} {Rp' : G → γ → δ → Prop} {σ σ' : Sl} {g gb : G} {r : R α} {f : α → Sto → R ε} {k : ε → Sto → R γ} {Q' : δ → Hp → Prop} {Q : β → Hp → Prop}
    (h : Post K mg Rp' W σ gb ((noEx (r.bind f)).bind k) Q')
    (c : ∀ (g' : G) (a : α) (S : Sto) (b : β) (H : Hp), g.le g' → Rel K mg g' H S → Rp g' a b → Post K mg Rp' W σ gb ((noEx (f a S)).bind k) Q' → Q b H) : Post K mg Rp W0 σ' g r Q := by
  cases r with
  | ok a S => exact fun g2 b H l rl rp => c g2 a S b H l rl rp h
  | ex x S => exact h.elim
  | no => exact h.elim

structure LcI (K : PySem.W.Frag) (mg : Str → Option Value) (W : WX) (σ : Sl) (Q : VK) (g1 : G) (p : Addr) (c : Src) (F : List D → List D → Sto → R (List D)) (nw : Bool) (i : Nat) (H : Hp) (g : G) (S : Sto) (acc : List D) (av : List V) : Prop where
  le : g1.le g
  z : g.z p = none
  rl : Rel K mg (g.withZ (upd g.z p (.lst av))) H S
  ra : RepL K mg g acc av
  post : Post K mg (Rep K mg) W σ g ((noEx (F (c.items.drop i) acc S)).bind fun acc S2 => mkL nw acc S2) Q
theorem lcI_end {σ : Sl} {Q : VK} {g1 : G} {p : Addr} {c : Src} {nw : Bool} {H : Hp} {g : G} {S : Sto} {acc : List D} {av : List V}
    (hz : g.z p = none) (rl : Rel K mg (g.withZ (upd g.z p (.lst av))) H S) (ra : RepL K mg g acc av) (h : Post K mg (Rep K mg) W σ g (mkL nw acc S) Q) : Q (.ref p) H := by
  unfold mkL at h
  split at h
  · have r2 := rl.closeC hz rfl ra
    refine h (g.cellAt p) (.ref p) H G.le_cell r2 (.ref ?_)
    have e : g.r.length = S.length := rl.len
    show (g.r ++ [p])[S.length]? = some p
    rw [← e, List.getElem?_append_right (Nat.le_refl _), Nat.sub_self]
    rfl
  · obtain ⟨r2, fp⟩ := rl.closeF hz rfl
    have l : g.le (g.known p (.lst av)) := G.le_known fp
    exact h _ (.ref p) H l r2 (.lst upd_same (ra.le l))
variable {elt tg iter : Expr} {ifs : List Expr} {scope : Scope} {own : List (Str × Nat)} {pos : Pos} {mi : M Src} {t : D → M Ev} {cond : M Bool} {el : M D}
theorem lc_post (nw : Bool) {fe : Ev → Ev} (hfe : ∀ (g : G) (ev : Ev) (σ : Sl), EvR X.K X.mg X.pn g ev σ → EvR X.K X.mg [] g (fe ev) σ) {σ : Sl} {ev : Ev} {S : Sto} {Q : VK} {g : G} {H : Hp} (rl : Rel X.K X.mg g H S) (er : EvR X.K X.mg X.pn g ev σ) (hP : Post X.K X.mg (Rep X.K X.mg) W σ g (mLc nw (own.map (·.2)) fe mi t cond el ev S) Q) :
    tLc (fun σ H R => Rel X.K X.mg g H S ∧ EvR X.K X.mg X.pn g ev σ ∧ Post X.K X.mg (fun g c J => SrcOk X.K X.mg g c J) W σ g (mi ev S) R)
      (fun v σ H Q => ∃ (g : G) (ev : Ev) (S : Sto) (d : D), Rel X.K X.mg g H S ∧ EvR X.K X.mg [] g ev σ ∧ Rep X.K X.mg g d v ∧ PostGP X [] (own.map (·.2)) σ g (t d ev S) Q)
      (fun σ H Q => ∃ (g : G) (ev : Ev) (S : Sto), Rel X.K X.mg g H S ∧ EvR X.K X.mg [] g ev σ ∧ Post X.K X.mg RB W0 σ g (cond ev S) Q)
      (fun σ H Q => ∃ (g : G) (ev : Ev) (S : Sto), Rel X.K X.mg g H S ∧ EvR X.K X.mg [] g ev σ ∧ Post X.K X.mg (Rep X.K X.mg) W0 σ g (el ev S) Q) (own.map (·.2)) σ H Q := by
  refine ⟨rl, er, Post.bind hP fun g1 c S1 J H1 l1 rl1 sk hP1 => fun p hp => ?_⟩
  generalize hF : lcL t cond el (evWipe (fe ev) (own.map (·.2))) c = F at hP1
  refine ⟨fun i m H => m = c.items.length - i ∧ i ≤ c.items.length ∧ ∃ g S acc av, LcI X.K X.mg W σ Q g1 p c F nw i H g S acc av, ⟨_, rfl, Nat.zero_le _, g1, S1, [], [], G.le.refl g1, rl1.znone hp, rl1.putZ (fun _ _ => rfl) (.inl hp), .nil, hP1⟩, ?_⟩
  rintro i m H2 ⟨rfl, hi, g2, S2, acc, av, I⟩
  have hpost := I.post
  have lv : ∀ {ds : List D}, c.items.drop i = ds → c.live S2 = true := fun {ds} e => by
    rw [e, ← hF] at hpost
    cases ds with
    | nil => unfold lcL at hpost; split at hpost; assumption; exact hpost.elim
    | cons d ds => unfold lcL at hpost; split at hpost; assumption; exact hpost.elim
  have hlive := lv rfl
  have hext : g1.ext (g2.withZ (upd g2.z p (.lst av))) := I.le.ext.trans G.ext_withZ
  rcases Nat.lt_or_ge i c.items.length with hlt | hge
  · right
    refine ⟨sk.goes i H2 S2 _ hext I.rl hlive hlt, _, fun H' hn => ⟨_, ?_, rfl, hlt, hn⟩, fun x H' hy => ?_⟩
    · omega
    · have hd : c.items[i]? = some c.items[i] := List.getElem?_eq_getElem hlt
      obtain ⟨g3, l3, rl3, rd⟩ := sk.yields i H2 x H' S2 _ _ hext I.rl hlive hd hy
      have ed : c.items.drop i = c.items[i] :: c.items.drop (i + 1) := List.drop_eq_getElem_cons hlt
      rw [ed, ← hF] at hpost
      unfold lcL at hpost
      rw [if_pos hlive] at hpost
      rw [hF] at hpost
      have e3 : g2.ext g3 := G.ext_withZ.trans l3.ext
      refine ⟨g3, evWipe (fe ev) (own.map (·.2)), S2, c.items[i], rl3, (EvR.wipe (hfe _ _ _ (EvR.ext e3 (er.le (l1.trans I.le)))) _), rd, ?_⟩
      · refine Post.bindX hpost fun g4 ev4 S4 σ4 H4 l4 rl4 ⟨er4, hw4⟩ hpost4 => ?_
        have hw : wipe σ4 (own.map (·.2)) = wipe σ (own.map (·.2)) := by
          rw [hw4]
          apply List.ext_getElem?
          intro j
          rw [wipe_get, wipe_get, wipe_length]
          split <;> rfl
        refine ⟨hw, g4, ev4, S4, rl4, er4, ?_⟩
        refine Post.bindX hpost4 fun g5 b S5 b' H5 l5 rl5 rb hpost5 => ?_
        have rb : b = b' := rb
        subst rb
        have zz : ∀ {g6 : G}, g3.le g6 → g6.z = upd g2.z p (.lst av) := fun {g6} l => by rw [l.2.2.2, l3.2.2.2]; rfl
        have back : ∀ (g6 : G), g6.z = upd g2.z p (.lst av) → (g6.withZ g2.z).withZ (upd g2.z p (.lst av)) = g6 := fun g6 e => by
          cases g6
          simp only at e
          subst e
          rfl
        split
        · rename_i hb
          rw [if_pos hb] at hpost5
          refine ⟨g5, ev4, S5, rl5, er4.le l5, ?_⟩
          refine Post.bindX hpost5 fun g6 y S6 y' H6 l6 rl6 ry hpost6 => ?_
          have l36 : g3.le g6 := (l4.trans l5).trans l6
          have e6 := zz l36
          have e26 : g2.ext (g6.withZ g2.z) := (e3.trans l36.ext).trans G.ext_withZ
          split at hpost6
          · rename_i hlen
            refine ⟨av, rl6.zin p _ (by rw [e6]; exact upd_same), by rw [← I.ra.length, sizeL]; exact hlen, g6.withZ g2.z, S6, acc ++ [y], av ++ [y'], I.le.trans ⟨e26.1, e26.2.1, e26.2.2, rfl⟩, I.z, ?_, (I.ra.ext e26).append (.cons (ry.ext G.ext_withZ) .nil), ?_⟩
            · exact rl6.putZ (fun a q => by rw [e6]; exact upd_ne q) (.inr ⟨_, by rw [e6]; exact upd_same⟩)
            · exact Post.up ⟨e26.1, e26.2.1, e26.2.2, rfl⟩ hpost6
          · exact hpost6.elim
        · rename_i hb
          rw [if_neg hb] at hpost5
          have l35 : g3.le g5 := l4.trans l5
          have e5 := zz l35
          have e25 : g2.ext (g5.withZ g2.z) := (e3.trans l35.ext).trans G.ext_withZ
          refine ⟨g5.withZ g2.z, S5, acc, av, I.le.trans ⟨e25.1, e25.2.1, e25.2.2, rfl⟩, I.z, ?_, I.ra.ext e25, ?_⟩
          · show Rel X.K X.mg ((g5.withZ g2.z).withZ (upd g2.z p (.lst av))) H5 S5
            rw [back g5 e5]
            exact rl5
          · exact Post.up ⟨e25.1, e25.2.1, e25.2.2, rfl⟩ hpost5
  · left
    have e : i = c.items.length := by omega
    subst e
    refine ⟨sk.stops H2 S2 _ hext I.rl hlive, ?_⟩
    rw [List.drop_length, ← hF] at hpost
    unfold lcL at hpost
    rw [if_pos hlive] at hpost
    exact lcI_end (g1 := g1) (c := c) (nw := nw) I.z I.rl I.ra hpost
theorem em_lc (nw : Bool) (fe : Ev → Ev) (hfe : ∀ (g : G) (ev : Ev) (σ : Sl), EvR X.K X.mg X.pn g ev σ → EvR X.K X.mg [] g (fe ev) σ) (hc : X.calm = true) (hN : X.N.Nodup) (ok : BlkOk X.N X.env.scope scope own) (hi : IM X W tg iter mi)
    (hg : ∀ (s : Shared) (H : Hp) (C : Addr) (cl : List (Str × Addr)) (fp : List Addr), GM (X.blk s H scope (compEnvC scope cl C X.env) fp) (own.map (·.2)) tg t)
    (ht : ∀ (s : Shared) (H : Hp) (C : Addr) (cl : List (Str × Addr)) (fp : List Addr), TMs (X.blk s H scope (compEnvC scope cl C X.env) fp) W0 ifs cond)
    (he : ∀ (s : Shared) (H : Hp) (C : Addr) (cl : List (Str × Addr)) (fp : List Addr), EM (X.blk s H scope (compEnvC scope cl C X.env) fp) W0 elt el)
    (hs : ∀ x, foldedSetIterable iter X.env x = pure x := by intro _; rfl) : EM X W (.ListComp elt [⟨tg, iter, ifs, 0⟩] scope pos) (mLc nw (own.map (·.2)) fe mi t cond el) := by
  intro g σ H ev S Q rl er hP
  exact wE (pe_lc (tt := fun σ H Q => ∃ (g : G) (ev : Ev) (S : Sto), Rel X.K X.mg g H S ∧ EvR X.K X.mg [] g ev σ ∧ Post X.K X.mg RB W0 σ g (cond ev S) Q) hc hN (imP hi g ev S) ok (fun s H C cl fp => pgOf (hg s H C cl fp)) (fun s H C cl fp => ht s H C cl fp) (fun s H C cl fp => peOf (he s H C cl fp)) hs) (lc_post nw hfe rl er hP)
theorem fe_id (hp : X.pn = []) (g : G) (ev : Ev) (σ : Sl) (h : EvR X.K X.mg X.pn g ev σ) : EvR X.K X.mg [] g (id ev) σ := by
  rw [hp] at h
  exact h
theorem fe_noX (g : G) (ev : Ev) (σ : Sl) (h : EvR X.K X.mg X.pn g ev σ) : EvR X.K X.mg [] g (evNoX ev) σ := h.noX
end
end ML


set_option Elab.async false
set_option linter.all false
set_option maxRecDepth 100000
set_option autoImplicit false
set_option maxHeartbeats 4000000
namespace ML
open PySem PySem.Spec PyProof.Rows L2

/-! ## statements -/
inductive Fl where
  | nx | bk | ct | rt (d : D)
inductive RS where
  | ok (f : Fl) (ev : Ev) (s : Sto) | ex (x : Xn) (ev : Ev) (s : Sto) | no
abbrev MS := Ev → Sto → RS
def PostS (K : PySem.W.Frag) (mg : Str → Option Value) (P : List (Addr × Obj)) (W : WX) (g : G) (r : RS) (E : Ends) : Prop :=
  match r with
  | .ok .nx ev S => ∀ (g' : G) (σ : Sl) (H : Hp), g.le g' → Rel K mg g' H S → EvR K mg P g' ev σ → E.nx σ H
  | .ok .bk ev S => ∀ (g' : G) (σ : Sl) (H : Hp), g.le g' → Rel K mg g' H S → EvR K mg P g' ev σ → E.bk σ H
  | .ok .ct ev S => ∀ (g' : G) (σ : Sl) (H : Hp), g.le g' → Rel K mg g' H S → EvR K mg P g' ev σ → E.ct σ H
  | .ok (.rt d) ev S => ∀ (g' : G) (v : V) (H : Hp), g.le g' → Rel K mg g' H S → Rep K mg g' d v → E.rt v H
  | .ex x ev S => ∀ (g' : G) (c : Value) (d : Option Addr) (σ : Sl) (H : Hp), g.le g' → Rel K mg g' H S → EvR K mg P g' ev σ → RepX K mg g' x c d → W c d σ H
  | .no => False
def bindS {α : Type} (r : R α) (ev : Ev) (f : α → Sto → RS) : RS :=
  match r with
  | .ok a S => f a S
  | .ex x S => .ex x ev S
  | .no => .no
def seqS (r : RS) (f : MS) : RS :=
  match r with
  | .ok .nx ev S => f ev S
  | r => r
section
variable {K : PySem.W.Frag} {mg : Str → Option Value} {α β : Type} {Rp : G → α → β → Prop} {W : WX} {σ : Sl} {g g' : G} {E : Ends} {P : List (Addr × Obj)}
theorem PostS.up {r : RS} (l : g.le g') (h : PostS K mg P W g r E) : PostS K mg P W g' r E := by
  cases r with
  | ok f ev S => cases f <;> exact fun g2 b H k => h g2 b H (l.trans k)
  | ex x ev S => exact fun g2 c d σ H k => h g2 c d σ H (l.trans k)
  | no => exact h
theorem PostS.bind {r : R α} {ev : Ev} {f : α → Sto → RS} {Q : β → Hp → Prop} (h : PostS K mg P W g (bindS r ev f) E) (er : EvR K mg P g ev σ)
    (k : ∀ (g' : G) (a : α) (S : Sto) (b : β) (H : Hp), g.le g' → Rel K mg g' H S → Rp g' a b → PostS K mg P W g' (f a S) E → Q b H) : Post K mg Rp W σ g r Q := by
  cases r with
  | ok a S => exact fun g2 b H l rl rp => k g2 a S b H l rl rp (PostS.up l h)
  | ex x S => exact fun g2 c d H l rl rx => h g2 c d σ H l rl (er.le l) rx
  | no => exact h
/-- what is to come, from the names and the heap on -/
def Later (K : PySem.W.Frag) (mg : Str → Option Value) (P : List (Addr × Obj)) (W : WX) (g : G) (f : MS) (E : Ends) (σ : Sl) (H : Hp) : Prop := ∃ (g' : G) (ev : Ev) (S : Sto), g.le g' ∧ Rel K mg g' H S ∧ EvR K mg P g' ev σ ∧ PostS K mg P W g' (f ev S) E
theorem PostS.seq {r : RS} {f : MS} (h : PostS K mg P W g (seqS r f) E) : PostS K mg P W g r { E with nx := Later K mg P W g f E } := by
  cases r with
  | ok fl ev S =>
    cases fl with
    | nx => exact fun g2 σ H l rl er => ⟨g2, ev, S, l, rl, er, PostS.up l h⟩
    | _ => exact h
  | ex x ev S => exact h
  | no => exact h
end
section
variable (X : Cx) (W : WX)
def SM (st : Stmt) (m : MS) : Prop := ∀ (g : G) (σ : Sl) (H : Hp) (ev : Ev) (S : Sto) (E : Ends), Rel X.K X.mg g H S → EvR X.K X.mg X.pn g ev σ → PostS X.K X.mg X.pn W g (m ev S) E → WS X st E σ H
def SMs (st : List Stmt) (m : MS) : Prop := ∀ (g : G) (σ : Sl) (H : Hp) (ev : Ev) (S : Sto) (E : Ends), Rel X.K X.mg g H S → EvR X.K X.mg X.pn g ev σ → PostS X.K X.mg X.pn W g (m ev S) E → WSs X st E σ H
end
section
variable {X : Cx} {W : WX} {pos : Pos} {e a b : Expr} {ma mb : M D} {st : Stmt} {sts : List Stmt} {ms mt : MS}
theorem psOf (h : SM X W st ms) (g : G) (ev : Ev) (S : Sto) : PS X st (fun E σ H => Rel X.K X.mg g H S ∧ EvR X.K X.mg X.pn g ev σ ∧ PostS X.K X.mg X.pn W g (ms ev S) E) :=
  ⟨fun pins s σ H E I ⟨h1, h2, h3⟩ => h g σ H ev S E h1 h2 h3 pins s I⟩
/-! ### blocks -/
def sNil : MS := fun ev S => .ok .nx ev S
def sCons (m1 m2 : MS) : MS := fun ev S => seqS (m1 ev S) m2
theorem sms_nil : SMs X W [] sNil := fun g σ H ev S E rl er hP => wSs pss_nil (hP g σ H (G.le.refl g) rl er)
theorem sms_cons (h1 : SM X W st ms) (h2 : SMs X W sts mt) : SMs X W (st :: sts) (sCons ms mt) := by
  intro g σ H ev S E rl er hP
  have p2 : PSs X sts (fun E σ H => Later X.K X.mg X.pn W g mt E σ H) := ⟨fun pins s σ H E I ⟨g', ev, S, l, h1, h3, h4⟩ => h2 g' σ H ev S E h1 h3 h4 pins s I⟩
  exact wSs (pss_cons (psOf h1 g ev S) p2) ⟨rl, er, PostS.seq hP⟩
theorem sms_one (h1 : SM X W st ms) : SMs X W [st] ms := fun g σ H ev S E rl er hP => wSs (pss_one (psOf h1 g ev S)) ⟨rl, er, hP⟩
/-! ### simple statements -/
def sBk : MS := fun ev S => .ok .bk ev S
def sCt : MS := fun ev S => .ok .ct ev S
theorem sm_pass : SM X W (.Pass pos) sNil := fun g σ H ev S E rl er hP => wS ps_pass (hP g σ H (G.le.refl g) rl er)
theorem sm_break : SM X W (.Break pos) sBk := fun g σ H ev S E rl er hP => wS ps_break (hP g σ H (G.le.refl g) rl er)
theorem sm_continue : SM X W (.Continue pos) sCt := fun g σ H ev S E rl er hP => wS ps_continue (hP g σ H (G.le.refl g) rl er)
def sExpr (ma : M D) : MS := fun ev S => bindS (ma ev S) ev fun _ S1 => .ok .nx ev S1
theorem sm_expr (he : EM X W e ma) (hs : swapsWith e none pos.line X.env = pure false := by rfl) : SM X W (.Expr e pos) (sExpr ma) := by
  intro g σ H ev S E rl er hP
  refine wS (ps_expr (peW X e) hs) (he g σ H ev S _ rl er (PostS.bind hP er fun g1 d S1 v H1 l1 rl1 rx hP1 => ?_))
  exact hP1 g1 σ H1 (G.le.refl _) rl1 (er.le l1)
def sRet (ma : M D) : MS := fun ev S => bindS (ma ev S) ev fun d S1 => .ok (.rt d) ev S1
theorem sm_ret (he : EM X W e ma) : SM X W (.Return (some e) pos) (sRet ma) := by
  intro g σ H ev S E rl er hP
  refine wS (ps_ret (peW X e)) (he g σ H ev S _ rl er (PostS.bind hP er fun g1 d S1 v H1 l1 rl1 rx hP1 => ?_))
  exact hP1 g1 v H1 (G.le.refl _) rl1 rx
def sRetN : MS := fun ev S => .ok (.rt .non) ev S
theorem sm_retN : SM X W (.Return none pos) sRetN := fun g σ H ev S E rl er hP => wS ps_retN (hP g .non H (G.le.refl g) rl .non)
def sSet (i : Nat) (ma : M D) : MS := fun ev S => bindS (ma ev S) ev fun d S1 => .ok .nx (ev.set i (some d)) S1
theorem sm_set (i : Nat) {x : Str} {pos' : Pos} (hN : X.N.Nodup) (he : EM X W e ma) (hi : X.N[i]? = some x := by rfl) (hx : Loc X.env.scope x := by first | exact Or.inl rfl | exact Or.inr rfl)
    (hs : swapsWith e (some (.Name x pos')) pos.line X.env = pure false := by rfl) (hf : X.fn x = true ∨ X.env.scope.names.lookup x = some .local := by first | exact .inl rfl | exact .inr rfl) : SM X W (.Assign [.Name x pos'] e pos) (sSet i ma) := by
  intro g σ H ev S E rl er hP
  refine wS (ps_set hN hi hx (peW X e) hs hf) (he g σ H ev S _ rl er (PostS.bind hP er fun g1 d S1 v H1 l1 rl1 rx hP1 => ?_))
  exact hP1 g1 _ H1 (G.le.refl _) rl1 ((er.le l1).set rx i)
theorem sm_setLc (nw : Bool) (fe : Ev → Ev) (hfe : ∀ (g : G) (ev : Ev) (σ : Sl), EvR X.K X.mg X.pn g ev σ → EvR X.K X.mg [] g (fe ev) σ) (i : Nat) {y : Str} {py : Pos} {elt tg iter : Expr} {ifs : List Expr} {scope : Scope} {own : List (Str × Nat)} {spos : Pos} {mi : M Src} {t : D → M Ev} {cond : M Bool} {el : M D} (hc : X.calm = true) (hN : X.N.Nodup)
    (ok : BlkOk X.N X.env.scope scope own) (hi : IM X W tg iter mi)
    (hg : ∀ (s : Shared) (H : Hp) (C : Addr) (cl : List (Str × Addr)) (fp : List Addr), GM (X.blk s H scope (compEnvC scope cl C X.env) fp) (own.map (·.2)) tg t)
    (ht : ∀ (s : Shared) (H : Hp) (C : Addr) (cl : List (Str × Addr)) (fp : List Addr), TMs (X.blk s H scope (compEnvC scope cl C X.env) fp) W0 ifs cond)
    (he : ∀ (s : Shared) (H : Hp) (C : Addr) (cl : List (Str × Addr)) (fp : List Addr), EM (X.blk s H scope (compEnvC scope cl C X.env) fp) W0 elt el)
    (hsw : swapsWith (.ListComp elt [⟨tg, iter, ifs, 0⟩] scope pos) (some (.Name y py)) spos.line X.env = pure true)
    (hy : X.N[i]? = some y := by rfl) (hyl : X.env.scope.names.lookup y = some .local := by rfl)
    (hs : ∀ x, foldedSetIterable iter X.env x = pure x := by intro _; rfl) : SM X W (.Assign [.Name y py] (.ListComp elt [⟨tg, iter, ifs, 0⟩] scope pos) spos) (sSet i (mLc nw (own.map (·.2)) fe mi t cond el)) := by
  intro g σ H ev S E rl er hP
  have hQ : Post X.K X.mg (Rep X.K X.mg) W σ g (mLc nw (own.map (·.2)) fe mi t cond el ev S) (fun v H1 => E.nx (σ.set i (some v)) H1) := PostS.bind hP er fun g1 d S1 v H1 l1 rl1 rx hP1 => hP1 g1 _ H1 (G.le.refl _) rl1 ((er.le l1).set rx i)
  exact wS (ps_setLc (tt := fun σ H Q => ∃ (g : G) (ev : Ev) (S : Sto), Rel X.K X.mg g H S ∧ EvR X.K X.mg [] g ev σ ∧ Post X.K X.mg RB W0 σ g (cond ev S) Q) hc hN hy hyl hsw (imP hi g ev S) ok
    (fun s H C cl fp => pgOf (hg s H C cl fp)) (fun s H C cl fp => ht s H C cl fp) (fun s H C cl fp => peOf (he s H C cl fp)) hs) (lc_post nw hfe rl er hQ)
/-- any other target -/
def sAsg (t : D → M Ev) (ma : M D) : MS := fun ev S => bindS (ma ev S) ev fun d S1 => bindS (noEx (t d ev S1)) ev fun ev2 S2 => .ok .nx ev2 S2
theorem PostS.noX {vs : List Nat} {g : G} {σ : Sl} {r : R Ev} {ev : Ev} {E : Ends} {W : WX} {X : Cx} (h : PostS X.K X.mg X.pn W g (bindS (noEx r) ev fun ev2 S2 => .ok .nx ev2 S2) E) : PostG X vs σ g r (fun σ' H' => E.nx σ' H') := by
  cases r with
  | ok a S => exact fun g2 σ2 H l rl rp => h g2 σ2 H l rl rp.1
  | ex x S => exact h.elim
  | no => exact h.elim
theorem sm_asg (vs : List Nat) {tg : Expr} {t : D → M Ev} (hg : GM X vs tg t) (he : EM X W e ma) (hs : swapsWithSole [tg] e pos.line X.env = pure false := by rfl) (hw : swappedStores [tg] e X.env = pure none := by rfl)
    (h1 : (assignEach [tg] X.env).map (·.2) = [assign tg X.env] := by rfl) : SM X W (.Assign [tg] e pos) (sAsg t ma) := by
  intro g σ H ev S E rl er hP
  refine wS (ps_asg (peW X e) (pgOf hg) hs hw h1) (he g σ H ev S _ rl er (PostS.bind hP er fun g1 d S1 v H1 l1 rl1 rx hP1 => ?_))
  exact ⟨g1, ev, S1, d, rl1, er.le l1, rx, PostS.noX hP1⟩
/-- a, b = x, y -/
def par2 (i j : Nat) (ev : Ev) : List D → Sto → RS := fun ds S => match ds with
  | [x, y] => .ok .nx ((ev.set i (some x)).set j (some y)) S
  | _ => .no
def sPar (i j : Nat) (ml : M (List D)) : MS := fun ev S => bindS (ml ev S) ev (par2 i j ev)
theorem sm_par (i j : Nat) {x y : Str} {px py pt : Pos} {kt k2 : _} {pt2 : Pos} {ml : M (List D)} (hc : X.calm = true) (hN : X.N.Nodup) (ha : AM X W [a, b] ml) 
    (hw : swappedStores [.Tuple [.Name x px, .Name y py] kt pt] (.Tuple [a, b] k2 pt2) X.env = pure (some [x, y]) := by rfl) (hi : X.N[i]? = some x := by rfl) (hj : X.N[j]? = some y := by rfl) (hij : i ≠ j := by decide)
    (hx : X.env.scope.names.lookup x = some .local := by rfl) (hy : X.env.scope.names.lookup y = some .local := by rfl)
    (hs : swapsWithSole [.Tuple [.Name x px, .Name y py] kt pt] (.Tuple [a, b] k2 pt2) pos.line X.env = pure false := by rfl) :
    SM X W (.Assign [.Tuple [.Name x px, .Name y py] kt pt] (.Tuple [a, b] k2 pt2) pos) (sPar i j ml) := by
  intro g σ H ev S E rl er hP
  refine wS (ps_par hc hN hi hj hij hx hy (paW X [a, b]) hw hs) (ha g σ H ev S _ rl er (PostS.bind hP er fun g1 d S1 v H1 l1 rl1 rx hP1 => ?_))
  unfold par2 at hP1
  split at hP1
  · obtain ⟨v, u, rfl, r, r'⟩ := rep2 rx
    exact ⟨v, u, rfl, hP1 g1 _ H1 (G.le.refl _) rl1 (((er.le l1).set r i).set r' j)⟩
  · exact hP1.elim
def sIf (mc : M Bool) (mt mf : MS) : MS := fun ev S => bindS (mc ev S) ev fun b S1 => if b = true then mt ev S1 else mf ev S1
theorem sm_if {c : Expr} {p q : List Stmt} {mc : M Bool} {mt mf : MS} (hc : TM X W c mc) (hp : SMs X W p mt) (hq : SMs X W q mf) : SM X W (.If c p q pos) (sIf mc mt mf) := by
  intro g σ H ev S E rl er hP
  refine wS (ps_if (ptW X c) (pssW X p) (pssW X q)) (hc g σ H ev S _ rl er (PostS.bind hP er fun g1 b S1 b' H1 l1 rl1 rb hP1 => ?_))
  have rb : b = b' := rb
  subst rb
  split
  · rename_i h; rw [if_pos h] at hP1; exact hp g1 σ H1 ev S1 E rl1 (er.le l1) hP1
  · rename_i h; rw [if_neg h] at hP1; exact hq g1 σ H1 ev S1 E rl1 (er.le l1) hP1
/-! ### loops -/
def loopS (r : RS) (f : MS) : RS :=
  match r with
  | .ok .nx ev S => f ev S
  | .ok .ct ev S => f ev S
  | .ok .bk ev S => .ok .nx ev S
  | r => r
theorem PostS.loop {K : PySem.W.Frag} {mg : Str → Option Value} {P : List (Addr × Obj)} {g : G} {r : RS} {f : MS} {E : Ends} (h : PostS K mg P W g (loopS r f) E) : PostS K mg P W g r { E with nx := Later K mg P W g f E, ct := Later K mg P W g f E, bk := E.nx } := by
  cases r with
  | ok fl ev S =>
    cases fl with
    | nx => exact fun g2 σ H l rl er => ⟨g2, ev, S, l, rl, er, PostS.up l h⟩
    | ct => exact fun g2 σ H l rl er => ⟨g2, ev, S, l, rl, er, PostS.up l h⟩
    | bk => exact h
    | rt d => exact h
  | ex x ev S => exact h
  | no => exact h
def forL (tg : D → M Ev) (body : MS) (c : Src) : List D → MS
  | [], ev, S => if c.live S = true then .ok .nx ev S else .no
  | d :: ds, ev, S => if c.live S = true then loopS (bindS (noEx (tg d ev S)) ev fun ev2 S2 => body ev2 S2) (forL tg body c ds) else .no
def sFor (mi : M Src) (tg : D → M Ev) (body : MS) : MS := fun ev S => bindS (mi ev S) ev fun c S1 => forL tg body c c.items ev S1
theorem sm_for {tg iter : Expr} {body : List Stmt} {mi : M Src} {t : D → M Ev} {mb : MS} (vs : List Nat) (hp : PassesOwn (model X.prog X.w) X.A X.env X.xe) (hc : X.calm = true) (hi : IM X W tg iter mi) (hg : GM X vs tg t) (hb : SMs X W body mb)
    (hs : ∀ x, foldedSetIterable iter X.env x = pure x := by intro _; rfl) : SM X W (.For tg iter body [] pos) (sFor mi t mb) := by
  intro g σ H ev S E rl er hP
  refine wS (ps_for hp hc (imP hi g ev S) (pgOf hg) (pssW X body) hs) ⟨rl, er, PostS.bind hP er fun g1 c S1 J H1 l1 rl1 sk hP1 => ?_⟩
  refine ⟨fun i m σ H => m = c.items.length - i ∧ i ≤ c.items.length ∧ Later X.K X.mg X.pn W g1 (forL t mb c (c.items.drop i)) E σ H, ⟨_, rfl, Nat.zero_le _, g1, ev, S1, G.le.refl g1, rl1, er.le l1, hP1⟩, ?_⟩
  rintro i m σ2 H2 ⟨rfl, hi', g2, ev2, S2, l2, rl2, er2, hP2⟩
  have hlive : c.live S2 = true := by
    cases e : c.items.drop i with
    | nil => rw [e] at hP2; unfold forL at hP2; split at hP2; assumption; exact hP2.elim
    | cons d ds => rw [e] at hP2; unfold forL at hP2; split at hP2; assumption; exact hP2.elim
  rcases Nat.lt_or_ge i c.items.length with hlt | hge
  · right
    refine ⟨sk.goes i H2 S2 _ l2.ext rl2 hlive hlt, Later X.K X.mg X.pn W g1 (forL t mb c (c.items.drop (i + 1))) E, fun σ' H' hn => ⟨c.items.length - (i + 1), by omega, rfl, hlt, hn⟩, fun x H' hy => ?_⟩
    have hd : c.items[i]? = some c.items[i] := List.getElem?_eq_getElem hlt
    obtain ⟨g3, l3, rl3, rd⟩ := sk.yields i H2 x H' S2 _ _ l2.ext rl2 hlive hd hy
    have ed : c.items.drop i = c.items[i] :: c.items.drop (i + 1) := List.drop_eq_getElem_cons hlt
    rw [ed] at hP2
    unfold forL at hP2
    rw [if_pos hlive] at hP2
    refine ⟨g3, ev2, S2, c.items[i], rl3, er2.le l3, rd, ?_⟩
    have hP3 := PostS.up l3 hP2
    revert hP3
    generalize t c.items[i] ev2 S2 = r
    intro hP3
    cases r with
    | ok ev3 S3 =>
      intro g4 σ4 H4 l4 rl4 er4
      have hP4 := PostS.up l4 hP3
      refine hb g4 σ4 H4 ev3 S3 _ rl4 er4.1 ?_
      have q : PostS X.K X.mg X.pn W g4 (mb ev3 S3) { E with nx := Later X.K X.mg X.pn W g4 (forL t mb c (c.items.drop (i + 1))) E, ct := Later X.K X.mg X.pn W g4 (forL t mb c (c.items.drop (i + 1))) E, bk := E.nx } := PostS.loop hP4
      have sub : ∀ σ H, Later X.K X.mg X.pn W g4 (forL t mb c (c.items.drop (i + 1))) E σ H → Later X.K X.mg X.pn W g1 (forL t mb c (c.items.drop (i + 1))) E σ H := fun σ H ⟨g', ev, S, l, h⟩ => ⟨g', ev, S, ((l2.trans l3).trans l4).trans l, h⟩
      revert q
      generalize mb ev3 S3 = r3
      intro q
      cases r3 with
      | ok fl ev S =>
        cases fl with
        | nx => exact fun g2 σ H l rl er => sub _ _ (q g2 σ H l rl er)
        | ct => exact fun g2 σ H l rl er => sub _ _ (q g2 σ H l rl er)
        | bk => exact q
        | rt d => exact q
      | ex x ev S => exact q
      | no => exact q
    | ex x S3 => exact hP3.elim
    | no => exact hP3.elim
  · left
    have e : i = c.items.length := by omega
    subst e
    refine ⟨sk.stops H2 S2 _ l2.ext rl2 hlive, ?_⟩
    rw [List.drop_length] at hP2
    unfold forL at hP2
    rw [if_pos hlive] at hP2
    exact hP2 g2 σ2 H2 (G.le.refl _) rl2 er2
/-- while, with fuel -/
def whL (mc : M Bool) (body : MS) : Nat → MS
  | 0, _, _ => .no
  | n + 1, ev, S => bindS (mc ev S) ev fun b S1 => if b = true then loopS (body ev S1) (whL mc body n) else .ok .nx ev S1
theorem sm_while {c : Expr} {body : List Stmt} {mc : M Bool} {mb : MS} (n : Nat) (hp : PassesOwn (model X.prog X.w) X.A X.env X.xe) (hc : TM X W c mc) (hb : SMs X W body mb) : SM X W (.While c body [] pos) (whL mc mb n) := by
  intro g σ H ev S E rl er hP
  refine wS (ps_while hp (ptW X c) (pssW X body)) ⟨fun m σ H => Later X.K X.mg X.pn W g (whL mc mb m) E σ H, ⟨n, g, ev, S, G.le.refl g, rl, er, hP⟩, ?_⟩
  rintro m σ2 H2 ⟨g2, ev2, S2, l2, rl2, er2, hP2⟩
  cases m with
  | zero => exact hP2.elim
  | succ m =>
    unfold whL at hP2
    refine hc g2 σ2 H2 ev2 S2 _ rl2 er2 (PostS.bind hP2 er2 fun g3 b S3 b' H3 l3 rl3 rb hP3 => ?_)
    have rb : b = b' := rb
    subst rb
    split
    · rename_i h
      rw [if_pos h] at hP3
      refine ⟨Later X.K X.mg X.pn W g (whL mc mb m) E, fun σ' H' q => ⟨m, Nat.lt_succ_self m, q⟩, ?_⟩
      refine hb g3 σ2 H3 ev2 S3 _ rl3 (er2.le l3) ?_
      have q := PostS.loop hP3
      have sub : ∀ σ H, Later X.K X.mg X.pn W g3 (whL mc mb m) E σ H → Later X.K X.mg X.pn W g (whL mc mb m) E σ H := fun σ H ⟨g', ev, S, l, h⟩ => ⟨g', ev, S, (l2.trans l3).trans l, h⟩
      revert q
      generalize mb ev2 S3 = r3
      intro q
      cases r3 with
      | ok fl ev S =>
        cases fl with
        | nx => exact fun g2 σ H l rl er => sub _ _ (q g2 σ H l rl er)
        | ct => exact fun g2 σ H l rl er => sub _ _ (q g2 σ H l rl er)
        | bk => exact q
        | rt d => exact q
      | ex x ev S => exact q
      | no => exact q
    · rename_i h
      rw [if_neg h] at hP3
      exact hP3 g3 σ2 H3 (G.le.refl _) rl3 (er2.le l3)
end
end ML


set_option Elab.async false
set_option linter.all false
set_option maxRecDepth 100000
set_option autoImplicit false
set_option maxHeartbeats 4000000
namespace ML
open PySem PySem.Spec PyProof.Rows L2

/-! ## defs and their calls -/
structure FnG (P : Program) (w : World) (K : PySem.W.Frag) (mg : Str → Option Value) (k : Nat) (f : Addr) (fd : FuncData) (ps : List Str) (m : List D → Sto → R D) : Prop where
  run : ∀ (base : Heap) (A : Around) (outer : List Env) (s : Shared) (H : Hp) (args : Args) (us : List Value) (vs : List V) (ds : List D) (g : G) (S : Sto) (Q : VK) (E : XK), Room k A → A.guards = some [] →
    Env0 P w K mg base A outer s H → BindsTo s fd args (ps.zip us) → Vals vs us → Rel K mg g H S → RepL K mg g ds vs → ds.length = ps.length →
    Post K mg (Rep K mg) (fun c d _ H => E c d H) [] g (m ds S) Q → codeAny (model P w) A (.call (.ref f) args) (CR (L2.CX P w) outer P w H s Q E) s
def startD (n : Nat) (ds : List D) : Ev := ds.map some ++ List.replicate (n - ds.length) none
def endS (r : RS) : R D :=
  match r with
  | .ok .nx _ S => .ok .non S
  | .ok (.rt d) _ S => .ok d S
  | .ex x _ S => .ex x S
  | _ => .no
def mDef (n : Nat) (mb : MS) : List D → Sto → R D := fun ds S => endS (mb (startD n ds) S)
section
variable {P : Program} {w : World} {K : PySem.W.Frag} {mg : Str → Option Value} {k : Nat} {f : Addr} {fd : FuncData} {ps N : List Str} {m : List D → Sto → R D}
theorem FnG.mono {j : Nat} (F : FnG P w K mg j f fd ps m) (h : j ≤ k) : FnG P w K mg k f fd ps m := ⟨fun base A outer s H args us vs ds g S Q E hr => F.run base A outer s H args us vs ds g S Q E (hr.mono h)⟩
/-- no promise -/
theorem FnG.none : FnG P w K mg k f fd ps (fun _ _ => .no) := ⟨fun base A outer s H args us vs ds g S Q E hr hg e0 hb r rl rr hl hP => hP.elim⟩
theorem RepL.getN {g : G} {ds : List D} {vs : List V} (h : RepL K mg g ds vs) (P : List (Addr × Obj)) (n : Nat) : EvR K mg P g (startD n ds) (vs.map some ++ List.replicate (n - vs.length) none) := by
  have e := h.length
  refine ⟨by unfold startD; rw [List.length_append, List.length_append, List.length_map, List.length_map, e, List.length_replicate, List.length_replicate], fun i d q => ?_⟩
  unfold startD at q
  rcases Nat.lt_or_ge i ds.length with hi | hi
  · rw [List.getElem?_append_left (by rw [List.length_map]; exact hi), List.getElem?_map] at q
    cases e1 : ds[i]? with
    | none => rw [e1] at q; cases q
    | some d' =>
      rw [e1] at q
      cases q
      obtain ⟨v, h1, h2⟩ := h.get e1
      exact ⟨v, by rw [List.getElem?_append_left (by rw [List.length_map, ← e]; exact hi), List.getElem?_map, h1]; rfl, .of h2⟩
  · rw [List.getElem?_append_right (by rw [List.length_map]; exact hi), List.getElem?_replicate] at q
    split at q <;> cases q
theorem post_end {Pn : List (Addr × Obj)} {g : G} {r : RS} {Q : VK} {E : XK} (h : Post K mg (Rep K mg) (fun c d _ H => E c d H) [] g (endS r) Q) : PostS K mg Pn (fun c d _ H => E c d H) g r { nx := fun _ H' => Q .non H', rt := Q } := by
  cases r with
  | ok fl ev S =>
    cases fl with
    | nx => exact fun g' σ H l rl er => h g' .non H l rl .non
    | rt d => exact fun g' v H l rl rr => h g' v H l rl rr
    | bk => exact h.elim
    | ct => exact h.elim
  | ex x ev S => exact fun g' c d σ H l rl er rx => h g' c d H l rl rx
  | no => exact h.elim
/-- the context of a def's body -/
abbrev bodyX (P : Program) (w : World) (K : PySem.W.Frag) (mg : Str → Option Value) (base : Heap) (N : List Str) (qual : Str) (st : Stmt) (f : Addr) (cdv : Value) (A : Around) (outer : List Env) (s : Shared) (H : Hp) (E : XK) : Cx :=
  cxOf (L2.CX P w) P w K mg base N qual (defScope st) f cdv A outer s H E
theorem fnG_of {x qual : Str} {st : Stmt} {mb : MS} (F : Fun K x qual st f fd) (S : FnScope N ps (defScope st))
    (hbody : ∀ (base : Heap) (cdv : Value) (A : Around) (outer : List Env) (s : Shared) (H : Hp) (E : XK), Room k (A.deeper (envOfC qual (defScope st) s.heap.objs.size f cdv)) → (A.deeper (envOfC qual (defScope st) s.heap.objs.size f cdv)).guards = some [] →
      SMs (bodyX P w K mg base N qual st f cdv A outer s H E) (fun c d _ H => E c d H) (defBody st) mb) : FnG P w K mg (k + 1) f fd ps (mDef N.length mb) := by
  refine ⟨fun base A outer s H args us vs ds g St Q E hr hgd e0 hb r rl rr hl hP => ?_⟩
  obtain ⟨oc, od, kV, doc, pm, an, cdv, ct, osl, rfl, lk, hcd⟩ := F.ex
  have hlv : vs.length = ps.length := by rw [← rr.length]; exact hl
  have KX : K.In s.heap := e0.mod.kin.keeps fun b o e => (e0.bs b o e).1
  have lim : s.heap.NoLimit := e0.mod.nolimit.keeps fun b o e => (e0.bs b o e).1
  have hkind : ∀ y ∈ ps.zip us, (defScope st).names.lookup y.1 = some .local ∨ ((defScope st).names.lookup y.1 = some .cell ∧ ((cellsFrom (s.heap.objs.size + 1) (defScope st).names []).lookup y.1).isSome = true) := fun ⟨n, v⟩ hy => by
    rcases S.par n (List.of_mem_zip hy).1 with q | q
    · exact .inl q
    · exact .inr ⟨q, PySem.W.cellsFrom_some _ _ _ (.inl q)⟩
  refine codeAny_call_function hr.depth (KX _ _ lk) rfl S.co S.gen rfl (PySem.W.codeRec_of KX hcd) (hb _ _ _ _ ?_)
  refine wpAny_newFunctionEnv_cells S.kind hkind fun env he s1 x => ?_
  subst he
  refine ⟨lim.keeps x.toInCall.keep, codeAny_func ?_⟩
  have I : Inv (bodyX P w K mg base N qual st f cdv A outer s H E) [] (start N vs) H s1 := inv_start S hr.hd e0 hlv r x
  have ev := rr.getN [] N.length
  refine wpAny_mono (hbody base cdv A outer s H E (hr.deeper _) hgd g (start N vs) H (startD N.length ds) St { nx := fun _ H' => Q .non H', rt := Q } rl ev (post_end hP) [] s1 I) (fun fl s' hs => ?_) fun e s' hs => hs
  have fin : ∀ {σ' : Sl} {H' : Hp} {v : V} {u : Value}, Inv (bodyX P w K mg base N qual st f cdv A outer s H E) [] σ' H' s' → RelV v u → Q v H' → CE outer P w H s Q u s' :=
    fun {σ' H' v u} J rv q => ⟨v, H', J.os, J.bare, J.base, J.hok, rv, q⟩
  cases fl with
  | ret u =>
    obtain ⟨v, σ', H', J, rv, q⟩ := hs
    exact fin J rv q
  | next =>
    obtain ⟨σ', H', J, q⟩ := hs
    exact fin (v := V.non) (u := Value.none) J rfl q
  | brk =>
    obtain ⟨_, _, _, q⟩ := hs
    exact False.elim q
  | cont =>
    obtain ⟨_, _, _, q⟩ := hs
    exact False.elim q
end
section
variable {X : Cx} {W : WX} {k : Nat} {f : Addr} {fd : FuncData} {ps ks : List Str} {m : List D → Sto → R D} {x : Str} {p pos : Pos} {e : Expr} {es : List Expr} {ml mk : M (List D)} {kws : List Keyword}
def mCall (n : Nat) (m : List D → Sto → R D) (ml : M (List D)) : M D := fun ev S => (ml ev S).bind fun ds S1 => if ds.length = n then m ds S1 else .no
/-- the callee runs -/
theorem run_fnG {pins : List (Addr × Obj)} {σ : Sl} {H : Hp} {s : Shared} {Q : VK} {us : List Value} {kw : List (Str × Value)} {as : List Value} {vs : List V} {g : G} {ds : List D} {S : Sto} (F : FnG X.prog X.w X.K X.mg k f fd ps m) (hr : Room k X.A) (hgd : X.A.guards = some [])
    (tk : Takes X W) (I : Inv X pins σ H s) (hb : BindsTo s fd ⟨us, kw⟩ (ps.zip as)) (r : Vals vs as) (rl : Rel X.K X.mg g H S) (rr : RepL X.K X.mg g ds vs) (hl : ds.length = ps.length) (hP : Post X.K X.mg (Rep X.K X.mg) W σ g (m ds S) Q) :
    wpAny (model X.prog X.w) X.A (call (.ref f) us kw) (EP X pins σ Q) X.xe s := by
  refine wpAny_call (codeAny_mono (F.run X.base X.A X.stack s H ⟨us, kw⟩ as vs ds g S Q (fun c d H => W c d σ H) hr hgd I.env0 hb r rl rr hl hP) fun r s' hq => ?_)
  cases r with
  | error e => exact tk e s' (XE.of_call I (fun _ _ _ h => h) hq)
  | ok fl =>
    cases fl with
    | ret u => exact I.after hq
    | next => exact False.elim hq
    | brk => exact False.elim hq
    | cont => exact False.elim hq
theorem em_call (n : Nat) (F : FnG X.prog X.w X.K X.mg k f fd ps m) (hr : Room k X.A) (hgd : X.A.guards = some []) (tk : Takes X W) (hm : X.mg x = some (.ref f)) (hk : PySem.W.keepIn X.K (.ref f) = true) (hb : Binds X.K fd ps [])
    (ha : AM X W (e :: es) ml) (hn : ps.length = n := by rfl) (hg : Gl X x := by rfl) (hdb : (x == ("__debug__" : Str)) = false := by decide) (he : starEach (e :: es) X.env = (false, eval e X.env) :: starEach es X.env := by exact star1 rfl) (hpl : (backTo pos (starEach es X.env)).any (·.1) = false := by exact starP rfl) :
    EM X W (.Call (.Name x p) (e :: es) [] pos) (mCall n m ml) := by
  intro g σ H ev S Q rl er hP pins s I
  refine wpAny_Call_Name_kw (ld_glob I hg hm ?_ hdb)
  refine PySem.W.callWith_K (h₀ := X.base) I.ok.mod.kin hk (thn (ha g σ H ev S (fun vs H1 => ∃ (g1 : G) (ds : List D) (S1 : Sto), Rel X.K X.mg g1 H1 S1 ∧ RepL X.K X.mg g1 ds vs ∧ ds.length = n ∧ Post X.K X.mg (Rep X.K X.mg) W σ g1 (m ds S1) Q) rl er
    (Post.bind hP fun g1 ds S1 vs H1 l1 rl1 rx hP1 => ?_) pos pins s I) fun us s1 ⟨vs, H1, I1, r, g1, ds, S1, rl1, rx, hl, q⟩ => ⟨I1.kIn, ?_⟩) he hpl
  · split at hP1
    · rename_i hl
      exact ⟨g1, ds, S1, rl1, rx, hl, hP1⟩
    · exact hP1.elim
  · have hlu : (us ++ []).length = ps.length := by rw [List.append_nil, ← r.length, ← rx.length, hl, hn]
    have b := hb s1 us I1.kIn hlu
    rw [List.append_nil] at b
    exact run_fnG F hr hgd tk I1 b r rl1 rx (hl.trans hn.symm) q
theorem em_call0 (F : FnG X.prog X.w X.K X.mg k f fd ps m) (hr : Room k X.A) (hgd : X.A.guards = some []) (tk : Takes X W) (hm : X.mg x = some (.ref f)) (hk : PySem.W.keepIn X.K (.ref f) = true) (hb : Binds X.K fd ps [])
    (hn : ps = [] := by rfl) (hg : Gl X x := by rfl) (hdb : (x == ("__debug__" : Str)) = false := by decide) : EM X W (.Call (.Name x p) [] [] pos) (fun _ S => m [] S) := by
  intro g σ H ev S Q rl er hP pins s I
  refine wpAny_Call_Name_kw (ld_glob I hg hm ?_ hdb)
  subst hn
  refine PySem.W.callWith_K0 I.kIn hk ?_
  have b := hb s [] I.kIn rfl
  exact run_fnG (us := []) (as := []) F hr hgd tk I b .nil rl .nil rfl hP
/-! ### keywords -/
def permL {α : Type} (q : List Nat) (l : List α) : List α := q.filterMap fun i => l[i]?
/-- how a call with a positional arguments and the keywords ks binds -/
def BindsK (K : PySem.W.Frag) (fd : FuncData) (ps ks : List Str) (a : Nat) (q : List Nat) : Prop :=
  ∀ (s : Shared) (us ws : List Value), K.In s.heap → us.length = a → ws.length = ks.length → BindsTo s fd ⟨us, ks.zip ws⟩ (ps.zip (permL q (us ++ ws)))
def KM (X : Cx) (W : WX) (kws : List Keyword) (m : M (List D)) : Prop := ∀ (g : G) (σ : Sl) (H : Hp) (ev : Ev) (S : Sto) (Q : List V → Hp → Prop), Rel X.K X.mg g H S → EvR X.K X.mg X.pn g ev σ → Post X.K X.mg (RepL X.K X.mg) W σ g (m ev S) Q →
  ∀ (pos : Pos) (pins : List (Addr × Obj)) (s : Shared), Inv X pins σ H s → wpAny (model X.prog X.w) X.A (evalAll ((backToKw pos (keywordEach kws X.env)).map (·.2))) (AP X pins σ Q) X.xe s
theorem km_nil : KM X W [] (fun _ S => .ok [] S) := fun g σ H ev S Q rl er hP pos pins s I => pk_nil.run pos pins s σ H Q I (hP g [] H (G.le.refl g) rl .nil)
theorem km_cons {nm : Option Str} {kpos : Pos} {ma : M D} (h1 : EM X W e ma) (h2 : KM X W kws mk) : KM X W (⟨nm, e, kpos⟩ :: kws) (fun ev S => (ma ev S).bind fun d S1 => (mk ev S1).bind fun ds S2 => .ok (d :: ds) S2) := by
  intro g σ H ev S Q rl er hP pos pins s I
  have p2 : ∀ (g : G) (S : Sto), PK X kws (fun σ H Q => Rel X.K X.mg g H S ∧ EvR X.K X.mg X.pn g ev σ ∧ Post X.K X.mg (RepL X.K X.mg) W σ g (mk ev S) Q) := fun g S => ⟨fun pos pins s σ H Q I ⟨h1, h3, h4⟩ => h2 g σ H ev S Q h1 h3 h4 pos pins s I⟩
  have p3 : PK X kws (fun σ H Q => ∃ (g : G) (S : Sto), Rel X.K X.mg g H S ∧ EvR X.K X.mg X.pn g ev σ ∧ Post X.K X.mg (RepL X.K X.mg) W σ g (mk ev S) Q) := ⟨fun pos pins s σ H Q I ⟨g, S, h⟩ => (p2 g S).run pos pins s σ H Q I h⟩
  refine (pk_cons (peW X e) p3).run pos pins s σ H Q I (h1 g σ H ev S _ rl er (Post.bind hP fun g1 d S1 v H1 l1 rl1 rx hP1 => ?_))
  refine ⟨g1, S1, rl1, er.le l1, Post.bind hP1 fun g2 ds S2 vs H2 l2 rl2 rx2 hP2 => ?_⟩
  exact hP2 g2 _ H2 (G.le.refl g2) rl2 (.cons (rx.le l2) rx2)
theorem permR {g : G} {K : PySem.W.Frag} {mg : Str → Option Value} {ds : List D} {vs : List V} (h : RepL K mg g ds vs) : ∀ q : List Nat, (∀ i ∈ q, i < ds.length) → RepL K mg g (permL q ds) (permL q vs)
  | [], _ => .nil
  | i :: q, hq => by
    have hi : i < ds.length := hq i List.mem_cons_self
    obtain ⟨v, h1, h2⟩ := h.get (List.getElem?_eq_getElem hi)
    have e1 : permL (i :: q) ds = ds[i] :: permL q ds := by unfold permL; rw [List.filterMap_cons, List.getElem?_eq_getElem hi]
    have e2 : permL (i :: q) vs = v :: permL q vs := by unfold permL; rw [List.filterMap_cons, h1]
    rw [e1, e2]
    exact .cons h2 (permR h q fun j hj => hq j (List.mem_cons_of_mem _ hj))
theorem permV {vs : List V} {us : List Value} (h : Vals vs us) : ∀ q : List Nat, (∀ i ∈ q, i < vs.length) → Vals (permL q vs) (permL q us)
  | [], _ => .nil
  | i :: q, hq => by
    have hi : i < vs.length := hq i List.mem_cons_self
    obtain ⟨v, h1, h2⟩ := h.get (List.getElem?_eq_getElem hi)
    have e1 : permL (i :: q) vs = vs[i] :: permL q vs := by unfold permL; rw [List.filterMap_cons, List.getElem?_eq_getElem hi]
    have e2 : permL (i :: q) us = v :: permL q us := by unfold permL; rw [List.filterMap_cons, h1]
    rw [e1, e2]
    exact .cons h2 (permV h q fun j hj => hq j (List.mem_cons_of_mem _ hj))
theorem permLen {α : Type} : ∀ (q : List Nat) (l : List α), (∀ i ∈ q, i < l.length) → (permL q l).length = q.length
  | [], _, _ => rfl
  | i :: q, l, hq => by
    have hi : i < l.length := hq i List.mem_cons_self
    have e1 : permL (i :: q) l = l[i] :: permL q l := by unfold permL; rw [List.filterMap_cons, List.getElem?_eq_getElem hi]
    rw [e1, List.length_cons, List.length_cons, permLen q l fun j hj => hq j (List.mem_cons_of_mem _ hj)]
def mCallK (a b : Nat) (q : List Nat) (m : List D → Sto → R D) (ml mk : M (List D)) : M D := fun ev S => (ml ev S).bind fun ds S1 => (mk ev S1).bind fun zs S2 => if ds.length = a ∧ zs.length = b then m (permL q (ds ++ zs)) S2 else .no
theorem em_callK (a : Nat) (q : List Nat) (F : FnG X.prog X.w X.K X.mg k f fd ps m) (hr : Room k X.A) (hgd : X.A.guards = some []) (tk : Takes X W) (hm : X.mg x = some (.ref f)) (hk : PySem.W.keepIn X.K (.ref f) = true) (hb : BindsK X.K fd ps ks a q)
    (ha : AM X W (e :: es) ml) (hkw : KM X W kws mk) (hq : (q.all fun i => decide (i < a + ks.length)) = true := by rfl) (hql : q.length = ps.length := by rfl) (hall : (backToKw pos (keywordEach kws X.env)).all (·.1.isSome) = true := by exact kwAll rfl) (hks : (backToKw pos (keywordEach kws X.env)).filterMap (·.1) = ks := by exact kwNames rfl)
    (hg : Gl X x := by rfl) (hdb : (x == ("__debug__" : Str)) = false := by decide) (he : starEach (e :: es) X.env = (false, eval e X.env) :: starEach es X.env := by exact star1 rfl)
    (hpl : ((backTo pos (starEach (e :: es) X.env)).any (·.1) || (backToKw pos (keywordEach kws X.env)).any (·.1.isNone)) = false := by exact starKw rfl rfl) :
    EM X W (.Call (.Name x p) (e :: es) kws pos) (mCallK a ks.length q m ml mk) := by
  intro g σ H ev S Q rl er hP pins s I
  refine wpAny_Call_Name_kw (ld_glob I hg hm ?_ hdb)
  refine PySem.W.callWith_KW (h₀ := X.base) I.ok.mod.kin hk hall (thn (ha g σ H ev S (fun vs H1 => ∃ (g1 : G) (ds : List D) (S1 : Sto), Rel X.K X.mg g1 H1 S1 ∧ EvR X.K X.mg X.pn g1 ev σ ∧ RepL X.K X.mg g1 ds vs ∧
      Post X.K X.mg (Rep X.K X.mg) W σ g1 ((mk ev S1).bind fun zs S2 => if ds.length = a ∧ zs.length = ks.length then m (permL q (ds ++ zs)) S2 else .no) Q) rl er
    (Post.bind hP fun g1 ds S1 vs H1 l1 rl1 rx hP1 => ⟨g1, ds, S1, rl1, er.le l1, rx, hP1⟩) pos pins s I) fun us s1 ⟨vs, H1, I1, r, g1, ds, S1, rl1, er1, rx, q1⟩ => ?_) hpl he
  refine thn (hkw g1 σ H1 ev S1 (fun zs H2 => ∃ (g2 : G) (dz : List D) (S2 : Sto), Rel X.K X.mg g2 H2 S2 ∧ RepL X.K X.mg g2 (ds ++ dz) (vs ++ zs) ∧ ds.length = a ∧ dz.length = ks.length ∧ Post X.K X.mg (Rep X.K X.mg) W σ g2 (m (permL q (ds ++ dz)) S2) Q) rl1 er1
    (Post.bind q1 fun g2 dz S2 zs H2 l2 rl2 rz hP2 => ?_) pos pins s1 I1) fun ws s2 ⟨zs, H2, I2, rw', g2, dz, S2, rl2, rr, e1, e2, q2⟩ => ⟨I2.kIn, ?_⟩
  · split at hP2
    · rename_i hl
      exact ⟨g2, dz, S2, rl2, (rx.le l2).append rz, hl.1, hl.2, hP2⟩
    · exact hP2.elim
  · rw [hks]
    have hq' : ∀ i ∈ q, i < a + ks.length := fun i hi => by
      have := List.all_eq_true.mp hq i hi
      simpa using this
    have hl1 : (ds ++ dz).length = a + ks.length := by rw [List.length_append, e1, e2]
    have hl2 : (vs ++ zs).length = a + ks.length := by rw [← rr.length, hl1]
    have lu : us.length = a := by rw [← r.length, ← rx.length, e1]
    have lw : ws.length = ks.length := by
      rw [← rw'.length]
      have h1 := rx.length
      rw [List.length_append] at hl2
      omega
    exact run_fnG F hr hgd tk I2 (hb s2 us ws I2.kIn lu lw) (permV (r.append rw') q fun i hi => by rw [hl2]; exact hq' i hi) rl2 (permR rr q fun i hi => by rw [hl1]; exact hq' i hi) (by rw [permLen q _ fun i hi => by rw [hl1]; exact hq' i hi, hql]) q2
theorem em_callK0 (q : List Nat) (F : FnG X.prog X.w X.K X.mg k f fd ps m) (hr : Room k X.A) (hgd : X.A.guards = some []) (tk : Takes X W) (hm : X.mg x = some (.ref f)) (hk : PySem.W.keepIn X.K (.ref f) = true) (hb : BindsK X.K fd ps ks 0 q)
    (hkw : KM X W kws mk) (hq : (q.all fun i => decide (i < ks.length)) = true := by rfl) (hql : q.length = ps.length := by rfl) (hall : (backToKw pos (keywordEach kws X.env)).all (·.1.isSome) = true := by exact kwAll rfl) (hks : (backToKw pos (keywordEach kws X.env)).filterMap (·.1) = ks := by exact kwNames rfl)
    (hg : Gl X x := by rfl) (hdb : (x == ("__debug__" : Str)) = false := by decide)
    (hpl : ((backTo pos (starEach [] X.env)).any (·.1) || (backToKw pos (keywordEach kws X.env)).any (·.1.isNone)) = false := by exact starKw rfl rfl) :
    EM X W (.Call (.Name x p) [] kws pos) (mCallK 0 ks.length q m (fun _ S => .ok [] S) mk) := by
  intro g σ H ev S Q rl er hP pins s I
  refine wpAny_Call_Name_kw (ld_glob I hg hm ?_ hdb)
  refine PySem.W.callWith_KW0 (h₀ := X.base) I.ok.mod.kin hk hall ?_ hpl
  refine thn (hkw g σ H ev S (fun zs H2 => ∃ (g2 : G) (dz : List D) (S2 : Sto), Rel X.K X.mg g2 H2 S2 ∧ RepL X.K X.mg g2 dz zs ∧ dz.length = ks.length ∧ Post X.K X.mg (Rep X.K X.mg) W σ g2 (m (permL q dz) S2) Q) rl er
    (Post.bind hP fun g2 dz S2 zs H2 l2 rl2 rz hP2 => ?_) pos pins s I) fun ws s2 ⟨zs, H2, I2, rw', g2, dz, S2, rl2, rr, e2, q2⟩ => ⟨I2.kIn, ?_⟩
  · split at hP2
    · rename_i hl
      exact ⟨g2, dz, S2, rl2, rz, hl.2, hP2⟩
    · exact hP2.elim
  · rw [hks]
    have hq' : ∀ i ∈ q, i < ks.length := fun i hi => by
      have := List.all_eq_true.mp hq i hi
      simpa using this
    have lw : ws.length = ks.length := by rw [← rw'.length, ← rr.length, e2]
    exact run_fnG (us := []) F hr hgd tk I2 (hb s2 [] ws I2.kIn rfl lw) (permV rw' q fun i hi => by rw [← rr.length, e2]; exact hq' i hi) rl2 (permR rr q fun i hi => by rw [e2]; exact hq' i hi) (by rw [permLen q _ fun i hi => by rw [e2]; exact hq' i hi, hql]) q2
end
end ML


set_option Elab.async false
set_option linter.all false
set_option maxRecDepth 100000
set_option autoImplicit false
set_option maxHeartbeats 4000000
/-! own error classes with one field: the class's __init__ stores its one argument (turned from the kit's worked proof of an own error: any name of class and field, __init__ own or inherited) -/
namespace ML
namespace Low
open PySem PySem.Spec PySem.W PySem.Calls PyProof.Rows PySem.HandSPX
/-! ### the text of __init__ -/
def iA (fld : Str) (p1 p2 : Pos) : Arguments := { posonlyargs := [], args := [{ arg := "self", annotation := none, pos := p1 }, { arg := fld, annotation := none, pos := p2 }], vararg := none, kwonlyargs := [], kw_defaults := [], kwarg := none, defaults := [] }
def iB (fld : Str) (q1 q2 q3 q4 : Pos) : List Stmt := [.Assign [.Attribute (.Name "self" q1) fld q2] (.Name fld q3) q4]
def iS (fld : Str) : Scope := { kind := .function, names := [(PySem.Str.ofString "self", .local), (fld, .local)], isGenerator := false, isCoroutine := false, more := [] }
/-- what the name of a field must be: seen by computing -/
structure FldOk (fld : Str) : Prop where
  ne2 : (fld == ("__debug__" : Str)) = false
  bind : ∀ (iq : Str) (p1 p2 q1 q2 q3 q4 : Pos) (doc pm : Value) (an : Option Addr) (cdv ct x v : Value), bindArgs (fnOf "__init__" iq (iA fld p1 p2) (iB fld q1 q2 q3 q4) (iS fld) .none .none doc pm an cdv ct) ⟨[x, v], []⟩ = pure [(("self" : Str), x), (fld, v)]
  kind : ∀ x v : Value, ([(("self" : Str), x), (fld, v)].all fun y => (iS fld).names.lookup y.1 == some .local || (iS fld).names.lookup y.1 == some .cell) = true
  gv : ∀ (iq : Str) (L fa : Addr) (cd x v : Value), bindL (envOfC iq (iS fld) L fa cd).kindOf [(("self" : Str), x), (fld, v)] (fun _ => none) fld = some v
  gs : ∀ (iq : Str) (L fa : Addr) (cd x v : Value), bindL (envOfC iq (iS fld) L fa cd).kindOf [(("self" : Str), x), (fld, v)] (fun _ => none) "self" = some x
  k1 : ∀ (iq : Str) (L fa : Addr) (cd : Value), (envOfC iq (iS fld) L fa cd).kindOf fld = some .local
structure LowTxt (K : Frag) (mg : Str → Option Value) (x fld iq : Str) (C fI : Addr) : Prop where
  fo : FldOk fld
  gC : mg x = some (.ref C)
  cls : ∃ nm q N bs bm sn sub ab col dd k0 k1 k2 k3 k5, K.lookup C = some (excClassObj nm q C N bs bm true sn sub ab col dd k0 k1 k2 k3 k5 "ValueError.__new__") ∧ refsVE bm = true
  sa : findIn K (.ref C) "__setattr__" = some (some (.builtin "object.__setattr__"))
  ga : findIn K (.ref C) "__getattribute__" = some (some (.builtin "BaseException.__getattribute__"))
  gg : findIn K (.ref C) "__getattr__" = some none
  noN : findIn K (.ref C) fld = some none
  iC : findIn K (.ref C) "__init__" = some (some (.ref fI))
  tC : typeIn K (.ref fI) = some (.type "function")
  kC : keepIn K (.ref C) = true
  exC : subIn K (.ref C) (.type "BaseException") = some true
  tyC : typeIn K (.ref C) = some (.type "type")
  hdC : hasDictIn K C = true
  fn : ∃ (oc : Value) (od : Option Addr) (doc pm : Value) (an : Option Addr) (cdv ct : Value) (osl : Array (Option Value)) (p1 p2 q1 q2 q3 q4 : Pos),
    K.lookup fI = some ⟨oc, od, .func (fnOf "__init__" iq (iA fld p1 p2) (iB fld q1 q2 q3 q4) (iS fld) .none .none doc pm an cdv ct), osl⟩ ∧ codeIn K cdv iq = true
theorem one_size (v : Value) : [v].length ≤ sizeLine := by
  rw [sizeLine_eq]
  exact (by decide : 1 ≤ 16777216)
theorem ldC {M : Model} {s : Shared} {name : Str} {scope : Scope} {L a : Addr} {cd : Value} {m : Str → Option Value} {x : Str} {pos : Pos} {v : Value} {Q : Value → Shared → Prop} {A : Around} {E : Value → Shared → Prop} (hn : s.heap.Ns L m) (hv : m x = some v) (h : Q v s)
    (hk : scope.kind = .function) (hl : (envOfC name scope L a cd).kindOf x = some .local) (hd : (x == ("__debug__" : Str)) = false) :
    wpAny M A (eval (.Name x pos) (envOfC name scope L a cd)) Q E s := wpAny_Name (wpAny_loadName_local hk hl hn hv h) hd
structure InitEnd (fld : Str) (h h' : Heap) (x C dx t1 : Addr) (v : Value) : Prop where
  keep : ∀ b o, b ≠ x → h.get? b = some o → h'.get? b = some o
  obj : h'.get? x = some { cls := .ref C, dict := some dx, data := .fields #[.ref t1, .none, .none, .none, .bool false, .none] }
  dbig : h.objs.size ≤ dx
  dne : dx ≠ x
  ns : h'.Ns1 dx (fun y => if y = fld then some v else none)
structure OwnMade (fld : Str) (h h' : Heap) (e C d : Addr) (v : Value) : Prop where
  keep : ∀ b o, h.get? b = some o → h'.get? b = some o
  new : h.objs.size ≤ e
  obj : ∃ oe vs, h'.get? e = some oe ∧ oe.cls = .ref C ∧ oe.dict = some d ∧ oe.data = .fields vs ∧ vs[1]? = some .none
  dbig : h.objs.size ≤ d
  dne : d ≠ e
  ns : h'.Ns1 d (fun y => if y = fld then some v else none)
section
variable {prog : Program} {w : World} {A : Around} {E : Value → Shared → Prop} {R : Result → Shared → Prop} {s : Shared} {K : Frag} {mg : Str → Option Value} {C fI : Addr} {cx fld iq : Str}
theorem low_init (T : LowTxt K mg cx fld iq C fI) {x t0 : Addr} {v : Value} (X : K.In s.heap) (hlim : s.heap.NoLimit) (hx : s.heap.get? x = some (excO C t0)) (hnx : K.lookup x = none) (hroom : A.depth < recursionLimit)
    (hq : ∀ h' tk dx, InitEnd fld s.heap h' x C dx t0 v → R (.ok (.ret .none)) { s with heap := h', toks := tk }) :
    codeAny (model prog w) A (.call (.ref fI) ⟨[.ref x, v], []⟩) R s := by
  obtain ⟨oc, od, doc, pm, an, cdv, ct, osl, p1, p2, q1, q2, q3, q4, ho, hcd⟩ := T.fn
  obtain ⟨nm, q, N, bs, bm, sn, sub, ab, col, dd, k0, k1, k2, k3, k5, hC, hbm⟩ := T.cls
  have hcl : clsIn K C = some { name := nm, bases := bs, mro := .ref C :: bm, ns := N, qualname := q, hasDict := true, slotNames := sn, subclasses := sub, abstract := ab, collection := col, hasDel := false } := by unfold clsIn; rw [hC] <;> rfl
  refine Att.call_fn (binds := [(("self" : Str), .ref x), (fld, v)]) X hlim ho hcd hroom (BindsTo.of_eq (T.fo.bind _ _ _ _ _ _ _ _ _ _ _ _ _ _)) (T.fo.kind _ _) (fun s₁ IC => ?_) rfl rfl rfl
  obtain ⟨h₁, tk₁, rfl⟩ := IC.toInCall.same
  have k : ∀ b o, s.heap.get? b = some o → h₁.get? b = some o := IC.toInCall.keep
  have hn := IC.toInCall.ns
  have hxL : s.heap.objs.size ≠ x := Nat.ne_of_gt (Heap.lt_size hx)
  have X₁ : K.In h₁ := X.keeps k
  have hx₁ := k _ _ hx
  -- self.fld = fld
  show wpAny _ _ (execs _ _) _ _ _
  refine wpAny_execs_cons (plainObj_wpAny_Assign_Attribute ?_)
  refine ldC (v := v) hn (T.fo.gv _ _ _ _ _ _) (ldC (v := .ref x) hn (T.fo.gs _ _ _ _ _ _) ?_ rfl rfl (by decide)) rfl (T.fo.k1 _ _ _ _) T.fo.ne2
  refine set_plain X₁ (ox := excO C t0) (od := none) ⟨hx₁, rfl, rfl, trivial⟩ T.sa ?_
  refine exc_osa X₁ hx₁ hcl (show refsVE (.ref C :: bm) = true from hbm) rfl T.noN (fun h₃ tk₃ dx k₃ dn dne hx₃ hn₃ => ?_)
  show wpAny _ _ (execs _ _) _ _ _
  have z : s.heap.objs.size < h₁.objs.size := hn.lt
  exact wpAny_execs_nil (hq h₃ tk₃ dx ⟨fun b o hb e => k₃ b o hb (k b o e), hx₃, Nat.le_of_lt (Nat.lt_of_lt_of_le z dn), dne, hn₃⟩)
theorem low_made (T : LowTxt K mg cx fld iq C fI) {v : Value} (X : K.In s.heap) (hlim : s.heap.NoLimit) (hroom : A.depth + 1 < recursionLimit)
    (hq : ∀ h' tk e d, OwnMade fld s.heap h' e C d v → R (.ok (.ret (.ref e))) { s with heap := h', toks := tk }) :
    codeAny (model prog w) A (.call (.ref C) ⟨[v], []⟩) R s := by
  obtain ⟨nm, q, N, bs, bm, sn, sub, ab, col, dd, k0, k1, k2, k3, k5, hC, hbm⟩ := T.cls
  obtain ⟨hp, g, dr, tk, os⟩ := s
  have k : ∀ b o, hp.get? b = some o → ((hp.push (kdv_tup [v])).push (excO C hp.objs.size)).get? b = some o := fun b o e => Heap.get?_push_of_some _ (Heap.get?_push_of_some _ e)
  have hget : ((hp.push (kdv_tup [v])).push (excO C hp.objs.size)).get? (hp.objs.size + 1) = some (excO C hp.objs.size) := by heap_get
  have hnx : K.lookup (hp.objs.size + 1) = none := by
    cases e : K.lookup (hp.objs.size + 1) with
    | none => rfl
    | some o =>
      have z : hp.get? (hp.objs.size + 1) = some o := X _ _ e
      exact absurd (Nat.lt_of_succ_lt (Heap.lt_size z)) (Nat.lt_irrefl _)
  refine call_own F.excBase_ValueError (fun X => refsVE_contains X bm hbm) (X _ _ hC) (looks_findIn X T.iC) (fun self => bind_fn X self T.tC) (one_size v) ?_
  refine low_init (s := ⟨(hp.push (kdv_tup [v])).push (excO C hp.objs.size), g, dr, tk, os⟩) T (X.keeps k) (hlim.keeps k) hget hnx ?_ fun h' tk' dx ⟨k', hx, dn, dne, hns⟩ => ?_
  · show A.depth + 1 < recursionLimit
    exact hroom
  · have old : ∀ b o, hp.get? b = some o → h'.get? b = some o := fun b o e => k' b o (Nat.ne_of_lt (Nat.lt_succ_of_lt (Heap.lt_size e))) (k b o e)
    have z : hp.objs.size + 1 + 1 ≤ dx := by
      first
        | (simpa only [Heap.size_push] using dn)
        | exact dn
        | (have q := dn; rw [Heap.size_push, Heap.size_push] at q; exact q)
    exact ⟨rfl, hq h' tk' (hp.objs.size + 1) dx ⟨old, Nat.le_succ _, ⟨_, _, hx, rfl, rfl, rfl, rfl⟩, Nat.le_trans (Nat.le_trans (Nat.le_succ _) (Nat.le_succ _)) z, dne, hns⟩⟩
end
end Low
open PySem PySem.Spec PyProof.Rows L2
theorem relO_low {fld : Str} {v : V} {v' : Value} (r : RelV v v') (f : Str) : RelO (List.lookup f [(fld, v)]) (if f = fld then some v' else none) := by
  by_cases hw : f = fld
  · subst hw
    rw [if_pos rfl]
    have q : List.lookup f [(f, v)] = some v := by simp [List.lookup]
    rw [q]
    exact r
  · rw [if_neg hw]
    have qw : (f == fld) = false := by simpa using hw
    have q2 : List.lookup f [(fld, v)] = none := by simp [List.lookup, qw]
    rw [q2]
    trivial
section
variable {X : Cx} {W : WX} {C fI : Addr} {cx fld iq : Str}
def tMkLow (fld : Str) (C : Addr) (ta : TA) : Sl → Hp → XK → Prop := fun σ H Q => ta σ H fun vs H1 => ∃ v, vs = [v] ∧ ∀ d, H1 d = none → Q (.ref C) (some d) (upd H1 d (.xd [(fld, v)]))
theorem pmk_low {a : Expr} {ta : TA} {p pos : Pos} {k : Nat} (T : Low.LowTxt X.K X.mg cx fld iq C fI) (hr : Room k X.A) (ha : PA X [a] ta) (hg : Gl X cx) (hdb : (cx == ("__debug__" : Str)) = false)
    (he : starEach (a :: []) X.env = (false, eval a X.env) :: starEach [] X.env := by exact star1 rfl) (hpl : (backTo pos (starEach [] X.env)).any (·.1) = false := by exact starP rfl) :
    PMk X (.Call (.Name cx p) [a] [] pos) (tMkLow fld C ta) := by
  intro pins s σ H Q I h
  refine wpAny_Call_Name_kw (ld_glob I hg T.gC ?_ hdb)
  refine PySem.W.callWith_K (h₀ := X.base) I.ok.mod.kin T.kC (thn (ha.run pos pins s σ H _ I h) fun us s1 hh => ?_) he hpl
  obtain ⟨vs, H1, I1, r1, v, ev, q1⟩ := hh
  subst ev
  refine ⟨I1.kIn, ?_⟩
  cases r1 with
  | cons rv rn =>
    rename_i v' us'
    cases rn
    show wpAny _ _ (call (.ref C) [v']) _ _ _
    have hlim := I1.nolimit
    obtain ⟨hp, g, dr, tk, os⟩ := s1
    refine wpAny_call (Low.low_made T I1.kIn hlim (by have := hr.dp; omega) fun h' tk' e d M => ?_)
    show MkP X pins σ Q (.ref e) ⟨h', g, dr, tk', os⟩
    obtain ⟨oe, fv, hoe, hc, hd, hdat, h1⟩ := M.obj
    have hns := M.ns
    obtain ⟨G', g1, g2⟩ := restrict h' fun b => decide (b ≠ e)
    have gk : ∀ b, b ≠ e → G'.get? b = h'.get? b := fun b hb => g1 b (decide_eq_true hb)
    have ge : G'.get? e = none := g2 e (by simp)
    have old : ∀ b o, hp.get? b = some o → G'.get? b = some o := fun b o q => (gk b (Nat.ne_of_lt (Nat.lt_of_lt_of_le (Heap.lt_size q) M.new))).trans (M.keep b o q)
    have ob : ObjOk X.prog X.w (upd H1 d (.xd [(fld, v)])) G' d (.xd [(fld, v)]) :=
      ⟨_, hns.at (fun o q => (gk d M.dne).trans q), fun f => relO_low rv f⟩
    have J : Inv X pins σ (upd H1 d (.xd [(fld, v)])) ⟨G', g, dr, tk', os⟩ := I1.laid (t' := tk') old M.dbig ob
    refine ⟨e, oe, fv, ⟨G', g, dr, tk', os⟩, _, .ref C, some d, rfl, J, fun b o q => ?_, ge, hoe, ⟨hc, hd⟩, hdat, h1, ?_, rfl, I1.bare, raises_own T.exC T.tyC, q1 d (I1.hok.fresh M.dbig)⟩
    · by_cases hb : b = e
      · have q' : G'.get? b = some o := q
        rw [hb, ge] at q'; cases q'
      · exact (gk b hb).symm.trans q
    · rw [upd_ne (Ne.symm M.dne)]
      exact I1.hok.fresh M.new
/-- raise C(e) -/
def asRaise (cx fld : Str) (ev : Ev) : List D → Sto → RS := fun ds S => match ds with
  | [d] => .ex ⟨cx, [fld], [d]⟩ ev S
  | _ => .no
def sRaise (cx fld : Str) (ml : M (List D)) : MS := fun ev S => bindS (ml ev S) ev (asRaise cx fld ev)
theorem sm_raise {a : Expr} {ml : M (List D)} {p pos pos2 : Pos} {k : Nat} (hc : X.calm = true) (T : Low.LowTxt X.K X.mg cx fld iq C fI) (hr : Room k X.A) (tk : Takes X W) (ha : AM X W [a] ml) (hg : Gl X cx := by rfl) (hdb : (cx == ("__debug__" : Str)) = false := by decide)
    (he : starEach (a :: []) X.env = (false, eval a X.env) :: starEach [] X.env := by exact star1 rfl) (hpl : (backTo pos (starEach [] X.env)).any (·.1) = false := by exact starP rfl) :
    SM X W (.Raise (some (.Call (.Name cx p) [a] [] pos)) none pos2) (sRaise cx fld ml) := by
  intro g σ H ev S E rl er hP
  refine wS (ps_raise hc tk (pmk_low T hr (paW X [a]) hg hdb he hpl)) (ha g σ H ev S _ rl er (PostS.bind hP er fun g1 ds S1 vs H1 l1 rl1 rx hP1 => ?_))
  unfold asRaise at hP1
  split at hP1
  · rename_i d0
    obtain ⟨v, rfl, r⟩ := rep1 rx
    refine ⟨v, rfl, fun d hd => ?_⟩
    have l2 : g1.le (g1.known d (.xd [(fld, v)])) := G.le_known (rl1.fnone hd)
    exact hP1 _ (.ref C) (some d) σ _ l2 (rl1.fresh hd _) ((er.le l1).le l2) ⟨C, d, [v], T.gC, rfl, rfl, upd_same, .cons (r.le l2) .nil⟩
  · exact hP1.elim
end
end ML


set_option Elab.async false
set_option linter.all false
set_option maxRecDepth 100000
set_option autoImplicit false
set_option maxHeartbeats 4000000
/-! try: .. except A as e: .. except B as f: .. (each suite with its own name) -/
namespace ML
open PySem PySem.Spec PyProof.Rows L2
abbrev HL := List (Value × Nat × (Addr → Value → Option Addr → TS))
def undo (i : Nat) (D : Ends) : Ends := { nx := fun σ' H' => D.nx (σ'.set i none) H', rt := D.rt, bk := fun σ' H' => D.bk (σ'.set i none) H', ct := fun σ' H' => D.ct (σ'.set i none) H' }
def wManyA (K : PySem.W.Frag) (Wout : WX) (D : Ends) : HL → WX
  | [] => Wout
  | (c, i, ts) :: r => fun cls d σ H => ∃ b, PySem.W.exmOne K cls c = some b ∧ (b = true → ∀ a, H a = none → ts a cls d (undo i D) (σ.set i (some (.ref a))) H) ∧ (b = false → wManyA K Wout D r cls d σ H)
inductive HdsA (X : Cx) : List ExceptHandler → HL → Prop
  | nil : HdsA X [] []
  | cons {x n : Str} {i : Nat} {c : Value} {ts : Addr → Value → Option Addr → TS} {b₀ : Stmt} {suite : List Stmt} {np pos' : Pos} {hds : List ExceptHandler} {l : HL} (hc : Names X x c) (hi : X.N[i]? = some n) (hln : X.env.kindOf n = some .local)
      (hsu : ∀ (a : Addr) (oe : Obj) (cls : Value) (d : Option Addr) (pn : List (Addr × Obj)), Zc cls d oe → (∃ vs, oe.data = .fields vs) → PSs (X.suite a ((a, oe) :: pn)) (b₀ :: suite) (ts a cls d)) (r : HdsA X hds l) :
      HdsA X (.ExceptHandler (some (.Name x np)) (some n) (b₀ :: suite) pos' :: hds) ((c, i, ts) :: l)
section
variable {X : Cx} {body : List Stmt} {h₀ : ExceptHandler} {hds : List ExceptHandler} {l : HL} {pos : Pos} {tb : WX → TS} {Wout : WX}
theorem ps_try_manyAs (hs : X.stack = X.env :: X.outer) (hf : X.env.frame = some X.env.locals) (hN : X.N.Nodup) (tk : Takes X Wout)
    (hb : ∀ (W : WX) (pn : List (Addr × Obj)) (xe : Value → Shared → Prop), Takes (X.tr pn xe) W → PassesOwn (model X.prog X.w) X.A X.env xe → PSs (X.tr pn xe) body (tb W))
    (hh : HdsA X (h₀ :: hds) l) : PS X (.Try body (h₀ :: hds) [] [] pos) (fun D σ H => tb (wManyA X.K Wout D l) D σ H) := by
  refine ⟨fun pins s σ H D I h => ?_⟩
  have ok := I.ok
  have hfr : X.A.frames = some (X.env :: X.outer) := by rw [ok.frames, hs]
  refine wpAny_Try_except ?_
  refine wpAny_mono ((hb (wManyA X.K Wout D l) (X.pn ++ pins) (fun e s₁ => wpAny (model X.prog X.w) X.A (noteFrame e X.env) (fun _ s₂ => wpAny (model X.prog X.w) X.A (setFlight e none) (fun _ s₃ =>
    wpAny (model X.prog X.w) X.A (handleBy e X.env (h₀ :: hds)) (SP X pins D) X.xe s₃) X.xe s₂) X.xe s₁) (fun u s' xx => ?_) PassesOwn.looking).run [] s σ H D (I.toTry _) h) (fun f s1 hsp => ?_) (fun e s1 he => he)
  · obtain ⟨a, B, sI, pins', σ', H', cls, d, rfl, J', nb, up, sky, na, os, ag, w⟩ := xx
    have J : Inv X pins σ' H' sI := J'.ofTry ok
    have sky' : Sky B (X.env :: X.outer) a (Zc cls d) X.env.locals s'.heap := by rw [← hs]; exact sky
    show wpAny (model X.prog X.w) X.A (noteFrame (.ref a) X.env) _ _ _
    refine Sky.land Zc.steady hfr hf sky' fun h3 fl3 up3 => ?_
    have J3 : Inv X pins σ' H' { s' with heap := h3 } := J.landed nb fl3.1 (up.trans up3) os ag
    obtain ⟨oe3, vs3, he3, hz3, hd3⟩ := fl3.there
    have notFr : ∀ {h : Heap} {o : Obj} {vs : Array Value}, h.FunFrames B (X.env :: X.outer) → h.get? a = some o → o.data = .fields vs → a ∉ frs (X.env :: X.outer) := fun {h o vs} ff e dd hm => by
      obtain ⟨_, o', e', hnf⟩ := ff.mem hm
      rw [e] at e'; cases e'
      exact hnf _ dd
    have nfr := notFr fl3.2.2.1 he3 hd3
    have nL : a ≠ X.env.locals := fun z => nfr (List.mem_filterMap.mpr ⟨X.env, List.mem_cons_self, by rw [hf, z]⟩)
    have nF : a ∉ X.fs := fun hm => by
      obtain ⟨e, he, q⟩ := List.mem_filterMap.mp hm
      exact nfr (List.mem_filterMap.mpr ⟨e, List.mem_cons_of_mem _ he, q⟩)
    have S3 := J3.suite he3 hd3 na nL nF
    have go : ∀ {hds' : List ExceptHandler} {l' : HL}, HdsA X hds' l' → wManyA X.K Wout D l' cls d σ' H' → wpAny (model X.prog X.w) X.A (handleBy (.ref a) X.env hds') (SP X pins D) X.xe { s' with heap := h3 } := by
      intro hds' l' hk
      induction hk with
      | nil =>
        intro w
        refine wpAny_handleBy_nil ?_
        obtain ⟨k1, k2, k3, oe, vs, T, oT, ts', he, hz, hd, h1, hr⟩ := id fl3
        unfold PySem.passOn
        refine wpAny_bind (wpAny_field he hd h1 ?_)
        rw [if_neg (show ¬ ((Value.ref T == Value.none) = true) from by simp)]
        have fin : wpAny (model X.prog X.w) X.A (setFlight (.ref a) X.env.frame) (fun _ s4 => wpAny (model X.prog X.w) X.A (throw (.ref a) : Sem Flow) (SP X pins D) X.xe s4) X.xe { s' with heap := h3 } := by
          rw [hf]
          refine HandSPX.setFlight_upZ fl3 fun h4 hh4 up4 => wpAny_throw (tk _ _ ?_)
          exact ⟨a, B, sI, pins, σ', H', cls, d, rfl, J, nb, (up.trans up3).trans up4, .inr (.inr (by rw [hs]; exact hh4)), na, os, ag, w⟩
        first
          | exact wpAny_bind (wpAny_pure (wpAny_bind fin))
          | exact wpAny_bind fin
      | @cons x n i c ts b₀ suite np pos' hds2 l2 hc hi hln hsu r ih =>
        intro w
        obtain ⟨b, hb1, hyes, hno⟩ := w
        have hloc : Loc X.env.scope n := .inl hln
        refine wpAny_handleBy_cons (codeAny_handlers_test ?_) (by intro q; cases q)
        have LT : PySem.W.Looks (model X.prog X.w) h3 (typeOf (.ref a)) cls := fun A Q E s k q => wpAny_typeOf_ref (k _ _ he3) (by rw [hz3.1]; exact q)
        have LM := PySem.W.exm_one (M := model X.prog X.w) (J3.kIn) LT hb1
        have test : ∀ {Q : Value → Shared → Prop} {E : Value → Shared → Prop}, Q c { s' with heap := h3 } → wpAny (model X.prog X.w) (X.A.mark (some (.ref a))) (eval (.Name x np) X.env) Q E { s' with heap := h3 } := fun {Q E} q => by
          obtain ⟨hg, hdbg, hm | ⟨hm, hv, hnn⟩⟩ := hc
          · exact ld_glob (X := X.suite a ((a, oe3) :: (X.pn ++ pins))) S3 hg hm q hdbg
          · exact ld_blt (X := X.suite a ((a, oe3) :: (X.pn ++ pins))) S3 hg hm hv q hnn hdbg
        refine test (LM.here ?_)
        cases b with
        | true =>
          refine codeAny_handlers_suite_as ?_
          refine HandSPX.lands_againZ fl3 fun h4 fl4 up4 => ?_
          have J4 : Inv X pins σ' H' { s' with heap := h4 } := J.landed nb fl4.1 ((up.trans up3).trans up4) os ag
          obtain ⟨oe4, vs4, he4, hz4, hd4⟩ := fl4.there
          have S4 := J4.suite he4 hd4 na nL nF
          refine store_ok (X := X.suite a ((a, oe4) :: (X.pn ++ pins))) (v := .ref a) S4 hN hi hloc rfl (fun s5 S5 => ?_) (.inr hln)
          refine wpAny_mono ((hsu a oe4 cls d (X.pn ++ pins) hz4 ⟨_, hd4⟩).run [] s5 _ H' _ S5 (hyes rfl a na)) (fun f s6 hsp => ?_) (fun _ _ z => False.elim z)
          have end_ : ∀ {σ6 : Sl} {H6 : Hp} {Q : Shared → Prop}, Inv (X.suite a ((a, oe4) :: (X.pn ++ pins))) [] σ6 H6 s6 → (∀ s7, Inv X pins (σ6.set i none) H6 s7 → Q s7) →
              wpAny (model X.prog X.w) X.A (do bindName X.env n .none; unbindBehindTheSuite X.env n pos') (fun _ s7 => Q s7) X.xe s6 := fun {σ6 H6 Q} S6 hq => gone_ok (S6.unsuite ok) hN hi hln hq
          cases f with
          | next =>
            obtain ⟨σ6, H6, S6, q6⟩ := hsp
            exact end_ S6 fun s7 J7 => ⟨_, _, J7, q6⟩
          | brk =>
            obtain ⟨σ6, H6, S6, q6⟩ := hsp
            exact end_ S6 fun s7 J7 => ⟨_, _, J7, q6⟩
          | cont =>
            obtain ⟨σ6, H6, S6, q6⟩ := hsp
            exact end_ S6 fun s7 J7 => ⟨_, _, J7, q6⟩
          | ret u =>
            obtain ⟨v6, σ6, H6, S6, r6, q6⟩ := hsp
            exact end_ S6 fun s7 J7 => ⟨_, _, _, J7, r6, q6⟩
        | false =>
          show wpAny _ X.A (handleBy (.ref a) X.env hds2) _ _ _
          exact ih (hno rfl)
    exact go hh w
  · cases f with
    | next =>
      obtain ⟨σ', H', J', q⟩ := hsp
      exact wpAny_execs_nil ⟨σ', H', J'.ofTry ok, q⟩
    | brk =>
      obtain ⟨σ', H', J', q⟩ := hsp
      exact ⟨σ', H', J'.ofTry ok, q⟩
    | cont =>
      obtain ⟨σ', H', J', q⟩ := hsp
      exact ⟨σ', H', J'.ofTry ok, q⟩
    | ret u =>
      obtain ⟨v, σ', H', J', r, q⟩ := hsp
      exact ⟨v, σ', H', J'.ofTry ok, r, q⟩
end
theorem takes_W0 {X : Cx} : Takes X W0 := fun _ _ ⟨_, _, _, _, _, _, _, _, _, _, _, _, _, _, _, _, w⟩ => w.elim

/-! ### the mirror of a try -/
structure Hn where
  test : Str → Option Bool
  slot : Nat
  m : MS
def outS (i : Nat) (r : RS) : RS :=
  match r with
  | .ok fl ev S => .ok fl (evNoX (ev.set i none)) S
  | _ => .no
def tryH : List Hn → Xn → Ev → Sto → RS
  | [], x, ev, S => .ex x ev S
  | h :: r, x, ev, S => match h.test x.cls with
    | some true => outS h.slot (h.m (ev.set h.slot (some (.xo x.cls x.ns x.ds))) S)
    | some false => tryH r x ev S
    | none => .no
def sTry (mb : MS) (hs : List Hn) : MS := fun ev S => match mb ev S with
  | .ok fl ev1 S1 => .ok fl (evNoX ev1) S1
  | .ex x ev1 S1 => tryH hs x (evNoX ev1) S1
  | .no => .no
/-- each clause runs as its mirror says -/
inductive HsM (X : Cx) : List ExceptHandler → List Hn → Prop
  | nil : HsM X [] []
  | cons {x n : Str} {i : Nat} {c : Value} {b₀ : Stmt} {suite : List Stmt} {np pos' : Pos} {hds : List ExceptHandler} {l : List Hn} {t : Str → Option Bool} {m : MS} (hc : Names X x c) (hi : X.N[i]? = some n) (hln : X.env.kindOf n = some .local)
      (ht : ∀ (y : Str) (b : Bool) (C : Addr), t y = some b → X.mg y = some (.ref C) → PySem.W.exmOne X.K (.ref C) c = some b)
      (hsu : ∀ (a : Addr) (pn : List (Addr × Obj)), SMs (X.suite a pn) W0 (b₀ :: suite) m) (r : HsM X hds l) :
      HsM X (.ExceptHandler (some (.Name x np)) (some n) (b₀ :: suite) pos' :: hds) (⟨t, i, m⟩ :: l)
section
variable {X : Cx} {W : WX}
theorem PostS.anyP {K : PySem.W.Frag} {mg : Str → Option Value} {P : List (Addr × Obj)} {g : G} {i : Nat} {r : RS} {E : Ends} (h : PostS K mg [] W g (outS i r) E) : PostS K mg P W0 g r (undo i E) := by
  cases r with
  | ok fl ev S =>
    cases fl with
    | nx => exact fun g' σ H l rl er => h g' _ H l rl (er.gone i).noX
    | bk => exact fun g' σ H l rl er => h g' _ H l rl (er.gone i).noX
    | ct => exact fun g' σ H l rl er => h g' _ H l rl (er.gone i).noX
    | rt d => exact fun g' v H l rl rr => h g' v H l rl rr
  | ex x ev S => exact h.elim
  | no => exact h.elim
theorem hs_post {hds : List ExceptHandler} {hs : List Hn} (hm : HsM X hds hs) : ∃ l : HL, HdsA X hds l ∧ ∀ (g : G) (x : Xn) (ev : Ev) (S : Sto) (E : Ends) (c : Value) (d : Option Addr) (σ : Sl) (H : Hp), PostS X.K X.mg [] W g (tryH hs x ev S) E →
    Rel X.K X.mg g H S → EvR X.K X.mg [] g ev σ → RepX X.K X.mg g x c d → wManyA X.K W E l c d σ H := by
  induction hm with
  | nil => exact ⟨[], .nil, fun g x ev S E c d σ H hP rl er rx => hP g c d σ H (G.le.refl g) rl er rx⟩
  | @cons x n i c b₀ suite np pos' hds l t m hc hi hln ht hsu r ih =>
    obtain ⟨l', h1, h2⟩ := ih
    refine ⟨(c, i, fun a cls d D σ H => ∃ (g : G) (ev : Ev) (S : Sto), Rel X.K X.mg g H S ∧ (∀ (oe : Obj) (pn : List (Addr × Obj)), Zc cls d oe → (∃ vs, oe.data = .fields vs) → EvR X.K X.mg ((a, oe) :: pn) g ev σ) ∧ ∀ pn, PostS X.K X.mg pn W0 g (m ev S) D) :: l',
      .cons hc hi hln (fun a oe cls d pn hz hf => ⟨fun pins s σ H D I ⟨g, ev, S, q1, q2, q3⟩ => hsu a ((a, oe) :: pn) g σ H ev S D q1 (q2 oe pn hz hf) (q3 _) pins s I⟩) h1, fun g x ev S E cls d σ H hP rl er rx => ?_⟩
    obtain ⟨C, dd, vs, e1, rfl, rfl, e4, e5⟩ := id rx
    unfold tryH at hP
    show ∃ b, _
    cases e : t x.cls with
    | none => simp only [e] at hP; exact hP.elim
    | some b =>
      refine ⟨b, ht _ b C e e1, fun hb a ha => ?_, fun hb => ?_⟩
      · subst hb
        simp only [e] at hP
        refine ⟨g, _, S, rl, fun oe pn hz hf => ?_, fun pn => PostS.anyP hP⟩
        have er' := er.ofNil (P := (a, oe) :: pn)
        refine ⟨by rw [List.length_set, List.length_set]; exact er.1, fun j d' q => ?_⟩
        by_cases hj : i = j
        · subst hj
          have hi' : i < ev.length := by
            have := (List.getElem?_eq_some_iff.mp q).1
            rwa [List.length_set] at this
          rw [List.getElem?_set_self hi'] at q
          have q' : D.xo x.cls x.ns x.ds = d' := by simpa using q
          subst q'
          exact ⟨.ref a, by rw [List.getElem?_set_self (by rw [← er.1]; exact hi')], a, oe, dd, C, vs, rfl, List.mem_cons_self, hz, hf, e1, e4, e5⟩
        · rw [List.getElem?_set_ne hj] at q ⊢
          exact er'.2 j d' q
      · subst hb
        simp only [e] at hP
        exact h2 g x ev S E _ _ σ H hP rl er rx
theorem sm_try {body : List Stmt} {h₀ : ExceptHandler} {hds : List ExceptHandler} {pos : Pos} {mb : MS} {hs' : List Hn} (hs : X.stack = X.env :: X.outer) (hf : X.env.frame = some X.env.locals) (hN : X.N.Nodup) (hp : X.pn = []) (tk : Takes X W)
    (hb : ∀ (W : WX) (pn : List (Addr × Obj)) (xe : Value → Shared → Prop), Takes (X.tr pn xe) W → PassesOwn (model X.prog X.w) X.A X.env xe → SMs (X.tr pn xe) W body mb)
    (hh : HsM X (h₀ :: hds) hs') : SM X W (.Try body (h₀ :: hds) [] [] pos) (sTry mb hs') := by
  intro g σ H ev S E rl er hP
  obtain ⟨l, h1, h2⟩ := hs_post (W := W) hh
  rw [hp] at er hP
  refine wS (ps_try_manyAs (tb := fun W' D σ H => ∃ (g : G) (ev : Ev) (S : Sto), Rel X.K X.mg g H S ∧ EvR X.K X.mg [] g ev σ ∧ ∀ pn, PostS X.K X.mg pn W' g (mb ev S) D) hs hf hN tk
    (fun W' pn xe tk' po => ⟨fun pins s σ H D I ⟨g, ev, S, q1, q2, q3⟩ => hb W' pn xe tk' po g σ H ev S D q1 q2.ofNil (q3 _) pins s I⟩) h1) ⟨g, ev, S, rl, er, fun pn => ?_⟩
  unfold sTry at hP
  revert hP
  generalize mb ev S = r
  intro hP
  cases r with
  | ok fl ev1 S1 =>
    cases fl with
    | nx => exact fun g' σ H l rl er => hP g' σ H l rl er.noX
    | bk => exact fun g' σ H l rl er => hP g' σ H l rl er.noX
    | ct => exact fun g' σ H l rl er => hP g' σ H l rl er.noX
    | rt d => exact fun g' v H l rl rr => hP g' v H l rl rr
  | ex x ev1 S1 => exact fun g' c d σ H l rl er rx => h2 g' x _ S1 E c d σ H (PostS.up l hP) rl er.noX rx
  | no => exact hP.elim
/-! ### what a suite reads of its exception -/
/-- e.f of a caught error of one of the classes cs -/
def readX (cs : List Str) (fld : Str) : Option (Option D) → Sto → R D
  | some (some (.xo c ns ds)), S => if cs.contains c = true then (match (ns.zip ds).lookup fld with
    | some d => .ok d S
    | none => .no) else .no
  | _, _ => .no
def mFld (i : Nat) (cs : List Str) (fld : Str) : M D := fun ev S => readX cs fld ev[i]? S
structure XF (K : PySem.W.Frag) (mg : Str → Option Value) (fld c : Str) : Prop where
  ex : ∃ C, mg c = some (.ref C) ∧ PySem.W.findIn K (.ref C) "__getattribute__" = some (some (.builtin "BaseException.__getattribute__")) ∧ PySem.W.findIn K (.ref C) "__getattr__" = some none ∧ PySem.W.subIn K (.ref C) (.type "BaseException") = some true ∧
    PySem.W.hasDictIn K C = true ∧ PySem.W.findIn K (.ref C) fld = some none
theorem Low.LowTxt.xf {K : PySem.W.Frag} {mg : Str → Option Value} {x fld iq : Str} {C fI : Addr} (T : Low.LowTxt K mg x fld iq C fI) : XF K mg fld x := ⟨C, T.gC, T.ga, T.gg, T.exC, T.hdC, T.noN⟩
theorem zip_get {K : PySem.W.Frag} {mg : Str → Option Value} {g : G} {fld : Str} : ∀ {ns : List Str} {ds : List D} {vs : List V} {d : D}, RepL K mg g ds vs → (ns.zip ds).lookup fld = some d → ∃ v, (ns.zip vs).lookup fld = some v ∧ Rep K mg g d v
  | [], _, _, _, _, h => by simp at h
  | _ :: _, [], _, _, _, h => by simp at h
  | n :: ns, e :: ds, _, d, .cons r rr, h => by
    rw [List.zip_cons_cons, List.lookup_cons] at h ⊢
    cases e1 : fld == n with
    | true => rw [e1] at h; cases h; exact ⟨_, rfl, r⟩
    | false => rw [e1] at h; exact zip_get rr h
theorem em_fld (i : Nat) (cs : List Str) {n fld : Str} {np pos : Pos} (hT : ∀ c ∈ cs, XF X.K X.mg fld c) (hN : X.N[i]? = some n := by rfl) (hv : Vis X.env.scope n := by first | exact Or.inl rfl | exact Or.inr (Or.inl rfl) | exact Or.inr (Or.inr rfl)) (hd : (n == ("__debug__" : Str)) = false := by decide)
    (hcd : (n == ("__classdict__" : Str)) = false := by decide) (hb : attributeBase (.Name n np) fld X.env (eval (.Name n np) X.env) = eval (.Name n np) X.env := by rfl) : EM X W (.Attribute (.Name n np) fld pos) (mFld i cs fld) := by
  intro g σ H ev S Q rl er hP pins s I
  unfold mFld at hP
  cases e : ev[i]? with
  | none => rw [e] at hP; exact hP.elim
  | some o =>
    cases o with
    | none => rw [e] at hP; exact hP.elim
    | some d =>
      obtain ⟨v, e1, e2⟩ := er.2 i d e
      rw [e] at hP
      cases d with
      | xo c ns ds =>
        simp only [readX] at hP
        split at hP
        · rename_i hc
          obtain ⟨a, oe, dd, C, vs, rfl, hm, hz, ⟨fv, hdat⟩, hC, hdd, hr⟩ := e2
          obtain ⟨C', hC', ga, gg, exC, hdC, noN⟩ := (hT c (by simpa using hc)).ex
          rw [hC] at hC'
          cases hC'
          split at hP
          · rename_i d hl
            obtain ⟨u0, hl2, hru⟩ := zip_get hr hl
            refine attr_of hb (thn ((pe_var (X := X) (i := i) hN hv hd hcd).run pins s σ H (fun v' H' => v' = .ref a ∧ H' = H) I ⟨.ref a, e1, rfl, rfl⟩) fun u s1 hh => ?_)
            obtain ⟨x, H1, I1, rx, rfl, rfl⟩ := hh
            obtain rfl : u = Value.ref a := rx
            obtain ⟨ha, _⟩ := I1.pin (a, oe) (List.mem_append_left _ hm)
            have hx : ObjOk X.prog X.w H1 s1.heap dd (.xd (ns.zip vs)) := I1.hok dd _ (rl.fin _ _ hdd)
            obtain ⟨mA, hns, hrel⟩ := hx
            obtain ⟨od, ho, hlk⟩ := lookIn_ns hns
            obtain ⟨u, hu, ru⟩ := RelO.some_of (v := u0) (o := mA fld) (by rw [← hl2]; exact hrel fld)
            have J : PySem.W.InstAt s1.heap a oe C (some od) := ⟨ha, hz.1, by unfold PySem.W.notCls; rw [hdat] <;> rfl, by rw [hz.2]; exact ho⟩
            exact HandSPX.exc_get I1.kIn J ga gg exC (PySem.W.findObj_own hdC noN rfl (by rw [hlk, hu])) (handed_of ru) ⟨u0, H1, I1.tok _, ru, hP g u0 H1 (G.le.refl g) rl hru⟩
          · exact hP.elim
        · exact hP.elim
      | _ => exact hP.elim
end
end ML


set_option Elab.async false
set_option linter.all false
set_option maxRecDepth 100000
set_option autoImplicit false
set_option maxHeartbeats 4000000
/-! isinstance(e, C) of a caught error that has a dict of its own -/
namespace ML
namespace Low
open PySem PySem.Spec PySem.W PySem.Calls PyProof.Rows
section
variable {prog : Program} {w : World} {A : Around} {E : Value → Shared → Prop} {s : Shared} {K : Frag} {x D : Addr} {ox : Obj} {od : Option Obj}
theorem find_data {C : Addr} {name : Str} {a g : Value} (hc : (clsIn K C).isSome = true) (ha : findIn K (.ref C) name = some (some a)) (hg : specialIn K a "__get__" = some (some g)) (ht : takesIn K a = some true) : findObj K C od name = some (.bind g a) := by
  obtain ⟨cd, hc⟩ := Option.isSome_iff_exists.mp hc
  unfold findObj
  rw [hc, Option.bind_some, ha, Option.bind_some]
  simp [hg, ht]
theorem ask_class {Q : Option Value → Shared → Prop} (C : L2.ExcC K D) (X : K.In s.heap) (I : InstAt s.heap x ox D od) (h : Q (some (.ref D)) { s with toks := s.toks + 1 }) : wpAny (model prog w) A (getAttr? (.ref x) "__class__") Q E s := by
  have hf : findObj K D od "__class__" = some (.bind (.builtin "getset_descriptor.__get__") (.builtin "object.__class__")) := find_data (by obtain ⟨cd, hc, _⟩ := any_some C.hd; rw [hc]; rfl) C.ha C.hn C.ht
  obtain ⟨hp, g, d, t, os⟩ := s
  have L0 := I.type (M := model prog w)
  have L1 := looks_findIn (M := model prog w) X C.hg
  have L2 := looks_findIn (M := model prog w) X C.hk
  have L3 := looks_find (M := model prog w) X I hf
  have sub : Looks (model prog w) hp (isInstance (.ref x) (.type "BaseException")) true := L0.andThen (looks_subIn X C.hs)
  have hx0 : (false && onTheHeap (Value.builtin "BaseException.__getattribute__")) = false := rfl
  have hx2 : (Value.builtin "BaseException.__getattribute__" == Value.builtin "object.__getattribute__") = false := by decide +kernel
  have hx1 : (onTheHeap (Value.ref D) && Value.builtin "BaseException.__getattribute__" == Value.builtin "object.__getattribute__") = false := by rw [hx2]; rfl
  unfold getAttr? getAttrBy? getAttrBy
  refine wpAny_bind (wpAny_mkText (wpAny_bind (wpAny_attempt (wpAny_holding (wpAny_bind (L0.at (wpAny_bind (L1.at ?_))))))))
  show wpAny _ _ (if (onTheHeap (Value.ref D) && Value.builtin "BaseException.__getattribute__" == Value.builtin "object.__getattribute__") = true then _ else _) _ _ _
  rw [hx1, if_neg Bool.false_ne_true]
  unfold getAttrByItsOwn hookBefore
  refine wpAny_bind ?_
  rw [if_pos (show onTheHeap (Value.ref D) = true from rfl)]
  refine L2.at ?_
  refine wpAny_bind (wpAny_attempt (wpAny_holding ?_))
  unfold callGetattribute
  rw [hx0, if_neg Bool.false_ne_true]
  unfold boundAndCalled
  rw [PySem.F.excAttr_ValueError.ga.bind (.ref x)]
  refine wpAny_bind (wpAny_pure ?_)
  show wpAny _ _ (call (.builtin "BaseException.__getattribute__") [.ref x, .str "__class__" t]) _ _ _
  refine wpAny_call (codeAny_call_builtin PySem.F.excAttr_ValueError.ga.plain PySem.F.entry_bexc_ga ?_)
  refine @check_slot (model prog w) _ _ ⟨hp, g, d, t + 1, os⟩ "BaseException.__getattribute__" "BaseException" "__getattribute__" (.ref x) [.str "__class__" t] [] _ (by decide +kernel) (by decide +kernel) sub (PySem.F.args_bexc_ga (.ref x) (.str "__class__" t)) ?_
  unfold Builtin.«object.__getattribute__»
  refine wpAny_bind (wpAny_of_eq (a := ((Value.ref x : Value), [Value.str "__class__" t])) (by first | rfl | (simp only [slotArgs]; rfl)) ?_)
  refine wpAny_bind (wpAny_pure (wpAny_bind (L0.at (wpAny_bind (L3.at ?_)))))
  show wpAny _ _ (holding [Value.builtin "object.__class__"] (call (.builtin "getset_descriptor.__get__") [.builtin "object.__class__", .ref x, .ref D]) >>= ret) _ _ _
  refine wpAny_bind (wpAny_holding (wpAny_call (class_get (s := ⟨hp, g, d, t + 1, os⟩) (ox := ox) (od := od) X I C.hm ?_)))
  refine wpAny_pure ?_
  show wpAny _ _ (handedOut (.ref D)) _ _ _
  rw [handedOut_of (v := .ref D) rfl]
  first
    | exact wpAny_pure (wpAny_pure h)
    | exact wpAny_pure h
    | exact wpAny_pure (wpAny_bind (wpAny_pure (wpAny_pure h)))
theorem kit_exc (C : L2.ExcC K D) : KitX K (.ref x) (.ref D) (fun h => ∃ od, InstAt h x ox D od) where
  ty := fun _ _ _ ⟨_, I⟩ => I.type
  it := fun _ _ X _ => by
    obtain ⟨cdD, hcD, _⟩ := any_some C.hd
    unfold clsIn at hcD
    split at hcD
    · rename_i c' d' cd' sl' ho
      intro A' Q' E' s' k q
      unfold isType loadHead
      exact wpAny_bind (wpAny_loadPart (k _ _ (X _ _ ho)) (wpAny_pure q))
    · cases hcD
  ne := fun h tp dd its n sl X htp => by
    obtain ⟨cdD, hcD, _⟩ := any_some C.hd
    refine Bool.eq_false_iff.mpr fun q => ?_
    have e : D = tp := Value.ref.inj (beq_iff_eq.mp q)
    subst e
    unfold clsIn at hcD
    split at hcD
    · rename_i c' d' cd' sl' ho
      have z := (X _ _ ho).symm.trans htp
      cases z
    · cases hcD
  ca := fun X ⟨_, I⟩ k => ask_class C X I k
end
end Low
open PySem PySem.Spec PyProof.Rows L2
def testX (t : Str → Option Bool) : Option (Option D) → Sto → R D
  | some (some (.xo c _ _)), S => (match t c with
    | some b => .ok (.bl b) S
    | none => .no)
  | _, _ => .no
/-- isinstance(e, Cn) of the suite's error -/
def mIsX (i : Nat) (t : Str → Option Bool) : M D := fun ev S => testX t ev[i]? S
section
variable {X : Cx} {W : WX}
theorem em_isX (i : Nat) {n x : Str} {np p0 p1 pos : Pos} {Cn : Addr} (t : Str → Option Bool) (hm : X.mg "isinstance" = none) (hC : X.mg x = some (.ref Cn))
    (hT : ∀ c b, t c = some b → ∃ C, X.mg c = some (.ref C) ∧ ExcC X.K C ∧ PySem.W.kitOne X.K (.ref C) (.ref Cn) = some b) (hN : X.N[i]? = some n := by rfl)
    (hv : Vis X.env.scope n := by first | exact Or.inl rfl | exact Or.inr (Or.inl rfl) | exact Or.inr (Or.inr rfl)) (hd : (n == ("__debug__" : Str)) = false := by decide)
    (hcd : (n == ("__classdict__" : Str)) = false := by decide) (hg : Gl X "isinstance" := by rfl) (hgx : Gl X x := by rfl) (hdx : (x == ("__debug__" : Str)) = false := by decide)
    (hs : starEach [.Name n np, .Name x p1] X.env = (false, eval (.Name n np) X.env) :: starEach [.Name x p1] X.env := by exact star1 rfl)
    (hs2 : starEach [.Name x p1] X.env = (false, eval (.Name x p1) X.env) :: starEach [] X.env := by exact star1 rfl) (hpl : (backTo pos (starEach [.Name x p1] X.env)).any (·.1) = false := by exact starP rfl) :
    EM X W (.Call (.Name "isinstance" p0) [.Name n np, .Name x p1] [] pos) (mIsX i t) := by
  intro g σ H ev S Q rl er hP pins s I
  unfold mIsX at hP
  cases e : ev[i]? with
  | none => rw [e] at hP; exact hP.elim
  | some o =>
    cases o with
    | none => rw [e] at hP; exact hP.elim
    | some d =>
      obtain ⟨v, e1, e2⟩ := er.2 i d e
      rw [e] at hP
      cases d with
      | xo c ns ds =>
        simp only [testX] at hP
        split at hP
        · rename_i b hb
          obtain ⟨a, oe, dd, C, vs, rfl, hmem, hz, ⟨fv, hdat⟩, hCm, hdd, hr⟩ := e2
          obtain ⟨C', hC', ex, hk⟩ := hT c b hb
          rw [hCm] at hC'
          cases hC'
          have cr : CallR X (.builtin "isinstance") (fun xs H1 Q => xs = [.ref a, .ref Cn] ∧ H1 = H ∧ Q (.bl b) H1) := by
            intro pins s σ' H1 xs us Q I1 r hq
            obtain ⟨rfl, rfl, q⟩ := hq
            cases r with
            | cons rx rr =>
              cases rr with
              | cons rt rr =>
                cases rr
                cases rx
                cases rt
                obtain ⟨ha, _⟩ := I1.pin (a, oe) (List.mem_append_left _ hmem)
                have hx : ObjOk X.prog X.w H1 s.heap dd (.xd (ns.zip vs)) := I1.hok dd _ (rl.fin _ _ hdd)
                obtain ⟨mA, hns, hrel⟩ := hx
                obtain ⟨od, ho, hlk⟩ := lookIn_ns hns
                have J : PySem.W.InstAt s.heap a oe C (some od) := ⟨ha, hz.1, by unfold PySem.W.notCls; rw [hdat] <;> rfl, by rw [hz.2]; exact ho⟩
                exact PySem.W.kia_one (Low.kit_exc ex) I1.kIn ⟨_, J⟩ hk (fun z => nomatch z) fun tk => ⟨.bl b, H1, I1.kept (t' := tk) fun _ _ z => z, rfl, q⟩
          refine (pe_callB cr hg hm rfl (pa_cons (pe_var (X := X) (i := i) hN hv hd hcd) (pa_cons (pe_glob (X := X) (v := .ref Cn) hgx hC rfl hdx) pa_nil hs2) hs) (by decide) (by decide) hs hpl).run pins s σ H Q I ?_
          exact ⟨.ref a, e1, rfl, rfl, hP g _ H (G.le.refl g) rl (.bl b)⟩
        · exact hP.elim
      | _ => exact hP.elim
end
end ML


set_option Elab.async false
set_option linter.all false
set_option maxRecDepth 100000
set_option autoImplicit false
set_option maxHeartbeats 4000000
/-! repr of data -/
namespace ML
open PySem PySem.Spec PyProof.Rows L2
theorem noDictL {xs : List PyData} : PyData.canLay0 (.list xs) = true → (PyData.list xs).hasDict = false := PyData.hasDict_of_canLay _
def prepr : List D → Sto → R D := fun xs S => match xs with
  | [x] => match py deep S x with
    | some d => if (d.showable && decide (d.shown.length ≤ 16777216)) = true then .ok (.str d.shown) S else .no
    | none => .no
  | _ => .no
section
variable {X : Cx} {W : WX}
theorem c_repr (hgd : X.A.guards = some []) (hu : X.A.units + 64 < cLine) : CallR X (.builtin "repr") (rM X prepr) := by
  intro pins s σ H xs us Q I r h
  obtain ⟨g, S, ds, W, σ', rl, rx, hP⟩ := h
  unfold prepr at hP
  split at hP
  · rename_i x
    split at hP
    · rename_i d hd
      split at hP
      · rename_i hc
        have hc' : d.showable = true ∧ d.shown.length ≤ 16777216 := by simpa using hc
        obtain ⟨v, rfl, rv⟩ := rep1 rx
        cases r with
        | cons ru rr =>
          cases rr
          rename_i u
          obtain ⟨as, rd⟩ := Dp.reads I d v u (py_dp rl deep _ _ _ rv hd) ru
          have sh := py_shape deep _ _ hd
          have nd := PyData.hasDict_of_canLay d sh.1
          have fin : ∀ h' (u : Tok) tk, (∀ b o, s.heap.get? b = some o → h'.get? b = some o) → EP X pins σ Q (.str d.shown u) { s with heap := h', toks := tk } := fun h' u tk hk =>
            ⟨.str d.shown, H, I.kept (t' := tk) hk, ⟨u, rfl⟩, post_ok rl (.str _) hP⟩
          have key : ∀ a, Reads s.heap (.ref a) d as → wpAny (model X.prog X.w) X.A (call (.builtin "repr") [.ref a]) (EP X pins σ Q) X.xe s := fun a rd =>
            repr_of_reads' (h₀ := s.heap) rd hc'.1 (PyData.noDict_hsm nd) hgd (by have := sh.2; have e : deep = 12 := rfl; omega) (fun _ _ e => e) fin (by rw [sizeL]; exact hc'.2)
          cases d with
          | list xs => cases rd with | list h1 h2 h3 h4 => exact key _ (.list h1 h2 h3 h4)
          | tuple xs => cases rd with | tuple h1 h2 h3 h4 => exact key _ (.tuple h1 h2 h3 h4)
          | none => cases rd; exact PySem.P.repr_of_none (fin s.heap _ _ fun _ _ e => e)
          | bool b => cases rd; exact PySem.P.repr_of_bool (fin s.heap _ _ fun _ _ e => e)
          | int b => cases rd; exact PySem.P.repr_of_int (by simpa [PyData.showable] using hc'.1) (fin s.heap _ _ fun _ _ e => e)
          | str b => cases rd; exact PySem.P.repr_of_str (fin s.heap _ _ fun _ _ e => e) (by rw [sizeL]; exact hc'.2)
          | dict kvs => simp [PyData.canLay0] at sh
      · exact hP.elim
    · exact hP.elim
  · exact hP.elim
end
end ML


set_option Elab.async false
set_option linter.all false
set_option maxRecDepth 100000
set_option autoImplicit false
set_option maxHeartbeats 4000000
/-! e.replace(y, z) of written texts, in a list behind an item that has given out a token -/
namespace ML
open PySem PySem.Spec PyProof.Rows L2
/-- arguments, one token given out -/
def AMT (X : Cx) (W : WX) (es : List Expr) (m : M (List D)) : Prop := ∀ (g : G) (σ : Sl) (H : Hp) (ev : Ev) (S : Sto) (Q : List V → Hp → Prop), Rel X.K X.mg g H S → EvR X.K X.mg X.pn g ev σ → Post X.K X.mg (RepL X.K X.mg) W σ g (m ev S) Q →
  ∀ (pos : Pos) (pins : List (Addr × Obj)) (s : Shared), 1 ≤ s.toks → Inv X pins σ H s → wpAny (model X.prog X.w) X.A (spliced (backTo pos (starEach es X.env))) (AP X pins σ Q) X.xe s
section
variable {X : Cx} {W : WX} {e o b : Expr} {es : List Expr} {ma mo mb : M D} {ml : M (List D)} {y z : Str} {j k : Nat} {c0 c1 apos pos : Pos}
theorem amt_of (h : AM X W es ml) : AMT X W es ml := fun g σ H ev S Q rl er hP pos pins s _ I => h g σ H ev S Q rl er hP pos pins s I
/-- the first item is done, its value stands for d -/
theorem cons_tail {g : G} {σ : Sl} {ev : Ev} {S : Sto} {Q : List V → Hp → Prop} {H : Hp} (hr : AMT X W es ml) {pos : Pos} {pins : List (Addr × Obj)} {s : Shared} {v : V} {u : Value} {d : D}
    (rl : Rel X.K X.mg g H S) (er : EvR X.K X.mg X.pn g ev σ) (rd : Rep X.K X.mg g d v) (h0 : 1 ≤ s.toks) (I : Inv X pins σ H s) (ru : RelV v u)
    (hP : Post X.K X.mg (RepL X.K X.mg) W σ g ((ml ev S).bind fun xs S2 => .ok (d :: xs) S2) Q) :
    wpAny (model X.prog X.w) X.A (spliced (backTo pos (starEach es X.env))) (fun us s' => AP X pins σ Q (u :: us) s') X.xe s :=
  thn (hr g σ H ev S (fun vs H2 => Q (v :: vs) H2) rl er (Post.bind hP fun g2 xs S2 vs H2 l2 rl2 rxs hP2 => hP2 g2 (v :: vs) H2 (G.le.refl g2) rl2 (.cons (rd.le l2) rxs)) pos pins s h0 I)
    fun us s' ⟨vs, H2, I2, r2, q2⟩ => ⟨v :: vs, H2, I2, .cons ru r2, q2⟩
def qTail (X : Cx) (W : WX) (ml : M (List D)) (σ : Sl) (ev : Ev) (Q : List V → Hp → Prop) : VK := fun v H1 => ∃ (g1 : G) (d : D) (S1 : Sto), Rel X.K X.mg g1 H1 S1 ∧ EvR X.K X.mg X.pn g1 ev σ ∧ Rep X.K X.mg g1 d v ∧ Post X.K X.mg (RepL X.K X.mg) W σ g1 ((ml ev S1).bind fun xs S2 => .ok (d :: xs) S2) Q
theorem amt_cons (ha : EM X W e ma) (hr : AMT X W es ml) (hs : starEach (e :: es) X.env = (false, eval e X.env) :: starEach es X.env := by exact star1 rfl) : AMT X W (e :: es) (mCons ma ml) := by
  intro g σ H ev S Q rl er hP pos pins s h0 I
  rw [hs]
  show wpAny _ _ (spliced ((false, eval e X.env) :: backTo pos (starEach es X.env))) _ _ s
  refine Calls.spliced_cons (wpAny_mono (PySem.wpAny_toks (ha g σ H ev S (fun v H1 => ∃ (g1 : G) (d : D) (S1 : Sto), Rel X.K X.mg g1 H1 S1 ∧ EvR X.K X.mg X.pn g1 ev σ ∧ Rep X.K X.mg g1 d v ∧ Post X.K X.mg (RepL X.K X.mg) W σ g1 ((ml ev S1).bind fun xs S2 => .ok (d :: xs) S2) Q) rl er
    (Post.bind hP fun g1 x S1 v H1 l1 rl1 rx hP1 => ⟨g1, x, S1, rl1, er.le l1, rx, hP1⟩) pins s I)) (fun u s1 q => ?_) fun _ _ z => z.2)
  obtain ⟨hk, v, H1, I1, r1, g1, d, S1, rl1, er1, rx, hP1⟩ := q
  exact cons_tail hr rl1 er1 rx (Nat.le_trans h0 hk) I1 r1 hP1
def prepl (y z : Str) : P1 := fun x S => match x with
  | .str x => if x.length + (x.length + 1) * z.length ≤ 16777216 then .ok (.str (Txt.replace x y z)) S else .no
  | _ => .no
theorem amt_repl (ho : EM X W o mo) (hr : AMT X W es ml) (hyz : (y == z) = false := by decide)
    (hst : starEach [.Constant (.str y) j c0, .Constant (.str z) k c1] X.env = [(false, eval (.Constant (.str y) j c0) X.env), (false, eval (.Constant (.str z) k c1) X.env)] := by exact star2n rfl rfl)
    (hbase : attributeBase o "replace" X.env (eval o X.env) = eval o X.env := by rfl) (hline : (apos.endLine == pos.line) = true := by rfl)
    (hs : starEach (.Call (.Attribute o "replace" apos) [.Constant (.str y) j c0, .Constant (.str z) k c1] [] pos :: es) X.env = (false, eval (.Call (.Attribute o "replace" apos) [.Constant (.str y) j c0, .Constant (.str z) k c1] [] pos) X.env) :: starEach es X.env := by exact star1 rfl) :
    AMT X W (.Call (.Attribute o "replace" apos) [.Constant (.str y) j c0, .Constant (.str z) k c1] [] pos :: es) (mCons (m1 (prepl y z) mo) ml) := by
  intro g σ H ev S Q rl er hP pos' pins s h0 I
  rw [hs]
  show wpAny _ _ (spliced ((false, eval (.Call (.Attribute o "replace" apos) [.Constant (.str y) j c0, .Constant (.str z) k c1] [] pos) X.env) :: backTo pos' (starEach es X.env))) _ _ s
  have hP' : Post X.K X.mg (Rep X.K X.mg) W σ g (m1 (prepl y z) mo ev S) (qTail X W ml σ ev Q) :=
    Post.bind hP fun g1 x S1 v H1 l1 rl1 rx hP1 => ⟨g1, x, S1, rl1, er.le l1, rx, hP1⟩
  refine Calls.spliced_cons (wpAny_mono (PySem.wpAny_toks (CwR.pet_replC (peW X o) hyz hst hbase hline pins s σ H (qTail X W ml σ ev Q) h0 I (ho g σ H ev S _ rl er (Post.bind hP' fun g1 x S1 v H1 l1 rl1 rx hP1 => ?_)))) (fun u s1 q => ?_) fun _ _ z => z.2)
  · unfold prepl at hP1
    split at hP1
    · rename_i z0
      split at hP1
      · rename_i hz
        cases rx
        exact ⟨z0, rfl, hz, hP1 g1 _ H1 (G.le.refl g1) rl1 (.str _)⟩
      · exact hP1.elim
    · exact hP1.elim
  · obtain ⟨hk, v, H1, I1, r1, g1, d, S1, rl1, er1, rx, hP1⟩ := q
    exact cons_tail hr rl1 er1 rx (Nat.le_trans h0 hk) I1 r1 hP1
/-- the item ahead gives out a token: c + b with a written text c -/
theorem am_tok {c : Str} {op : Operator} {p : P2} {bp : Pos} (ob : OpM X W (binaryOp op) p) (hb : EM X W b mb) (hr : AMT X W es ml)
    (hs : starEach (.BinOp (.Constant (.str c) j c0) op b bp :: es) X.env = (false, eval (.BinOp (.Constant (.str c) j c0) op b bp) X.env) :: starEach es X.env := by exact star1 rfl) :
    AM X W (.BinOp (.Constant (.str c) j c0) op b bp :: es) (mCons (m2 p (mC (.str c)) mb) ml) := by
  intro g σ H ev S Q rl er hP pos pins s I
  rw [hs]
  show wpAny _ _ (spliced ((false, eval (.BinOp (.Constant (.str c) j c0) op b bp) X.env) :: backTo pos (starEach es X.env))) _ _ s
  have hP' : Post X.K X.mg (Rep X.K X.mg) W σ g (m2 p (mC (.str c)) mb ev S) (qTail X W ml σ ev Q) :=
    Post.bind hP fun g1 x S1 v H1 l1 rl1 rx hP1 => ⟨g1, x, S1, rl1, er.le l1, rx, hP1⟩
  have hP'' : Post X.K X.mg (Rep X.K X.mg) W σ g ((mb ev S).bind fun y S2 => p (.str c) y S2) (qTail X W ml σ ev Q) := hP'
  have run : ∀ {E : Value → Shared → Prop} {QQ : Value → Shared → Prop}, wpAny (model X.prog X.w) X.A (eval b X.env) (fun u s2 => wpAny (model X.prog X.w) X.A (binaryOp op (.str c s.toks) u) QQ E s2) E { s with toks := s.toks + 1 } → wpAny (model X.prog X.w) X.A (eval (.BinOp (.Constant (.str c) j c0) op b bp) X.env) QQ E s := fun h => wpAny_BinOp (Calls.Constant_str h)
  refine Calls.spliced_cons (run ?_)
  refine wpAny_mono (PySem.wpAny_toks (hb g σ H ev S (fun u H2 => ∃ (g2 : G) (y : D) (S2 : Sto), g.le g2 ∧ Rel X.K X.mg g2 H2 S2 ∧ Rep X.K X.mg g2 y u ∧ Post X.K X.mg (Rep X.K X.mg) W σ g2 (p (.str c) y S2) (qTail X W ml σ ev Q)) rl er
    (Post.bind hP'' fun g2 y S2 u H2 l2 rl2 ry hP2 => ⟨g2, y, S2, l2, rl2, ry, hP2⟩) pins { s with toks := s.toks + 1 } (I.tok _))) (fun uu s2 q => ?_) fun _ _ z => z.2
  obtain ⟨hk, u, H2, I2, ru, g2, y, S2, l2, rl2, ry, hP2⟩ := q
  have hk' : s.toks + 1 ≤ s2.toks := hk
  refine wpAny_mono (PySem.wpAny_toks (ob g2 σ H2 S2 (.str c) y (.str c) u _ rl2 (.str c) ry hP2 pins s2 (.str c s.toks) uu I2 ⟨s.toks, rfl⟩ ru)) (fun ww s3 q => ?_) fun _ _ z => z.2
  obtain ⟨hk3, v, H3, I3, r3, g3, d, S3, rl3, er3, rx3, hP3⟩ := q
  exact cons_tail hr rl3 er3 rx3 (by omega) I3 r3 hP3
end
end ML


set_option Elab.async false
set_option linter.all false
set_option maxRecDepth 100000
set_option autoImplicit false
set_option maxHeartbeats 4000000
/-! the end: from the promise of the law's def to the row's goal -/
namespace ML
open PySem PySem.Spec PyProof.Rows L2
def G.start (H : Hp) : G := { r := [], f := H, z := fun _ => none }
theorem rel_start {K : PySem.W.Frag} {mg : Str → Option Value} {H : Hp} : Rel K mg (G.start H) H [] :=
  ⟨fun _ _ h => h, fun _ _ h => (by cases h), fun _ _ _ => rfl, rfl, List.nodup_nil, fun n a h => (by simp [G.start] at h), fun n a h => rfl, fun n c a h => (by simp at h)⟩
theorem rep_ints {K : PySem.W.Frag} {mg : Str → Option Value} {g : G} : ∀ ns : List Int, RepL K mg g (ns.map D.int) (ns.map V.int)
  | [] => .nil
  | n :: ns => .cons (.int n) (rep_ints ns)
theorem law_callG {P : Program} {w : World} {K : PySem.W.Frag} {mg mb : Str → Option Value} {k : Nat} {fa a : Addr} {fd : FuncData} {x : Str} {m : List D → Sto → R D} {s₁ : Shared} {vs : List Value} {ns : List Int}
    (KX : K.In s₁.heap) (hns : s₁.heap.Ns mainGlobals mg) (hb : s₁.heap.Ns builtinsNs mb) (hbb : ∀ x : Str, x ≠ "__name__" → mb x = bootBuiltins x) (hlim : s₁.heap.NoLimit) (hg : s₁.gens = #[])
    (ha : s₁.heap.get? a = some { cls := .type "list", data := .seq vs.toArray }) (hi : IntsAre vs ns) (hl : ns.length ≤ sizeLine) (hr : Room k callerA) (hgd : callerA.guards = some [])
    (F : FnG P w K mg k fa fd [x] m) (hbind : ∀ (s : Shared) (u : Value), BindsTo s fd ⟨[u], []⟩ [(x, u)])
    (hm : ∃ S, m [.rol (ns.map D.int)] [] = .ok (.bl true) S) :
    codeAny (model P w) callerA (.call (.ref fa) ⟨[.ref a], []⟩) (fun r s' => r = .ok (.ret (.bool true)) ∧ OldK s₁.heap s'.heap ∧ s'.os = s₁.os ∧ AllBare s'.gens) s₁ := by
  have rv := vals_ints hi
  have lenV := hi.length
  -- from an abstract heap in which nothing but the script may be tracked
  have core : ∀ H : Hp, L2.Only H → SqL K H a (ns.map V.int) → HOk P w H s₁.heap → (∀ b, H b ≠ none → b = a) → (H a ≠ none → K.lookup a = none) →
      codeAny (model P w) callerA (.call (.ref fa) ⟨[.ref a], []⟩) (fun r s' => r = .ok (.ret (.bool true)) ∧ OldK s₁.heap s'.heap ∧ s'.os = s₁.os ∧ AllBare s'.gens) s₁ := by
    intro H hO hS hok hA hK
    have base_of : ∀ {b : Addr} {o : Obj}, s₁.heap.get? b = some o → H b = none → (hidT s₁.heap H).get? b = some o := fun e n => hidT_get e n
    have noA : ∀ {b : Addr} {o : Obj} {es : Array DictEntry} {ep : Nat}, s₁.heap.get? b = some o → o.data = .dict es ep → H b = none := fun {b o es ep} e d => by
      cases q : H b with
      | none => rfl
      | some u =>
        have e' : b = a := hA b (by rw [q]; simp)
        subst e'
        rw [ha] at e; cases e
        have d' : Data.seq vs.toArray _ = Data.dict es ep := d
        cases d'
    have nsK : ∀ {b : Addr} {m : Str → Option Value}, s₁.heap.Ns b m → (hidT s₁.heap H).Ns b m := fun {b m} ⟨o, es, ep, e, d, r⟩ => ⟨o, es, ep, base_of e (noA e d), d, r⟩
    have hKb : K.In (hidT s₁.heap H) := fun b o e => base_of (KX b o e) (by
      cases q : H b with
      | none => rfl
      | some u =>
        have e' : b = a := hA b (by rw [q]; simp)
        subst e'
        rw [hK (by rw [q]; simp)] at e; cases e)
    have hM : Mod K mg (hidT s₁.heap H) := ⟨hKb, nsK hns, ⟨mb, nsK hb, hbb⟩, let ⟨mc, h1, h2⟩ := hlim; ⟨mc, nsK h1, h2⟩⟩
    have e0 : Env0 P w K mg (hidT s₁.heap H) callerA [] s₁ H := ⟨rfl, hM, fun b o e => of_hidT e, Nat.le_of_eq (hidT_size _ _), trivial, fun b hb => absurd (show b ∈ ([] : List Addr) from hb) (by simp), hok, .of_eq hg⟩
    refine codeAny_mono (F.run (hidT s₁.heap H) callerA [] s₁ H ⟨[.ref a], []⟩ [.ref a] [.ref a] [.rol (ns.map D.int)] (G.start H) [] (fun v _ => v = .bl true) (fun _ _ _ => False) hr hgd e0 (hbind s₁ (.ref a)) (.cons rfl .nil) rel_start (.cons (.rol hS (rep_ints ns)) .nil) rfl (by obtain ⟨S, e⟩ := hm; rw [e]; intro g' v H' _ _ r; cases r; rfl)) fun r s' h => ?_
    cases r with
    | error e => obtain ⟨_, _, _, _, _, _, _, _, _, _, _, _, z⟩ := h; exact z.elim
    | ok fl =>
      cases fl with
      | next => exact False.elim h
      | brk => exact False.elim h
      | cont => exact False.elim h
      | ret u =>
        obtain ⟨v, H', os, bare, un, hok', r', q⟩ := h
        have q' : v = .bl true := q
        subst q'
        obtain rfl : u = Value.bool true := r'
        refine ⟨rfl, OldK.of_keep fun b o e => ?_, os, bare⟩
        cases q : H b with
        | none => exact un.keep b o e q (by intro z; exact absurd (show b ∈ ([] : List Addr) from z) (by simp)) (by simp)
        | some u =>
          rcases hO b with z | ⟨ob, xs, z⟩
          · rw [q] at z; cases z
          · have z2 := un.frzs b ob _ z
            obtain ⟨e1, _⟩ := hok b _ z
            obtain ⟨e2, _⟩ := hok' b _ z2
            rw [e] at e1; cases e1
            exact e2
  cases hk : K.lookup a with
  | some o =>
    -- the script is one of the module's own objects
    have e := KX a o hk
    rw [ha] at e
    cases e
    refine core (fun _ => none) (fun _ => .inl rfl) (.inr ⟨_, vs.toArray, _, hk, rfl, rfl, rfl, by rw [List.size_toArray, lenV]; exact hl, by simpa using rv⟩) (fun b u z => by have z' : (none : Option HO) = some u := z; cases z') (fun b z => absurd rfl z) fun z => absurd rfl z
  | none =>
    refine core (fun b => if b = a then some (.frz { cls := .type "list", data := .seq vs.toArray } (.lst (ns.map V.int))) else none) (fun b => ?_) (.inl (.inr ⟨{ cls := .type "list", data := .seq vs.toArray }, if_pos rfl⟩)) (fun b u z => ?_) (fun b z => ?_) fun _ => hk
    · by_cases hb : b = a
      · exact .inr ⟨_, _, if_pos hb⟩
      · exact .inl (if_neg hb)
    · by_cases hb : b = a
      · have z' := (if_pos hb).symm.trans z
        cases z'
        subst hb
        exact ⟨ha, by rw [List.length_map]; exact hl, vs, _, rv, ha⟩
      · have z' := (if_neg hb).symm.trans z
        cases z'
    · by_cases hb : b = a
      · exact hb
      · exact absurd (if_neg hb) z
theorem walk_G {l : PySem.W.OpenLaw} {n k : Nat} {q : Program} {loose : List Str} {XP : (Str → Option Value) → Heap → Prop} {YP : World → Heap → Prop} {d : DefRec} {K : Params → PySem.W.Frag} {m : List D → Sto → R D} {x : Str}
    (hn : l.most = some n) (hn2 : n ≤ sizeLine) (hdf : d.params.defaults = []) (hr : Room k callerA) (hgd : callerA.guards = some [])
    (hY : ∀ (w : World) (h : Heap), YP w h → (K w.params).In h)
    (F : ∀ (w : World) (mg : Str → Option Value) (fa : Addr) (h : Heap), (K w.params).In h → h.Ns mainGlobals mg → mg d.name = some (.ref fa) →
      ∃ fd : FuncData, (∀ (s : Shared) (u : Value), BindsTo s fd ⟨[u], []⟩ [(x, u)]) ∧ FnG l.prog w (K w.params) mg k fa fd [x] m)
    (hm : ∀ ns : List Int, ns.length ≤ n → ∃ S, m [.rol (ns.map D.int)] [] = .ok (.bl true) S) :
    PySem.W.WalkO q loose XP YP l.row.toRowW d [] (fun f vs => PySem.call f vs) := by
  refine Att.attach_call hn hdf fun w s₀ s₁ mg mb fa o pm cd doc a vs ns G Y ho hd hcd hmg hobj hints hlen hg => ?_
  have KX := hY w _ Y
  obtain ⟨fd, hb, hF⟩ := F w mg fa _ KX G.T.g hmg
  exact law_callG KX G.T.g G.T.b G.T.builtins G.T.nolimit hg hobj hints (Nat.le_trans hlen hn2) hr hgd hF hb (hm ns hlen)
end ML


set_option Elab.async false
set_option linter.all false
set_option maxRecDepth 100000
set_option autoImplicit false
set_option maxHeartbeats 4000000
/-! chains, stores at places, defs by their names -/
namespace ML
open PySem PySem.Spec PyProof.Rows L2
/-- W at these slots, whatever the slots -/
def atS (W : WX) (σ : Sl) : WX := fun c d _ H => W c d σ H
section
variable {X : Cx} {W : WX} {a b c : Expr} {ma mb mc : M D} {pos : Pos} {p p' : P2}
theorem Post.atS {K : PySem.W.Frag} {mg : Str → Option Value} {α β : Type} {Rp : G → α → β → Prop} {σ σ' : Sl} {g : G} {r : R α} {Q : β → Hp → Prop} (h : Post K mg Rp W σ g r Q) : Post K mg Rp (ML.atS W σ) σ' g r Q := by
  cases r with
  | ok x S => exact h
  | ex x S => exact h
  | no => exact h
def chain2 (p' : P2) (mc : M D) (ev : Ev) (y : D) : D → Sto → R D := fun z S => match z with
  | .bl true => (mc ev S).bind fun w S4 => p' y w S4
  | .bl false => .ok (.bl false) S
  | _ => .no
def mChain (p p' : P2) (ma mb mc : M D) : M D := fun ev S => (ma ev S).bind fun x S1 => (mb ev S1).bind fun y S2 => (p x y S2).bind (chain2 p' mc ev y)
theorem chain_read {op op' : CmpOp} {g : G} {σ : Sl} {H : Hp} {ev : Ev} {S : Sto} {Q : VK} (ha : EM X W a ma) (hb : EM X W b mb) (hc : EM X W c mc) (rl : Rel X.K X.mg g H S) (er : EvR X.K X.mg X.pn g ev σ)
    (hP : Post X.K X.mg (Rep X.K X.mg) W σ g (mChain p p' ma mb mc ev S) Q) :
    tChain (fun v u H Q => ∃ (g : G) (S : Sto) (x y : D), Rel X.K X.mg g H S ∧ Rep X.K X.mg g x v ∧ Rep X.K X.mg g y u ∧ ∀ σ', Post X.K X.mg (Rep X.K X.mg) (atS W σ) σ' g (p x y S) Q)
      (fun v u H Q => ∃ (g : G) (S : Sto) (x y : D), Rel X.K X.mg g H S ∧ Rep X.K X.mg g x v ∧ Rep X.K X.mg g y u ∧ ∀ σ', Post X.K X.mg (Rep X.K X.mg) (atS W σ) σ' g (p' x y S) Q) (WE X a) (WE X b) (WE X c) σ H Q := by
  refine ha g σ H ev S _ rl er (Post.bind hP fun g1 x S1 v H1 l1 rl1 rx hP1 => ?_)
  refine hb g1 σ H1 ev S1 _ rl1 (er.le l1) (Post.bind hP1 fun g2 y S2 u H2 l2 rl2 ry hP2 => ?_)
  refine ⟨g2, S2, x, y, rl2, rx.le l2, ry, fun σ' => Post.atS (Post.bind hP2 fun g3 z S3 zv H3 l3 rl3 rz hP3 => ?_)⟩
  unfold chain2 at hP3
  split at hP3
  · cases rz
    refine ⟨true, rfl, ?_⟩
    rw [if_pos rfl]
    refine hc g3 σ H3 ev S3 _ rl3 (((er.le l1).le l2).le l3) (Post.bind hP3 fun g4 w S4 wv H4 l4 rl4 rw4 hP4 => ?_)
    exact ⟨g4, S4, y, w, rl4, (ry.le l3).le l4, rw4, fun σ'' => Post.atS hP4⟩
  · cases rz
    refine ⟨false, rfl, ?_⟩
    rw [if_neg Bool.false_ne_true]
    exact hP3 g3 _ H3 (G.le.refl g3) rl3 (.bl false)
  · exact hP3.elim
theorem em_chain {op op' : CmpOp} (o : ∀ W, OpM X W (compareOp op) p) (o' : ∀ W, OpM X W (compareOp op') p') (ha : EM X W a ma) (hb : EM X W b mb) (hc : EM X W c mc) (hm : lastMarks [op, op'] [b, c] = false := by with_unfolding_all rfl) : EM X W (.Compare a [op, op'] [b, c] pos) (mChain p p' ma mb mc) := by
  intro g σ H ev S Q rl er hP
  exact wE (pe_chain ((o (atS W σ)).opR (g := g)) ((o' (atS W σ)).opR (g := g)) (peW X a) (peW X b) (peW X c) hm) (chain_read (op := op) (op' := op') ha hb hc rl er hP)
theorem tm_chain {op op' : CmpOp} (o : ∀ W, OpM X W (compareOp op) p) (o' : ∀ W, OpM X W (compareOp op') p') (ha : EM X W a ma) (hb : EM X W b mb) (hc : EM X W c mc) (hm : lastMarks [op, op'] [b, c] = false := by with_unfolding_all rfl) : TM X W (.Compare a [op, op'] [b, c] pos) (mT (mChain p p' ma mb mc)) := by
  intro g σ H ev S Q rl er hP
  have hP' : Post X.K X.mg (Rep X.K X.mg) W σ g (mChain p p' ma mb mc ev S) (fun v H' => ∃ k, v = .bl k ∧ Q k H') := Post.bind hP fun g1 x S1 v H1 l1 rl1 rx hP1 => post_asB rl1 rx hP1
  exact wT (pt_chain ((o (atS W σ)).opR (g := g)) ((o' (atS W σ)).opR (g := g)) (peW X a) (peW X b) (peW X c) hm) (chain_read (op := op) (op' := op') ha hb hc rl er hP')
/-! ### o[i] = v -/
def setAt (ev : Ev) (d : D) (x y : D) (S : Sto) : R Ev := match x, y with
  | .ref n, .int k => match S[n]? with
    | some (.lst ds) => match ixN ds.length k with
      | some j => .ok ev (S.set n (.lst (ds.set j d)))
      | none => .no
    | _ => .no
  | _, _ => .no
def tgSub (mo mi : M D) : D → M Ev := fun d ev S => (mo ev S).bind fun x S1 => (mi ev S1).bind fun y S2 => setAt ev d x y S2
theorem Post.w0 {K : PySem.W.Frag} {mg : Str → Option Value} {α β : Type} {Rp : G → α → β → Prop} {σ σ' : Sl} {g : G} {r : R α} {Q : β → Hp → Prop} (h : Post K mg Rp W0 σ g r Q) : Post K mg Rp W0 σ' g r Q := by
  cases r with
  | ok x S => exact h
  | ex x S => exact fun g2 c d H l rl rx => (h g2 c d H l rl rx).elim
  | no => exact h
theorem gm_sub {vs : List Nat} (ha : EM X W0 a ma) (hb : EM X W0 b mb)
    (hx : ∀ v, assign (.Subscript a b pos) X.env v = (do let ov ← holding [v] (eval a X.env); let iv ← holding [v, ov] (eval b X.env); standAt pos; holding [v, ov, iv] (setItem ov iv v); release [v, ov, iv] []) := by intros; rfl) : GM X vs (.Subscript a b pos) (tgSub ma mb) := by
  intro g σ H ev S d v Q rl er r hP pins s u I ru
  refine (pg_sub (peW X a) (peW X b) set_list hx).run pins s σ H v u Q I ru ?_
  have hP0 := Post.w0 (σ' := σ) hP
  refine ha g σ H ev S _ rl er (Post.bind hP0 fun g1 x S1 xv H1 l1 rl1 rx hP1 => ?_)
  refine hb g1 σ H1 ev S1 _ rl1 (er.le l1) (Post.bind hP1 fun g2 y S2 yv H2 l2 rl2 ry hP2 => ?_)
  unfold setAt at hP2
  split at hP2
  · rename_i n k
    split at hP2
    · rename_i ds hds
      split at hP2
      · rename_i j hj
        have rx' := rx.le l2
        cases rx' with
        | ref ha' =>
          cases ry
          obtain ⟨h1, h2, vs', h3, h4⟩ := rl2.cell n _ _ hds ha'
          refine ⟨_, vs', k, j, rfl, rfl, h3, by rw [← h4.length]; exact hj, ?_⟩
          exact hP2 g2 σ _ (G.le.refl g2) (rl2.setCell hds ha' (RepL.set ((r.le l1).le l2) j h4)) ⟨((er.le l1).le l2), rfl⟩
      · exact hP2.elim
    · exact hP2.elim
  · exact hP2.elim
end

/-! ### defs by their names -/
structure DefF (K : PySem.W.Frag) (mg : Str → Option Value) (x qual : Str) (st : Stmt) : Prop where
  ex : ∃ f fd, mg x = some (.ref f) ∧ Fun K qual qual st f fd
structure DefG (P : Program) (w : World) (K : PySem.W.Frag) (mg : Str → Option Value) (x qual : Str) (st : Stmt) (ps : List Str) (k : Nat) (m : List D → Sto → R D) : Prop where
  ex : ∃ f fd, mg x = some (.ref f) ∧ Fun K qual qual st f fd ∧ FnG P w K mg k f fd ps m
section
variable {P : Program} {w : World} {K : PySem.W.Frag} {mg : Str → Option Value} {k : Nat} {x qual : Str} {st : Stmt} {ps N : List Str} {m : List D → Sto → R D}
theorem DefG.mono {j : Nat} (D : DefG P w K mg x qual st ps j m) (h : j ≤ k) : DefG P w K mg x qual st ps k m := by
  obtain ⟨f, fd, h1, h2, h3⟩ := D.ex
  exact ⟨f, fd, h1, h2, h3.mono h⟩
theorem DefG.no (F : DefF K mg x qual st) : DefG P w K mg x qual st ps k (fun _ _ => .no) := by
  obtain ⟨f, fd, h1, h2⟩ := F.ex
  exact ⟨f, fd, h1, h2, .none⟩
theorem defG_of {mb : MS} (F : DefF K mg x qual st) (S : FnScope N ps (defScope st))
    (hbody : ∀ (f : Addr) (base : Heap) (cdv : Value) (A : Around) (outer : List Env) (s : Shared) (H : Hp) (E : XK), Room k (A.deeper (envOfC qual (defScope st) s.heap.objs.size f cdv)) → (A.deeper (envOfC qual (defScope st) s.heap.objs.size f cdv)).guards = some [] →
      SMs (bodyX P w K mg base N qual st f cdv A outer s H E) (fun c d _ H => E c d H) (defBody st) mb) : DefG P w K mg x qual st ps (k + 1) (mDef N.length mb) := by
  obtain ⟨f, fd, h1, h2⟩ := F.ex
  exact ⟨f, fd, h1, h2, fnG_of h2 S fun base cdv A outer s H E hr hgd => hbody f base cdv A outer s H E hr hgd⟩
theorem takes_body {base : Heap} {f : Addr} {cdv : Value} {A : Around} {outer : List Env} {s : Shared} {H : Hp} {E : XK} : Takes (bodyX P w K mg base N qual st f cdv A outer s H E) (fun c d _ H => E c d H) := takes_of rfl rfl rfl rfl
theorem room64 {A : Around} (r : Room k A) : A.units + 64 < cLine := r.units
theorem room65 {A : Around} (r : Room k A) : A.units + 65 < cLine := by have := r.un; omega
end
section
variable {X : Cx} {W : WX} {j k : Nat} {x qual : Str} {st : Stmt} {ps ks : List Str} {m : List D → Sto → R D} {p pos : Pos} {e : Expr} {es : List Expr} {ml mk : M (List D)} {kws : List Keyword}
/-- how a def without defaults binds its positional arguments -/
def BindP (qual : Str) (st : Stmt) (ps : List Str) : Prop := ∀ (kV doc pm : Value) (an : Option Addr) (cdv ct : Value) (us : List Value), us.length = ps.length → bindArgs (PySem.W.fnOf qual qual (defArgs st) (defBody st) (defScope st) .none kV doc pm an cdv ct) ⟨us, []⟩ = pure (ps.zip us)
def BindKw (qual : Str) (st : Stmt) (ps ks : List Str) (a : Nat) (q : List Nat) : Prop := ∀ (kV doc pm : Value) (an : Option Addr) (cdv ct : Value) (us ws : List Value), us.length = a → ws.length = ks.length →
  bindArgs (PySem.W.fnOf qual qual (defArgs st) (defBody st) (defScope st) .none kV doc pm an cdv ct) ⟨us, ks.zip ws⟩ = pure (ps.zip (permL q (us ++ ws)))
theorem bindK_of {K : PySem.W.Frag} {f : Addr} {fd : FuncData} {a : Nat} {q : List Nat} (F : Fun K qual qual st f fd) (h : BindKw qual st ps ks a q) : BindsK K fd ps ks a q := by
  obtain ⟨oc, od, kV, doc, pm, an, cdv, ct, osl, rfl, lk, hcd⟩ := F.ex
  exact fun s us ws _ h1 h2 => .of_eq (h kV doc pm an cdv ct us ws h1 h2)
theorem em_callD (n : Nat) (D : DefG X.prog X.w X.K X.mg x qual st ps j m) (hr : Room k X.A) (hgd : X.A.guards = some []) (tk : Takes X W) (hb : BindP qual st ps) (ha : AM X W (e :: es) ml) (hjk : j ≤ k := by decide) (hn : ps.length = n := by rfl) (hg : Gl X x := by rfl)
    (hdb : (x == ("__debug__" : Str)) = false := by decide) (he : starEach (e :: es) X.env = (false, eval e X.env) :: starEach es X.env := by exact star1 rfl) (hpl : (backTo pos (starEach es X.env)).any (·.1) = false := by exact starP rfl) :
    EM X W (.Call (.Name x p) (e :: es) [] pos) (mCall n m ml) := by
  obtain ⟨f, fd, h1, h2, h3⟩ := D.ex
  exact em_call n (h3.mono hjk) hr hgd tk h1 h2.kp (h2.binds hb) ha hn hg hdb he hpl
theorem em_callD0 (D : DefG X.prog X.w X.K X.mg x qual st [] j m) (hr : Room k X.A) (hgd : X.A.guards = some []) (tk : Takes X W) (hb : BindP qual st []) (hjk : j ≤ k := by decide) (hg : Gl X x := by rfl)
    (hdb : (x == ("__debug__" : Str)) = false := by decide) : EM X W (.Call (.Name x p) [] [] pos) (fun _ S => m [] S) := by
  obtain ⟨f, fd, h1, h2, h3⟩ := D.ex
  exact em_call0 (h3.mono hjk) hr hgd tk h1 h2.kp (h2.binds hb) rfl hg hdb
theorem em_callDK (a : Nat) (q : List Nat) (D : DefG X.prog X.w X.K X.mg x qual st ps j m) (hr : Room k X.A) (hgd : X.A.guards = some []) (tk : Takes X W) (hb : BindKw qual st ps ks a q) (ha : AM X W (e :: es) ml) (hkw : KM X W kws mk) (hjk : j ≤ k := by decide)
    (hq : (q.all fun i => decide (i < a + ks.length)) = true := by rfl) (hql : q.length = ps.length := by rfl) (hall : (backToKw pos (keywordEach kws X.env)).all (·.1.isSome) = true := by exact kwAll rfl) (hks : (backToKw pos (keywordEach kws X.env)).filterMap (·.1) = ks := by exact kwNames rfl)
    (hg : Gl X x := by rfl) (hdb : (x == ("__debug__" : Str)) = false := by decide) (he : starEach (e :: es) X.env = (false, eval e X.env) :: starEach es X.env := by exact star1 rfl)
    (hpl : ((backTo pos (starEach (e :: es) X.env)).any (·.1) || (backToKw pos (keywordEach kws X.env)).any (·.1.isNone)) = false := by exact starKw rfl rfl) :
    EM X W (.Call (.Name x p) (e :: es) kws pos) (mCallK a ks.length q m ml mk) := by
  obtain ⟨f, fd, h1, h2, h3⟩ := D.ex
  exact em_callK a q (h3.mono hjk) hr hgd tk h1 h2.kp (bindK_of h2 hb) ha hkw hq hql hall hks hg hdb he hpl
theorem em_callDK0 (q : List Nat) (D : DefG X.prog X.w X.K X.mg x qual st ps j m) (hr : Room k X.A) (hgd : X.A.guards = some []) (tk : Takes X W) (hb : BindKw qual st ps ks 0 q) (hkw : KM X W kws mk) (hjk : j ≤ k := by decide)
    (hq : (q.all fun i => decide (i < ks.length)) = true := by rfl) (hql : q.length = ps.length := by rfl) (hall : (backToKw pos (keywordEach kws X.env)).all (·.1.isSome) = true := by exact kwAll rfl) (hks : (backToKw pos (keywordEach kws X.env)).filterMap (·.1) = ks := by exact kwNames rfl)
    (hg : Gl X x := by rfl) (hdb : (x == ("__debug__" : Str)) = false := by decide)
    (hpl : ((backTo pos (starEach [] X.env)).any (·.1) || (backToKw pos (keywordEach kws X.env)).any (·.1.isNone)) = false := by exact starKw rfl rfl) :
    EM X W (.Call (.Name x p) [] kws pos) (mCallK 0 ks.length q m (fun _ S => .ok [] S) mk) := by
  obtain ⟨f, fd, h1, h2, h3⟩ := D.ex
  exact em_callK0 q (h3.mono hjk) hr hgd tk h1 h2.kp (bindK_of h2 hb) hkw hq hql hall hks hg hdb hpl
end
def mkNil : M (List D) := fun _ S => .ok [] S
def mkCons (ma : M D) (mk : M (List D)) : M (List D) := fun ev S => (ma ev S).bind fun d S1 => (mk ev S1).bind fun ds S2 => .ok (d :: ds) S2
end ML


set_option Elab.async false
set_option linter.all false
set_option maxRecDepth 100000
set_option autoImplicit false
set_option maxHeartbeats 4000000
/-! the module's constants; a, b, c = x, y, z -/
namespace ML
open PySem PySem.Spec PyProof.Rows L2
/-- a module's name holds this datum -/
def Cst (K : PySem.W.Frag) (mg : Str → Option Value) (x : Str) (d : D) : Prop := ∃ u v, mg x = some u ∧ RelV v u ∧ ∀ g, Rep K mg g d v
theorem cst_int {K : PySem.W.Frag} {mg : Str → Option Value} {x : Str} {i : Int} {t : Tok} (h : mg x = some (.int i t)) : Cst K mg x (.int i) := ⟨_, .int i, h, ⟨t, rfl⟩, fun _ => .int i⟩
theorem cst_str {K : PySem.W.Frag} {mg : Str → Option Value} {x : Str} {i : Str} {t : Tok} (h : mg x = some (.str i t)) : Cst K mg x (.str i) := ⟨_, .str i, h, ⟨t, rfl⟩, fun _ => .str i⟩
section
variable {X : Cx} {W : WX} {pos : Pos} {a b c : Expr}
theorem em_cst {x : Str} {d : D} (h : Cst X.K X.mg x d) (hg : Gl X x := by rfl) (hd : (x == ("__debug__" : Str)) = false := by decide) : EM X W (.Name x pos) (mC d) := by
  obtain ⟨u, v, h1, h2, h3⟩ := h
  exact em_const h1 h2 h3 hg hd
def par3 (i j l : Nat) (ev : Ev) : List D → Sto → RS := fun ds S => match ds with
  | [x, y, z] => .ok .nx (((ev.set i (some x)).set j (some y)).set l (some z)) S
  | _ => .no
def sPar3 (i j l : Nat) (ml : M (List D)) : MS := fun ev S => bindS (ml ev S) ev (par3 i j l ev)
end
section
variable {K : PySem.W.Frag} {mg : Str → Option Value}
/-! ### what the top has written -/
theorem mk_def {h : Heap} (X : K.In h) (G : h.Ns mainGlobals mg) {x q : Str} {st : Stmt} {f : Addr} {oc : Value} {od an : Option Addr} {osl : Array (Option Value)} {kV doc pm cdv ct : Value}
    (a : PySem.W.nsIn K mainGlobals x = some (some (.ref f))) (l : K.lookup f = some ⟨oc, od, .func (PySem.W.fnOf q q (defArgs st) (defBody st) (defScope st) .none kV doc pm an cdv ct), osl⟩)
    (c : PySem.W.codeIn K cdv q = true) (k : PySem.W.keepIn K (.ref f) = true) : DefF K mg x q st := ⟨f, _, PySem.W.mg_of X G a, fun_mk l c k⟩
theorem mk_low {h : Heap} (X : K.In h) (G : h.Ns mainGlobals mg) {x fld iq : Str} {C fI : Addr} (fo : Low.FldOk fld) {p1 p2 q1 q2 q3 q4 : Pos}
    {nm q : Str} {N : Addr} {bs bm : List Value} {sn : List Str} {sub : List Value} {ab : Bool} {col : Option Bool} {dd : Option Addr} {m0 m1 m2 m3 m5 : Option Value} {oc doc pm cdv ct : Value} {od an : Option Addr} {osl : Array (Option Value)}
    (aC : PySem.W.nsIn K mainGlobals x = some (some (.ref C)))
    (xL : K.lookup C = some (excClassObj nm q C N bs bm true sn sub ab col dd m0 m1 m2 m3 m5 "ValueError.__new__"))
    (sa : PySem.W.findIn K (.ref C) "__setattr__" = some (some (.builtin "object.__setattr__"))) (ga : PySem.W.findIn K (.ref C) "__getattribute__" = some (some (.builtin "BaseException.__getattribute__"))) (gg : PySem.W.findIn K (.ref C) "__getattr__" = some none) (nb : PySem.W.findIn K (.ref C) fld = some none)
    (a1 : PySem.W.findIn K (.ref C) "__init__" = some (some (.ref fI))) (t1 : PySem.W.typeIn K (.ref fI) = some (.type "function"))
    (l1 : K.lookup fI = some ⟨oc, od, .func (PySem.W.fnOf "__init__" iq (Low.iA fld p1 p2) (Low.iB fld q1 q2 q3 q4) (Low.iS fld) .none .none doc pm an cdv ct), osl⟩) (c1 : PySem.W.codeIn K cdv iq = true)
    (kC : PySem.W.keepIn K (.ref C) = true) (eC : PySem.W.subIn K (.ref C) (.type "BaseException") = some true) (tC : PySem.W.typeIn K (.ref C) = some (.type "type")) (hC : PySem.W.hasDictIn K C = true) (hbm : PySem.HandSPX.refsVE bm = true) : ∃ C fI, Low.LowTxt K mg x fld iq C fI :=
  ⟨C, fI, { fo := fo, gC := PySem.W.mg_of X G aC, cls := ⟨nm, q, N, bs, _, sn, sub, ab, col, dd, m0, m1, m2, m3, m5, xL, hbm⟩, sa := sa, ga := ga, gg := gg, noN := nb, iC := a1, tC := t1, kC := kC, exC := eC, tyC := tC, hdC := hC, fn := ⟨_, _, _, _, _, _, _, _, _, _, _, _, _, _, l1, c1⟩ }⟩
abbrev Table := List (Str × Str × Bool)
/-- the table's answer: is an error of the class y one of the class c -/
def tstL (l : Table) (c y : Str) : Option Bool := match l with
  | [] => none
  | p :: r => if (p.1 == c && p.2.1 == y) = true then some p.2.2 else tstL r c y
def AllT (F : Str → Str → Bool → Prop) : Table → Prop
  | [] => True
  | p :: r => F p.1 p.2.1 p.2.2 ∧ AllT F r
theorem AllT.get {F : Str → Str → Bool → Prop} : ∀ {l : Table} {c y : Str} {b : Bool}, AllT F l → tstL l c y = some b → F c y b
  | [], _, _, _, _, h => by cases h
  | p :: r, c, y, b, ⟨h1, h2⟩, h => by
    unfold tstL at h
    split at h
    · rename_i e
      have e' : p.1 = c ∧ p.2.1 = y := by simpa using e
      cases h
      rw [← e'.1, ← e'.2]
      exact h1
    · exact AllT.get h2 h
def SubF (K : PySem.W.Frag) (mg : Str → Option Value) (c y : Str) (b : Bool) : Prop := ∃ Cc Cy, mg c = some (.ref Cc) ∧ mg y = some (.ref Cy) ∧ PySem.W.exmOne K (.ref Cy) (.ref Cc) = some b
def IsF (K : PySem.W.Frag) (mg : Str → Option Value) (c y : Str) (b : Bool) : Prop := ∃ Cc Cy, mg c = some (.ref Cc) ∧ mg y = some (.ref Cy) ∧ ExcC K Cy ∧ PySem.W.kitOne K (.ref Cy) (.ref Cc) = some b
theorem try_ok {l : Table} (h : AllT (SubF K mg) l) {c : Str} (Cc : Addr) (hc : mg c = some (.ref Cc)) (y : Str) (b : Bool) (C : Addr) (ht : tstL l c y = some b) (hy : mg y = some (.ref C)) : PySem.W.exmOne K (.ref C) (.ref Cc) = some b := by
  obtain ⟨Cc', Cy, h1, h2, h3⟩ := h.get ht
  rw [hc] at h1; rw [hy] at h2
  cases h1; cases h2
  exact h3
theorem is_ok {l : Table} (h : AllT (IsF K mg) l) {c : Str} (Cc : Addr) (hc : mg c = some (.ref Cc)) (y : Str) (b : Bool) (ht : tstL l c y = some b) : ∃ C, mg y = some (.ref C) ∧ ExcC K C ∧ PySem.W.kitOne K (.ref C) (.ref Cc) = some b := by
  obtain ⟨Cc', Cy, h1, h2, h3, h4⟩ := h.get ht
  rw [hc] at h1
  cases h1
  exact ⟨Cy, h2, h3, h4⟩
theorem mk_sub {h : Heap} (X : K.In h) (G : h.Ns mainGlobals mg) {c y : Str} {b : Bool} {Cc Cy : Addr} (a : PySem.W.nsIn K mainGlobals c = some (some (.ref Cc))) (d : PySem.W.nsIn K mainGlobals y = some (some (.ref Cy)))
    (h1 : PySem.W.subIn K (.ref Cc) (.type "BaseException") = some true) (h2 : PySem.W.hasDictIn K Cc = true) (h3 : PySem.W.typeIn K (.ref Cc) = some (.type "type")) (h4 : PySem.W.subIn K (.ref Cy) (.ref Cc) = some b) : SubF K mg c y b :=
  ⟨Cc, Cy, PySem.W.mg_of X G a, PySem.W.mg_of X G d, PySem.W.exm_ref h1 h2 h3 h4⟩
theorem mk_is {h : Heap} (X : K.In h) (G : h.Ns mainGlobals mg) {c y : Str} {b : Bool} {Cc Cy : Addr} (a : PySem.W.nsIn K mainGlobals c = some (some (.ref Cc))) (d : PySem.W.nsIn K mainGlobals y = some (some (.ref Cy)))
    (hg : PySem.W.findIn K (.ref Cy) "__getattribute__" = some (some (.builtin "BaseException.__getattribute__"))) (hk : PySem.W.findIn K (.ref Cy) "__getattr__" = some none)
    (hs : PySem.W.subIn K (.ref Cy) (.type "BaseException") = some true) (hd : PySem.W.hasDictIn K Cy = true) (ha : PySem.W.findIn K (.ref Cy) "__class__" = some (some (.builtin "object.__class__")))
    (hn : PySem.W.specialIn K (.builtin "object.__class__") "__get__" = some (some (.builtin "getset_descriptor.__get__"))) (ht : PySem.W.takesIn K (.builtin "object.__class__") = some true) (hm : PySem.W.mroIn K Cy (.type "object") = some true)
    (h4 : PySem.W.kitOne K (.ref Cy) (.ref Cc) = some b) : IsF K mg c y b := ⟨Cc, Cy, PySem.W.mg_of X G a, PySem.W.mg_of X G d, ⟨hg, hk, hs, hd, ha, hn, ht, hm⟩, h4⟩
theorem xf_nil {fld : Str} : ∀ c ∈ ([] : List Str), XF K mg fld c := fun _ h => by cases h
theorem xf_cons {fld x iq : Str} {l : List Str} (h : ∃ C fI, Low.LowTxt K mg x fld iq C fI) (r : ∀ c ∈ l, XF K mg fld c) : ∀ c ∈ x :: l, XF K mg fld c := fun c hc => by
  rcases List.mem_cons.mp hc with rfl | hc
  · obtain ⟨_, _, T⟩ := h; exact T.xf
  · exact r c hc
theorem law_fd {P : Program} {w : World} {x qual p : Str} {st : Stmt} {k : Nat} {m : List D → Sto → R D} {fa : Addr} (D : DefG P w K mg x qual st [p] k m) (hb : BindP qual st [p]) (hmg : mg x = some (.ref fa)) :
    ∃ fd : FuncData, (∀ (s : Shared) (u : Value), BindsTo s fd ⟨[u], []⟩ [(p, u)]) ∧ FnG P w K mg k fa fd [p] m := by
  obtain ⟨f, fd, h1, h2, h3⟩ := D.ex
  rw [hmg] at h1
  cases h1
  obtain ⟨oc, od, kV, doc, pm, an, cdv, ct, osl, e, lk, hcd⟩ := h2.ex
  subst e
  exact ⟨_, fun s u => .of_eq (hb kV doc pm an cdv ct [u] rfl), h3⟩
end
end ML


set_option Elab.async false
set_option linter.all false
set_option maxRecDepth 100000
set_option autoImplicit false
set_option maxHeartbeats 4000000
/-! plain Lean about the mirrors: the parts that each law of this program shares (pot, draw, pick, same), loops by invariants -/
namespace ML
open PySem PySem.Spec PyProof.Rows L2
theorem bind_ok {α β : Type} (a : α) (S : Sto) (f : α → Sto → R β) : (R.ok a S).bind f = f a S := rfl
theorem bindS_ok {α : Type} (a : α) (S : Sto) (ev : Ev) (f : α → Sto → RS) : bindS (R.ok a S) ev f = f a S := rfl
theorem seqS_nx (ev : Ev) (S : Sto) (f : MS) : seqS (.ok .nx ev S) f = f ev S := rfl
theorem seqS_rt (d : D) (ev : Ev) (S : Sto) (f : MS) : seqS (.ok (.rt d) ev S) f = .ok (.rt d) ev S := rfl
theorem asV_non (S : Sto) : asVal (some (some .non)) S = .ok .non S := rfl
theorem asV_bl (x : Bool) (S : Sto) : asVal (some (some (.bl x))) S = .ok (.bl x) S := rfl
theorem asV_int (x : Int) (S : Sto) : asVal (some (some (.int x))) S = .ok (.int x) S := rfl
theorem asV_str (x : Str) (S : Sto) : asVal (some (some (.str x))) S = .ok (.str x) S := rfl
theorem asV_tup (x : List D) (S : Sto) : asVal (some (some (.tup x))) S = .ok (.tup x) S := rfl
theorem asV_lst (x : List D) (S : Sto) : asVal (some (some (.lst x))) S = .ok (.lst x) S := rfl
theorem asV_rol (x : List D) (S : Sto) : asVal (some (some (.rol x))) S = .ok (.rol x) S := rfl
theorem asV_ref (x : Nat) (S : Sto) : asVal (some (some (.ref x))) S = .ok (.ref x) S := rfl

/-! ### loops -/
theorem lc_inv {tg : D → M Ev} {cond : M Bool} {el : M D} {ev : Ev} {c : Src} (I : Sto → Prop) (P : D → Prop) (hl : ∀ S, I S → c.live S = true) :
    ∀ (items : List D) (acc : List D) (S : Sto), (∀ d ∈ items, ∀ S, I S → ∃ ev2 S2 S3 y S4, tg d ev S = .ok ev2 S2 ∧ cond ev2 S2 = .ok true S3 ∧ el ev2 S3 = .ok y S4 ∧ I S4 ∧ P y) → I S → acc.length + items.length ≤ 16777216 →
    ∃ ys S', lcL tg cond el ev c items acc S = .ok (acc ++ ys) S' ∧ ys.length = items.length ∧ (∀ y ∈ ys, P y) ∧ I S'
  | [], acc, S, _, hI, _ => ⟨[], S, by unfold lcL; rw [if_pos (hl S hI), List.append_nil], rfl, (fun y h => by simp at h), hI⟩
  | d :: ds, acc, S, h, hI, hz => by
    obtain ⟨ev2, S2, S3, y, S4, e1, e2, e3, hI4, hP⟩ := h d List.mem_cons_self S hI
    have hz' : acc.length + (ds.length + 1) ≤ 16777216 := by simpa using hz
    obtain ⟨ys, S', q1, q2, q3, q4⟩ := lc_inv I P hl ds (acc ++ [y]) S4 (fun d' hd => h d' (List.mem_cons_of_mem _ hd)) hI4 (by rw [List.length_append, List.length_singleton]; omega)
    refine ⟨y :: ys, S', ?_, by rw [List.length_cons, List.length_cons, q2], fun z hz => ?_, q4⟩
    · unfold lcL
      rw [if_pos (hl S hI), e1, bind_ok, e2, bind_ok, if_pos rfl, e3, bind_ok, if_pos (by omega), q1, List.append_assoc]
      rfl
    · rcases List.mem_cons.mp hz with rfl | hz
      · exact hP
      · exact q3 z hz
/-- nothing is changed, each item gives f of it -/
theorem lc_map {tg : D → M Ev} {cond : M Bool} {el : M D} {ev : Ev} {c : Src} {S : Sto} (f : D → D) (hl : c.live S = true) :
    ∀ (items : List D) (acc : List D), (∀ d ∈ items, ∃ ev2, tg d ev S = .ok ev2 S ∧ cond ev2 S = .ok true S ∧ el ev2 S = .ok (f d) S) → acc.length + items.length ≤ 16777216 →
    lcL tg cond el ev c items acc S = .ok (acc ++ items.map f) S
  | [], acc, _, _ => by unfold lcL; rw [if_pos hl, List.map_nil, List.append_nil]
  | d :: ds, acc, h, hz => by
    obtain ⟨ev2, e1, e2, e3⟩ := h d List.mem_cons_self
    have hz' : acc.length + (ds.length + 1) ≤ 16777216 := by simpa using hz
    unfold lcL
    rw [if_pos hl, e1, bind_ok, e2, bind_ok, if_pos rfl, e3, bind_ok, if_pos (by omega), lc_map f hl ds (acc ++ [f d]) (fun d' hd => h d' (List.mem_cons_of_mem _ hd)) (by rw [List.length_append, List.length_singleton]; omega), List.append_assoc]
    rfl
/-- a for, by what is so ahead of the i-th turn -/
theorem for_post {tg : D → M Ev} {body : MS} {c : Src} (Q : RS → Prop) (I : Nat → Ev → Sto → Prop) (hl : ∀ i ev S, I i ev S → c.live S = true) :
    ∀ (items : List D) (i : Nat) (ev : Ev) (S : Sto), (∀ j d, items[j]? = some d → ∀ ev S, I (i + j) ev S → ∃ ev2 S2, tg d ev S = .ok ev2 S2 ∧ ((∃ ev3 S3, (body ev2 S2 = .ok .nx ev3 S3 ∨ body ev2 S2 = .ok .ct ev3 S3) ∧ I (i + j + 1) ev3 S3) ∨
      (∃ ev3 S3, body ev2 S2 = .ok .bk ev3 S3 ∧ Q (.ok .nx ev3 S3)) ∨ (∃ d' ev3 S3, body ev2 S2 = .ok (.rt d') ev3 S3 ∧ Q (.ok (.rt d') ev3 S3)))) →
    (∀ ev S, I (i + items.length) ev S → Q (.ok .nx ev S)) → I i ev S → Q (forL tg body c items ev S)
  | [], i, ev, S, _, hq, hI => by unfold forL; rw [if_pos (hl i ev S hI)]; exact hq ev S hI
  | d :: ds, i, ev, S, h, hq, hI => by
    obtain ⟨ev2, S2, e1, hc⟩ := h 0 d rfl ev S hI
    unfold forL
    rw [if_pos (hl i ev S hI), e1]
    show Q (loopS (body ev2 S2) (forL tg body c ds))
    rcases hc with ⟨ev3, S3, hb, hI3⟩ | ⟨ev3, S3, hb, hQ⟩ | ⟨d', ev3, S3, hb, hQ⟩
    · have go : Q (forL tg body c ds ev3 S3) := for_post Q I hl ds (i + 1) ev3 S3 (fun j d hd ev S hI => by
        have e : i + 1 + j = i + (j + 1) := by omega
        rw [e] at hI ⊢
        exact h (j + 1) d (by simpa using hd) ev S hI) (fun ev S hI => hq ev S (by
        have e : i + 1 + ds.length = i + (d :: ds).length := by rw [List.length_cons]; omega
        rw [e] at hI
        exact hI)) hI3
      rcases hb with hb | hb <;> rw [hb] <;> exact go
    · rw [hb]; exact hQ
    · rw [hb]; exact hQ
/-! ### draws -/
def drawB : MS := sCons (sIf (mT (m2 (pcmp fun i j => decide (j < i)) (m2 pix (mVar 0) (mC (.int 0))) (mC (.int 0)))) (sCons (sSet 2 (m2 pmod (mL pint (mCons (m2 pix (mVar 0) (mC (.int 0))) (mNil))) (mVar 1))) (sCons (sAsg (tgSub (mVar 0) (mC (.int 0))) (m2 pfdiv (mL pint (mCons (m2 pix (mVar 0) (mC (.int 0))) (mNil))) (mVar 1))) (sRet (mVar 2)))) (sNil)) (sCons (sAsg (tgSub (mVar 0) (mC (.int 1))) (m2 pmod (mL pint (mCons (m2 (padd false) (m2 (pmul false) (m2 pix (mVar 0) (mC (.int 1))) (mC (.int 40127))) (mC (.int 6329))) (mNil))) (mC (.int 2147483587)))) (sRet (m2 pmod (mL pint (mCons (m2 pfdiv (m2 pmod (mL pint (mCons (m2 (pmul false) (m2 pix (mVar 0) (mC (.int 1))) (m2 pix (mVar 0) (mC (.int 1)))) (mNil))) (mC (.int 2147483549))) (mC (.int 23))) (mNil))) (mVar 1))))
def mDraw : List D → Sto → R D := mDef (["pot", "many", "digit"] : List Str).length drawB
/-- a pot stands at n -/
def Pot (S : Sto) (n : Nat) : Prop := ∃ a b : Int, 0 ≤ a ∧ S[n]? = some (.lst [.int a, .int b])
theorem atI0 {α : Type} (x y : α) : atI [x, y] 0 = some x := rfl
theorem atI1 {α : Type} (x y : α) : atI [x, y] 1 = some y := rfl
theorem draw_ok {S : Sto} {n : Nat} {many : Int} (h : Pot S n) (h0 : 0 < many) (h1 : many < 1073741824) : ∃ d a b : Int, mDraw [.ref n, .int many] S = .ok (.int d) (S.set n (.lst [.int a, .int b])) ∧ 0 ≤ a ∧ 0 ≤ d ∧ d < many := by
  obtain ⟨a, b, ha, hS⟩ := h
  by_cases hp : 0 < a
  · refine ⟨a % many, a / many, b, ?_, ?_, Int.emod_nonneg _ (by omega), Int.emod_lt_of_pos _ h0⟩
    · unfold mDraw drawB
      simp [mDef, endS, startD, sCons, seqS, sRet, sRetN, sSet, sIf, sNil, sAsg, sExpr, sPar, par2, bindS, noEx, ML.R.bind, m1, m2, mT, mTr, asB, asTr, mC, mVar, asV_non, asV_bl, asV_int, asV_str, asV_tup, asV_lst, asV_rol, asV_ref, mL, mCons, mNil, mIf, mCall, tgN, tgSub, tgT, tgCons, tgNil, setAt, tNotM, tAndM, tOrM, mAnd, mOr, pnot, pix, pcmp, padd, psub, pmul, pfdiv, pmod, pint, plen, ptup, pisN, pnotN, seqOf, pneg, mSl, oNone, oSome, asI, mLc, mSrc, asSrc, drawn, mYes, evWipe, mkL, plst, hS, hp, h0, h1, atD, ixN]
    · exact Int.ediv_nonneg ha (by omega)
  · have hn : n < S.length := (List.getElem?_eq_some_iff.mp hS).1
    have hb : ∀ x : Int, 0 ≤ x % 2147483587 ∧ x % 2147483587 < 2147483587 := fun x => ⟨Int.emod_nonneg _ (by decide), Int.emod_lt_of_pos _ (by decide)⟩
    obtain ⟨b', hb'⟩ : ∃ b' : Int, b' = (b * 40127 + 6329) % 2147483587 := ⟨_, rfl⟩
    have h2 := hb (b * 40127 + 6329)
    rw [← hb'] at h2
    have h3 : -18446744073709551616 < b' ∧ b' < 18446744073709551616 := by omega
    refine ⟨b' * b' % 2147483549 / 23 % many, a, b', ?_, ha, Int.emod_nonneg _ (by omega), Int.emod_lt_of_pos _ h0⟩
    have hs : ∀ c : Cell, (S.set n c)[n]? = some c := fun c => List.getElem?_set_self hn
    unfold mDraw drawB
    simp [mDef, endS, startD, sCons, seqS, sRet, sRetN, sSet, sIf, sNil, sAsg, sExpr, sPar, par2, bindS, noEx, ML.R.bind, m1, m2, mT, mTr, asB, asTr, mC, mVar, asV_non, asV_bl, asV_int, asV_str, asV_tup, asV_lst, asV_rol, asV_ref, mL, mCons, mNil, mIf, mCall, tgN, tgSub, tgT, tgCons, tgNil, setAt, tNotM, tAndM, tOrM, mAnd, mOr, pnot, pix, pcmp, padd, psub, pmul, pfdiv, pmod, pint, plen, ptup, pisN, pnotN, seqOf, pneg, mSl, oNone, oSome, asI, mLc, mSrc, asSrc, drawn, mYes, evWipe, mkL, plst, hS, hp, h0, h1, hs, ← hb', h3, atD, ixN]
def pickB : MS := sRet (m2 pix (mVar 1) (mCall 2 mDraw (mCons (mVar 0) (mCons (mL plen (mCons (mVar 1) (mNil))) (mNil)))))
def mPick : List D → Sto → R D := mDef (["pot", "some"] : List Str).length pickB
/-- only the cell at n has changed, and it is a pot -/
def Chg (n : Nat) (S S' : Sto) : Prop := ∃ a b : Int, 0 ≤ a ∧ S' = S.set n (.lst [.int a, .int b])
theorem draw_chg {S : Sto} {n : Nat} {many : Int} (h : Pot S n) (h0 : 0 < many) (h1 : many < 1073741824) : ∃ (d : Int) (S' : Sto), mDraw [.ref n, .int many] S = .ok (.int d) S' ∧ Chg n S S' ∧ 0 ≤ d ∧ d < many := by
  obtain ⟨d, a, b, e, ha, h2, h3⟩ := draw_ok h h0 h1
  exact ⟨d, _, e, ⟨a, b, ha, rfl⟩, h2, h3⟩
theorem Pot.lt {S : Sto} {n : Nat} (h : Pot S n) : n < S.length := by obtain ⟨a, b, _, e⟩ := h; exact (List.getElem?_eq_some_iff.mp e).1
theorem Chg.pot {n : Nat} {S S' : Sto} (c : Chg n S S') (h : Pot S n) : Pot S' n := by
  obtain ⟨a, b, ha, rfl⟩ := c
  exact ⟨a, b, ha, by rw [List.getElem?_set_self h.lt]⟩
theorem Chg.other {n m : Nat} {S S' : Sto} (c : Chg n S S') (h : m ≠ n) : S'[m]? = S[m]? := by
  obtain ⟨a, b, ha, rfl⟩ := c
  rw [List.getElem?_set_ne (Ne.symm h)]
theorem Chg.len {n : Nat} {S S' : Sto} (c : Chg n S S') : S'.length = S.length := by
  obtain ⟨a, b, ha, rfl⟩ := c
  rw [List.length_set]
theorem Chg.trans {n : Nat} {S S' S'' : Sto} (c : Chg n S S') (d : Chg n S' S'') : Chg n S S'' := by
  obtain ⟨a, b, ha, rfl⟩ := c
  obtain ⟨a', b', ha', rfl⟩ := d
  exact ⟨a', b', ha', by rw [List.set_set]⟩
theorem Chg.refl {n : Nat} {S : Sto} (h : Pot S n) : Chg n S S := by
  obtain ⟨a, b, ha, e⟩ := h
  refine ⟨a, b, ha, List.ext_getElem? fun i => ?_⟩
  rw [List.getElem?_set]
  split
  · rename_i q
    subst q
    have hn := (List.getElem?_eq_some_iff.mp e).1
    rw [if_pos hn, e]
  · rfl
/-- one of a written tuple's items -/
theorem pick_ok {S : Sto} {n : Nat} {ds : List D} (h : Pot S n) (h0 : ds ≠ []) (h1 : ds.length < 1073741824) : ∃ (d : D) (S' : Sto), mPick [.ref n, .tup ds] S = .ok d S' ∧ Chg n S S' ∧ d ∈ ds := by
  have hl : 0 < ds.length := List.length_pos_iff.mpr h0
  obtain ⟨i, S', e, c, h2, h3⟩ := draw_chg (many := (ds.length : Int)) h (by omega) (by omega)
  have hi : i.toNat < ds.length := by omega
  refine ⟨ds[i.toNat], S', ?_, c, List.getElem_mem hi⟩
  have hat : atD ds i = some ds[i.toNat] := by
    unfold atD ixN
    rw [if_pos h2, if_pos h3]
    exact List.getElem?_eq_getElem hi
  unfold mPick pickB
  simp [mDef, endS, startD, sCons, seqS, sRet, sRetN, sSet, sIf, sNil, sAsg, sExpr, sPar, par2, bindS, noEx, ML.R.bind, m1, m2, mT, mTr, asB, asTr, mC, mVar, asV_non, asV_bl, asV_int, asV_str, asV_tup, asV_lst, asV_rol, asV_ref, mL, mCons, mNil, mIf, mCall, tgN, tgSub, tgT, tgCons, tgNil, setAt, tNotM, tAndM, tOrM, mAnd, mOr, pnot, pix, pcmp, padd, psub, pmul, pfdiv, pmod, pint, plen, ptup, pisN, pnotN, seqOf, pneg, mSl, oNone, oSome, asI, mLc, mSrc, asSrc, drawn, mYes, evWipe, mkL, plst, e, hat]
/-- .. of a list's -/
theorem pickL_ok {S : Sto} {n : Nat} {x : D} {ds : List D} (h : Pot S n) (hx : ∀ S', Chg n S S' → seqOf S' x = some ds) (h0 : ds ≠ []) (h1 : ds.length < 1073741824) : ∃ (d : D) (S' : Sto), mPick [.ref n, x] S = .ok d S' ∧ Chg n S S' ∧ d ∈ ds := by
  have hl : 0 < ds.length := List.length_pos_iff.mpr h0
  obtain ⟨i, S', e, c, h2, h3⟩ := draw_chg (many := (ds.length : Int)) h (by omega) (by omega)
  have hi : i.toNat < ds.length := by omega
  have hat : atD ds i = some ds[i.toNat] := by
    unfold atD ixN
    rw [if_pos h2, if_pos h3]
    exact List.getElem?_eq_getElem hi
  have hx0 := hx S (Chg.refl h)
  have hx1 := hx S' c
  refine ⟨ds[i.toNat], S', ?_, c, List.getElem_mem hi⟩
  unfold mPick pickB
  cases x with
  | lst es => simp only [seqOf, Option.some.injEq] at hx1; subst hx1; simp [mDef, endS, startD, sCons, seqS, sRet, sRetN, sSet, sIf, sNil, sAsg, sExpr, sPar, par2, bindS, noEx, ML.R.bind, m1, m2, mT, mTr, asB, asTr, mC, mVar, asV_non, asV_bl, asV_int, asV_str, asV_tup, asV_lst, asV_rol, asV_ref, mL, mCons, mNil, mIf, mCall, tgN, tgSub, tgT, tgCons, tgNil, setAt, tNotM, tAndM, tOrM, mAnd, mOr, pnot, pix, pcmp, padd, psub, pmul, pfdiv, pmod, pint, plen, ptup, pisN, pnotN, seqOf, pneg, mSl, oNone, oSome, asI, mLc, mSrc, asSrc, drawn, mYes, evWipe, mkL, plst, e, hat]
  | rol es => simp only [seqOf, Option.some.injEq] at hx1; subst hx1; simp [mDef, endS, startD, sCons, seqS, sRet, sRetN, sSet, sIf, sNil, sAsg, sExpr, sPar, par2, bindS, noEx, ML.R.bind, m1, m2, mT, mTr, asB, asTr, mC, mVar, asV_non, asV_bl, asV_int, asV_str, asV_tup, asV_lst, asV_rol, asV_ref, mL, mCons, mNil, mIf, mCall, tgN, tgSub, tgT, tgCons, tgNil, setAt, tNotM, tAndM, tOrM, mAnd, mOr, pnot, pix, pcmp, padd, psub, pmul, pfdiv, pmod, pint, plen, ptup, pisN, pnotN, seqOf, pneg, mSl, oNone, oSome, asI, mLc, mSrc, asSrc, drawn, mYes, evWipe, mkL, plst, e, hat]
  | ref m =>
    have g0 : seqOf S (.ref m) = some ds := hx0
    have g1 : seqOf S' (.ref m) = some ds := hx1
    have q0 : S[m]? = some (.lst ds) := by
      simp only [seqOf] at g0
      split at g0
      · rename_i q; rw [q, Option.some.inj g0]
      · cases g0
    have q1 : S'[m]? = some (.lst ds) := by
      simp only [seqOf] at g1
      split at g1
      · rename_i q; rw [q, Option.some.inj g1]
      · cases g1
    simp [mDef, endS, startD, sCons, seqS, sRet, sRetN, sSet, sIf, sNil, sAsg, sExpr, sPar, par2, bindS, noEx, ML.R.bind, m1, m2, mT, mTr, asB, asTr, mC, mVar, asV_non, asV_bl, asV_int, asV_str, asV_tup, asV_lst, asV_rol, asV_ref, mL, mCons, mNil, mIf, mCall, tgN, tgSub, tgT, tgCons, tgNil, setAt, tNotM, tAndM, tOrM, mAnd, mOr, pnot, pix, pcmp, padd, psub, pmul, pfdiv, pmod, pint, plen, ptup, pisN, pnotN, seqOf, pneg, mSl, oNone, oSome, asI, mLc, mSrc, asSrc, drawn, mYes, evWipe, mkL, plst, e, hat, q0, q1]
  | _ => simp [seqOf] at hx0
end ML


set_option Elab.async false
set_option linter.all false
set_option maxRecDepth 100000
set_option autoImplicit false
set_option maxHeartbeats 4000000
/-! plain Lean about the mirrors: the parts that each law of this program shares (pot, draw, pick, same), loops by invariants -/
namespace ML
open PySem PySem.Spec PyProof.Rows L2
/-! ### the pot of a script -/
def potB : MS := sCons (sSet 2 (m2 (padd false) (m2 (padd false) (m2 (pmul false) (mC (.int 839)) (mVar 1)) (mC (.int 431))) (m2 pmod (mL pint (mCons (mL pabs (mCons (mL psum (mCons (mSl false (mVar 0) (oNone) (oSome (mC (.int 1)))) (mNil))) (mNil))) (mNil))) (mC (.int 1000003))))) (sCons (sSet 3 (mIf (mT (m2 (pcmp fun i j => decide (i < j)) (mVar 1) (mL plen (mCons (mVar 0) (mNil))))) (mL pabs (mCons (m2 pix (mVar 0) (mVar 1)) (mNil))) (mVar 2))) (sRet (mL (plst true) (mCons (mL pmax2 (mCons (mC (.int 0)) (mCons (m2 psub (mVar 3) (m2 ppow (mC (.int 10)) (mC (.int 18)))) (mNil)))) (mCons (m2 (padd false) (m2 pmod (mL pint (mCons (m2 (padd false) (m2 (padd false) (m2 (pmul false) (m2 pmod (mL pint (mCons (mVar 3) (mNil))) (mC (.int 2147483579))) (mC (.int 40127))) (m2 (pmul false) (mC (.int 6329)) (mVar 1))) (mC (.int 431))) (mNil))) (mC (.int 2147483563))) (mC (.int 1))) (mNil))))))
def mPot : List D → Sto → R D := mDef (["script", "k", "spare", "cell"] : List Str).length potB
theorem cutD_map {α β : Type} (f : α → β) (l : List α) (lo hi : Option Int) : cutD (l.map f) lo hi = (cutD l lo hi).map f := by
  unfold cutD
  rw [List.length_map, ← List.map_drop, ← List.map_take]
theorem asIs_map : ∀ l : List Int, asIs (l.map D.int) = some l
  | [] => rfl
  | i :: l => by show (asIs (l.map D.int)).map (i :: ·) = _; rw [asIs_map l]; rfl
theorem pot_ok (ns : List Int) (k : Nat) (hk : k < 64) (S : Sto) : ∃ a b : Int, 0 ≤ a ∧ mPot [.rol (ns.map D.int), .int (k : Int)] S = .ok (.ref S.length) (S ++ [.lst [.int a, .int b]]) := by
  have h1 := asIs_map (cutD ns none (some 1))
  have h2 : cutD (ns.map D.int) none (some 1) = (cutD ns none (some 1)).map D.int := cutD_map _ _ _ _
  by_cases hc : (k : Int) < (ns.length : Int)
  · have hat : atD (ns.map D.int) (k : Int) = some (.int (ns[k]'(by omega))) := by
      unfold atD ixN
      rw [List.length_map, if_pos (by omega), if_pos hc]
      show (ns.map D.int)[((k : Int)).toNat]? = _
      rw [Int.toNat_natCast, List.getElem?_map, List.getElem?_eq_getElem (by omega)]
      rfl
    generalize hcell : mPot [.rol (ns.map D.int), .int (k : Int)] S = r
    unfold mPot potB at hcell
    simp [mDef, endS, startD, sCons, seqS, sRet, sSet, bindS, R.bind, m2, mT, asB, mC, mVar, asVal, mL, mCons, mNil, mIf, pix, pcmp, padd, psub, pmul, pmod, pint, plen, seqOf, mSl, oNone, oSome, asI, plst, mkL, hc, hat, h1, h2, psum, pabs, pslice, ppow, pmax2] at hcell
    exact ⟨_, _, by repeat (first | split | omega), hcell.symm⟩
  · generalize hcell : mPot [.rol (ns.map D.int), .int (k : Int)] S = r
    unfold mPot potB at hcell
    simp [mDef, endS, startD, sCons, seqS, sRet, sSet, bindS, R.bind, m2, mT, asB, mC, mVar, asVal, mL, mCons, mNil, mIf, pix, pcmp, padd, psub, pmul, pmod, pint, plen, seqOf, mSl, oNone, oSome, asI, plst, mkL, hc, h1, h2, psum, pabs, pslice, ppow, pmax2] at hcell
    exact ⟨_, _, by repeat (first | split | omega), hcell.symm⟩
/-! ### the same data -/
def sameB (r : List D → Sto → R D) : MS := sCons (sIf (mT (m1 pisN (mVar 1))) (sRet (m1 pisN (mVar 0))) (sNil)) (sCons (sIf (mTr (mL pisi (mCons (mVar 1) (mCons (mC (.ty "bool")) (mNil))))) (sRet (mAnd (mL pisi (mCons (mVar 0) (mCons (mC (.ty "bool")) (mNil)))) (m2 peq (mVar 0) (mVar 1)))) (sNil)) (sCons (sIf (mTr (mL pisi (mCons (mVar 1) (mCons (mC (.ty "str")) (mNil))))) (sRet (mAnd (mL pisi (mCons (mVar 0) (mCons (mC (.ty "str")) (mNil)))) (m2 peq (mVar 0) (mVar 1)))) (sNil)) (sCons (sIf (mTr (mL pisi (mCons (mVar 1) (mCons (mC (.ty "int")) (mNil))))) (sRet (mAnd (mL pisi (mCons (mVar 0) (mCons (mC (.ty "int")) (mNil)))) (mAnd (m1 pnot (mL pisi (mCons (mVar 0) (mCons (mC (.ty "bool")) (mNil))))) (m2 peq (mVar 0) (mVar 1))))) (sNil)) (sCons (sIf (mTr (mL pisi (mCons (mVar 1) (mCons (mC (.ty "tuple")) (mNil))))) (sCons (sIf (tOrM (tNotM (mTr (mL pisi (mCons (mVar 0) (mCons (mC (.ty "tuple")) (mNil)))))) (mT (m2 pne (mL plen (mCons (mVar 0) (mNil))) (mL plen (mCons (mVar 1) (mNil)))))) (sRet (mC (.bl false))) (sNil)) (sRet (mL pall (mCons (mLc false (([("near", 2), ("far", 3)] : List (Str × Nat)).map (·.2)) id (mZip (mCons (mVar 0) (mCons (mVar 1) (mNil)))) (tgT 2 (tgCons (tgN 2) (tgCons (tgN 3) (tgNil)))) (mYes) (mCall 2 r (mCons (mVar 2) (mCons (mVar 3) (mNil))))) (mNil))))) (sNil)) (sCons (sIf (mTr (mL pisi (mCons (mVar 1) (mCons (mC (.ty "list")) (mNil))))) (sCons (sIf (tOrM (tNotM (mTr (mL pisi (mCons (mVar 0) (mCons (mC (.ty "list")) (mNil)))))) (mT (m2 pne (mL plen (mCons (mVar 0) (mNil))) (mL plen (mCons (mVar 1) (mNil)))))) (sRet (mC (.bl false))) (sNil)) (sRet (mL pall (mCons (mLc false (([("near", 2), ("far", 3)] : List (Str × Nat)).map (·.2)) id (mZip (mCons (mVar 0) (mCons (mVar 1) (mNil)))) (tgT 2 (tgCons (tgN 2) (tgCons (tgN 3) (tgNil)))) (mYes) (mCall 2 r (mCons (mVar 2) (mCons (mVar 3) (mNil))))) (mNil))))) (sNil)) (sRet (m2 peq (mVar 0) (mVar 1))))))))
def rSame : Nat → List D → Sto → R D
  | 0 => fun _ _ => .no
  | n + 1 => mDef (["told", "due", "near", "far"] : List Str).length (sameB (rSame n))
/-- plain data, at most n deep -/
def pd : Nat → D → Bool
  | 0, _ => false
  | n + 1, d => match d with
    | .non => true
    | .bl _ => true
    | .int _ => true
    | .str _ => true
    | .tup ds => decide (ds.length ≤ 16777216) && ds.all (pd n)
    | .lst ds => decide (ds.length ≤ 16777216) && ds.all (pd n)
    | _ => false
theorem zipD_self : ∀ ds : List D, zipD ds ds = ds.map fun d => .tup [d, d]
  | [] => rfl
  | d :: ds => by show .tup [d, d] :: zipD ds ds = _; rw [zipD_self ds]; rfl
theorem asBs_true (n : Nat) : asBs (List.replicate n (.bl true)) = some (List.replicate n true) := by
  induction n with
  | zero => rfl
  | succ n ih => show (asBs (List.replicate n (.bl true))).map (true :: ·) = _; rw [ih]; rfl
theorem map_const {α β : Type} (b : β) : ∀ l : List α, (l.map fun _ => b) = List.replicate l.length b
  | [] => rfl
  | _ :: l => by rw [List.map_cons, map_const b l]; rfl
theorem isi_int (i : Int) (S : Sto) : pisi [.int i, .ty "int"] S = .ok (.bl true) S ∧ pisi [.int i, .ty "bool"] S = .ok (.bl false) S ∧ pisi [.int i, .ty "str"] S = .ok (.bl false) S ∧ pisi [.int i, .ty "tuple"] S = .ok (.bl false) S ∧ pisi [.int i, .ty "list"] S = .ok (.bl false) S := ⟨rfl, rfl, rfl, rfl, rfl⟩
theorem isi_str (i : Str) (S : Sto) : pisi [.str i, .ty "int"] S = .ok (.bl false) S ∧ pisi [.str i, .ty "bool"] S = .ok (.bl false) S ∧ pisi [.str i, .ty "str"] S = .ok (.bl true) S ∧ pisi [.str i, .ty "tuple"] S = .ok (.bl false) S ∧ pisi [.str i, .ty "list"] S = .ok (.bl false) S := ⟨rfl, rfl, rfl, rfl, rfl⟩
theorem isi_bl (i : Bool) (S : Sto) : pisi [.bl i, .ty "int"] S = .ok (.bl true) S ∧ pisi [.bl i, .ty "bool"] S = .ok (.bl true) S ∧ pisi [.bl i, .ty "str"] S = .ok (.bl false) S ∧ pisi [.bl i, .ty "tuple"] S = .ok (.bl false) S ∧ pisi [.bl i, .ty "list"] S = .ok (.bl false) S := ⟨rfl, rfl, rfl, rfl, rfl⟩
theorem isi_tup (i : List D) (S : Sto) : pisi [.tup i, .ty "int"] S = .ok (.bl false) S ∧ pisi [.tup i, .ty "bool"] S = .ok (.bl false) S ∧ pisi [.tup i, .ty "str"] S = .ok (.bl false) S ∧ pisi [.tup i, .ty "tuple"] S = .ok (.bl true) S ∧ pisi [.tup i, .ty "list"] S = .ok (.bl false) S := ⟨rfl, rfl, rfl, rfl, rfl⟩
theorem isi_lst (i : List D) (S : Sto) : pisi [.lst i, .ty "int"] S = .ok (.bl false) S ∧ pisi [.lst i, .ty "bool"] S = .ok (.bl false) S ∧ pisi [.lst i, .ty "str"] S = .ok (.bl false) S ∧ pisi [.lst i, .ty "tuple"] S = .ok (.bl false) S ∧ pisi [.lst i, .ty "list"] S = .ok (.bl true) S := ⟨rfl, rfl, rfl, rfl, rfl⟩
theorem same_ok : ∀ (n : Nat) (d : D) (S : Sto), pd n d = true → rSame n [d, d] S = .ok (.bl true) S
  | 0, _, _, h => by cases h
  | n + 1, d, S, h => by
    have ih := fun d S => same_ok n d S
    have loop : ∀ ds : List D, ds.length ≤ 16777216 → (∀ x ∈ ds, pd n x = true) → ∀ (ev : Ev), ev.length = 4 →
        lcL (tgT 2 (tgCons (tgN 2) (tgCons (tgN 3) tgNil))) mYes (mCall 2 (rSame n) (mCons (mVar 2) (mCons (mVar 3) mNil))) ev ⟨zipD ds ds, []⟩ (zipD ds ds) [] S = .ok (List.replicate ds.length (.bl true)) S := by
      intro ds hl hp ev he
      rw [lc_map (fun _ => .bl true) rfl _ _ (fun x hx => ?_) (by rw [zipD_self, List.length_map]; simpa using hl), zipD_self, List.map_map, List.nil_append]
      · congr 1
        exact map_const (D.bl true) ds
      · rw [zipD_self] at hx
        obtain ⟨d, hd, rfl⟩ := List.mem_map.mp hx
        match ev, he with
        | [e0, e1, e2, e3], _ =>
          refine ⟨[e0, e1, some d, some d], rfl, rfl, ?_⟩
          have q := ih d S (hp d hd)
          have nx : ∀ c ns es, d ≠ .xo c ns es := fun c ns es e => by
            subst e
            have z := hp _ hd
            cases n <;> simp [pd] at z
          have a1 : asVal (some (some d)) S = .ok d S := by
            cases d with
            | xo c ns es => exact absurd rfl (nx c ns es)
            | _ => rfl
          show mCall 2 (rSame n) _ [e0, e1, some d, some d] S = _
          simp only [mCall, mCons, mVar, mNil, List.getElem?_cons_succ, List.getElem?_cons_zero, a1, bind_ok, List.length, if_true, Nat.reduceAdd, q, reduceIte]
    unfold rSame sameB
    cases d with
    | non => simp [mDef, endS, startD, sCons, seqS, sRet, sRetN, sSet, sIf, sNil, sAsg, sExpr, sPar, par2, bindS, noEx, ML.R.bind, m1, m2, mT, mTr, asB, asTr, mC, mVar, asV_non, asV_bl, asV_int, asV_str, asV_tup, asV_lst, asV_rol, asV_ref, mL, mCons, mNil, mIf, mCall, tgN, tgSub, tgT, tgCons, tgNil, setAt, tNotM, tAndM, tOrM, mAnd, mOr, pnot, pix, pcmp, padd, psub, pmul, pfdiv, pmod, pint, plen, ptup, pisN, pnotN, seqOf, pneg, mSl, oNone, oSome, asI, mLc, mSrc, asSrc, drawn, mYes, evWipe, mkL, plst]
    | bl b => simp [mDef, endS, startD, sCons, seqS, sRet, sRetN, sSet, sIf, sNil, sAsg, sExpr, sPar, par2, bindS, noEx, ML.R.bind, m1, m2, mT, mTr, asB, asTr, mC, mVar, asV_non, asV_bl, asV_int, asV_str, asV_tup, asV_lst, asV_rol, asV_ref, mL, mCons, mNil, mIf, mCall, tgN, tgSub, tgT, tgCons, tgNil, setAt, tNotM, tAndM, tOrM, mAnd, mOr, pnot, pix, pcmp, padd, psub, pmul, pfdiv, pmod, pint, plen, ptup, pisN, pnotN, seqOf, pneg, mSl, oNone, oSome, asI, mLc, mSrc, asSrc, drawn, mYes, evWipe, mkL, plst, isi_bl, peq, py, deep, PyData.eqv]
    | int b => simp [mDef, endS, startD, sCons, seqS, sRet, sRetN, sSet, sIf, sNil, sAsg, sExpr, sPar, par2, bindS, noEx, ML.R.bind, m1, m2, mT, mTr, asB, asTr, mC, mVar, asV_non, asV_bl, asV_int, asV_str, asV_tup, asV_lst, asV_rol, asV_ref, mL, mCons, mNil, mIf, mCall, tgN, tgSub, tgT, tgCons, tgNil, setAt, tNotM, tAndM, tOrM, mAnd, mOr, pnot, pix, pcmp, padd, psub, pmul, pfdiv, pmod, pint, plen, ptup, pisN, pnotN, seqOf, pneg, mSl, oNone, oSome, asI, mLc, mSrc, asSrc, drawn, mYes, evWipe, mkL, plst, isi_int, peq]
    | str b => simp [mDef, endS, startD, sCons, seqS, sRet, sRetN, sSet, sIf, sNil, sAsg, sExpr, sPar, par2, bindS, noEx, ML.R.bind, m1, m2, mT, mTr, asB, asTr, mC, mVar, asV_non, asV_bl, asV_int, asV_str, asV_tup, asV_lst, asV_rol, asV_ref, mL, mCons, mNil, mIf, mCall, tgN, tgSub, tgT, tgCons, tgNil, setAt, tNotM, tAndM, tOrM, mAnd, mOr, pnot, pix, pcmp, padd, psub, pmul, pfdiv, pmod, pint, plen, ptup, pisN, pnotN, seqOf, pneg, mSl, oNone, oSome, asI, mLc, mSrc, asSrc, drawn, mYes, evWipe, mkL, plst, isi_str, peq]
    | tup ds =>
      have hp : ds.length ≤ 16777216 ∧ ∀ x ∈ ds, pd n x = true := by simpa [pd] using h
      have hz : mZip (mCons (mVar 0) (mCons (mVar 1) mNil)) [some (D.tup ds), some (D.tup ds), none, none] S = .ok ⟨zipD ds ds, []⟩ S := rfl
      have hl := loop ds hp.1 hp.2 [some (D.tup ds), some (D.tup ds), none, none] rfl
      simp [mDef, endS, startD, sCons, seqS, sRet, sRetN, sSet, sIf, sNil, sAsg, sExpr, sPar, par2, bindS, noEx, ML.R.bind, m1, m2, mT, mTr, asB, asTr, mC, mVar, asV_non, asV_bl, asV_int, asV_str, asV_tup, asV_lst, asV_rol, asV_ref, mL, mCons, mNil, mIf, mCall, tgN, tgSub, tgT, tgCons, tgNil, setAt, tNotM, tAndM, tOrM, mAnd, mOr, pnot, pix, pcmp, padd, psub, pmul, pfdiv, pmod, pint, plen, ptup, pisN, pnotN, seqOf, pneg, mSl, oNone, oSome, asI, mLc, mSrc, asSrc, drawn, mYes, evWipe, mkL, plst, isi_tup, pne, hz, hl, pall, asBs_true]
    | lst ds =>
      have hp : ds.length ≤ 16777216 ∧ ∀ x ∈ ds, pd n x = true := by simpa [pd] using h
      have hz : mZip (mCons (mVar 0) (mCons (mVar 1) mNil)) [some (D.lst ds), some (D.lst ds), none, none] S = .ok ⟨zipD ds ds, []⟩ S := rfl
      have hl := loop ds hp.1 hp.2 [some (D.lst ds), some (D.lst ds), none, none] rfl
      simp [mDef, endS, startD, sCons, seqS, sRet, sRetN, sSet, sIf, sNil, sAsg, sExpr, sPar, par2, bindS, noEx, ML.R.bind, m1, m2, mT, mTr, asB, asTr, mC, mVar, asV_non, asV_bl, asV_int, asV_str, asV_tup, asV_lst, asV_rol, asV_ref, mL, mCons, mNil, mIf, mCall, tgN, tgSub, tgT, tgCons, tgNil, setAt, tNotM, tAndM, tOrM, mAnd, mOr, pnot, pix, pcmp, padd, psub, pmul, pfdiv, pmod, pint, plen, ptup, pisN, pnotN, seqOf, pneg, mSl, oNone, oSome, asI, mLc, mSrc, asSrc, drawn, mYes, evWipe, mkL, plst, isi_lst, pne, hz, hl, pall, asBs_true]
    | _ => simp [pd] at h
end ML


set_option Elab.async false
set_option linter.all false
set_option maxRecDepth 100000
set_option autoImplicit false
set_option maxHeartbeats 4000000
/-! a, b, c = x, y, z; gcd -/
namespace ML
open PySem PySem.Spec PyProof.Rows L2
section
variable {K : PySem.W.Frag} {mg : Str → Option Value} {g : G}
theorem rep3 {x y z : D} {vs : List V} (h : RepL K mg g [x, y, z] vs) : ∃ v u w, vs = [v, u, w] ∧ Rep K mg g x v ∧ Rep K mg g y u ∧ Rep K mg g z w := by
  cases h with
  | cons h t =>
    obtain ⟨u, w, rfl, r, r'⟩ := rep2 t
    exact ⟨_, _, _, rfl, h, r, r'⟩
end
section
variable {X : Cx} {W : WX} {pos : Pos} {a b c : Expr}
theorem sm_par3 (i j l : Nat) {x y z : Str} {px py pz pt : Pos} {kt k2 : _} {pt2 : Pos} {ml : M (List D)} (hc : X.calm = true) (hN : X.N.Nodup) (ha : AM X W [a, b, c] ml)
    (hw : swappedStores [.Tuple [.Name x px, .Name y py, .Name z pz] kt pt] (.Tuple [a, b, c] k2 pt2) X.env = pure (some [x, y, z]) := by rfl) (hi : X.N[i]? = some x := by rfl) (hj : X.N[j]? = some y := by rfl) (hl : X.N[l]? = some z := by rfl)
    (hij : i ≠ j := by decide) (hil : i ≠ l := by decide) (hjl : j ≠ l := by decide)
    (hx : X.env.scope.names.lookup x = some .local := by rfl) (hy : X.env.scope.names.lookup y = some .local := by rfl) (hz : X.env.scope.names.lookup z = some .local := by rfl)
    (hs : swapsWithSole [.Tuple [.Name x px, .Name y py, .Name z pz] kt pt] (.Tuple [a, b, c] k2 pt2) pos.line X.env = pure false := by rfl) :
    SM X W (.Assign [.Tuple [.Name x px, .Name y py, .Name z pz] kt pt] (.Tuple [a, b, c] k2 pt2) pos) (sPar3 i j l ml) := by
  intro g σ H ev S E rl er hP
  refine wS (ps_par3 hc hN hi hj hl hij hil hjl hx hy hz (paW X [a, b, c]) hw hs) (ha g σ H ev S _ rl er (PostS.bind hP er fun g1 d S1 v H1 l1 rl1 rx hP1 => ?_))
  unfold par3 at hP1
  split at hP1
  · obtain ⟨v, u, w, rfl, r, r', r''⟩ := rep3 rx
    exact ⟨v, u, w, rfl, hP1 g1 _ H1 (G.le.refl _) rl1 ((((er.le l1).set r i).set r' j).set r'' l)⟩
  · exact hP1.elim
/-- the greatest common part -/
def pgcd : PL := fun xs S => match xs with
  | [.int i, .int j] => .ok (.int ((Nat.gcd i.natAbs j.natAbs : Nat) : Int)) S
  | _ => .no
theorem c_gcd : CallR X (.builtin "math.gcd") (rM X pgcd) := callR_imp cr_gcd fun vs H Q ⟨g, S, xs, W, σ, rl, rx, hP⟩ => by
  unfold pgcd at hP
  split at hP
  · obtain ⟨v, u, rfl, r, r'⟩ := rep2 rx
    cases r; cases r'
    exact ⟨_, _, rfl, post_ok rl (.int _) hP⟩
  · exact hP.elim
variable {x : Str} {p0 : Pos} {e : Expr} {es : List Expr} {id : String} {p : PL} {ml : M (List D)}
theorem em_callBf (hc : CallR X (.builtin id) (rM X p)) (hm : X.mg x = some (.builtin id)) (ha : AM X W (e :: es) ml) (hg : Gl X x := by rfl) (hdb : (x == ("__debug__" : Str)) = false := by decide)
    (he : starEach (e :: es) X.env = (false, eval e X.env) :: starEach es X.env := by exact star1 rfl) (hpl : (backTo pos (starEach es X.env)).any (·.1) = false := by exact starP rfl) : EM X W (.Call (.Name x p0) (e :: es) [] pos) (mL p ml) := by
  intro g σ H ev S Q rl er hP
  refine wE (pe_callBfun hc hg hm (paW X _) hdb he hpl) (ha g σ H ev S _ rl er (Post.bind hP fun g1 xs S1 vs H1 l1 rl1 rx hP1 => ?_))
  exact ⟨g1, S1, xs, W, σ, rl1, rx, hP1⟩
end
end ML


set_option Elab.async false
set_option linter.all false
set_option maxRecDepth 100000
set_option autoImplicit false
set_option maxHeartbeats 4000000
/-! written dicts with text keys among the module's constants -/
namespace ML
open PySem PySem.Spec PyProof.Rows L2
def tget (tbl : List (Str × D)) (z : Str) : Option D := (tbl.find? fun e => e.1 == z).map (·.2)
/-- the name x holds a written dict with these entries -/
def DTab (K : PySem.W.Frag) (w : World) (mg : Str → Option Value) (x : Str) (tbl : List (Str × D)) : Prop := ∃ d es n, mg x = some (.ref d) ∧ KDict K w d es n ∧ ∀ z : Str, ∃ r, PySem.W.nsIn K d z = some r ∧
  ((r = none ∧ tget tbl z = none) ∨ ∃ u v dd, r = some u ∧ tget tbl z = some dd ∧ RelV v u ∧ ∀ g, Rep K mg g dd v)
section
variable {X : Cx} {W : WX}
def pinK (x : Str) (tbl : List (Str × D)) : P2 := fun a b S => match a, b with
  | .str z, .gl y => if y = x then .ok (.bl (tget tbl z).isSome) S else .no
  | _, _ => .no
theorem o_inK {x : Str} {tbl : List (Str × D)} (T : DTab X.K X.w X.mg x tbl) : OpM X W (compareOp .In) (pinK x tbl) := by
  obtain ⟨d, es, n, hm, kd, ht⟩ := T
  intro g σ H S a b v u Q rl ra rb hP pins s vv uu I rv ru
  unfold pinK at hP
  split at hP
  · rename_i z y
    split at hP
    · rename_i e
      subst e
      cases ra
      cases rb with
      | gl h =>
        rw [hm] at h
        cases h
        obtain ⟨r, e1, e2⟩ := ht z
        refine op_in_kd kd pins s σ H _ _ vv uu _ I rv ru ⟨z, r, rfl, rfl, e1, ?_⟩
        have q : r.isSome = (tget tbl z).isSome := by
          rcases e2 with ⟨e2, e3⟩ | ⟨_, _, _, e2, e3, _⟩ <;> rw [e2, e3] <;> rfl
        rw [q]
        exact post_ok rl (.bl _) hP
    · exact hP.elim
  · exact hP.elim
def pninK (x : Str) (tbl : List (Str × D)) : P2 := fun a b S => match a, b with
  | .str z, .gl y => if y = x then .ok (.bl (!(tget tbl z).isSome)) S else .no
  | _, _ => .no
theorem o_ninK {x : Str} {tbl : List (Str × D)} (T : DTab X.K X.w X.mg x tbl) : OpM X W (compareOp .NotIn) (pninK x tbl) := by
  obtain ⟨d, es, n, hm, kd, ht⟩ := T
  intro g σ H S a b v u Q rl ra rb hP pins s vv uu I rv ru
  unfold pninK at hP
  split at hP
  · rename_i z y
    split at hP
    · rename_i e
      subst e
      cases ra
      cases rb with
      | gl h =>
        rw [hm] at h
        cases h
        obtain ⟨r, e1, e2⟩ := ht z
        refine op_notIn_kd kd pins s σ H _ _ vv uu _ I rv ru ⟨z, r, rfl, rfl, e1, ?_⟩
        have q : r.isSome = (tget tbl z).isSome := by
          rcases e2 with ⟨e2, e3⟩ | ⟨_, _, _, e2, e3, _⟩ <;> rw [e2, e3] <;> rfl
        rw [q]
        exact post_ok rl (.bl _) hP
    · exact hP.elim
  · exact hP.elim
def pixK (x : Str) (tbl : List (Str × D)) : P2 := fun a b S => match a, b with
  | .gl y, .str z => if y = x then (match tget tbl z with
    | some dd => .ok dd S
    | none => .no) else .no
  | _, _ => .no
theorem em_ixK {x : Str} {tbl : List (Str × D)} {a b : Expr} {ma mb : M D} {pos : Pos} (T : DTab X.K X.w X.mg x tbl) (ha : EM X W a ma) (hb : EM X W b mb) (hs : PlainIx b := by exact fun _ _ => rfl) : EM X W (.Subscript a b pos) (m2 (pixK x tbl) ma mb) := by
  obtain ⟨d, es, n, hm, kd, ht⟩ := T
  intro g σ H ev S Q rl er hP
  refine wE (pe_ix ix_kdict (peW X a) (peW X b) hs) ?_
  refine twoM ha hb rl er hP fun g' p q S' v u H' l rl' rp rq hP' => ?_
  unfold pixK at hP'
  split at hP'
  · rename_i y z
    split at hP'
    · rename_i e
      subst e
      cases rq
      cases rp with
      | gl h =>
        rw [hm] at h
        cases h
        obtain ⟨r, e1, e2⟩ := ht z
        rcases e2 with ⟨e2, e3⟩ | ⟨u0, v0, dd, e2, e3, r1, r2⟩
        · rw [e3] at hP'; exact hP'.elim
        · rw [e3] at hP'
          subst e2
          exact ⟨d, z, v0, rfl, rfl, ⟨es, n, u0, kd.at_, kd.lit, e1, r1⟩, post_ok rl' (r2 g') hP'⟩
    · exact hP'.elim
  · exact hP'.elim
def tKGet (K : PySem.W.Frag) (d : Addr) (te : TE) : TE := fun σ H Q => te σ H fun y H1 => ∃ (z : Str) (r : Option Value) (v : V), y = .str z ∧ PySem.W.nsIn K d z = some r ∧ RelV v (r.getD .none) ∧ Q v H1
theorem pe_kget {x : Str} {d : Addr} {es : Array DictEntry} {n : Nat} {e : Expr} {te : TE} {p0 apos cpos : Pos} (hm : X.mg x = some (.ref d)) (kd : KDict X.K X.w d es n) (he : PE X e te) (m : M1 X (.Name x p0) "get" apos e cpos) (hg : Gl X x := by rfl) (hd : (x == ("__debug__" : Str)) = false := by decide) :
    PE X (.Call (.Attribute (.Name x p0) "get" apos) [e] [] cpos) (tKGet X.K d te) := by
  refine ⟨fun pins s σ H Q I h => ?_⟩
  refine wpAny_Call_method m.base m.few m.line PySem.F.plainAttrs_dict PySem.F.slot_dict_get PySem.F.type_dict_get (thn ((pe_glob (v := .ref d) hg hm rfl hd).run pins s σ H (fun y H1 => y = .ref d ∧ H1 = H) I ⟨rfl, rfl⟩) fun u s1 ⟨y, H1, I1, ry, ey, eH⟩ => ?_)
  subst ey
  subst eH
  obtain rfl : u = Value.ref d := ry
  have mp := PySem.W.mapOf_K (prog := X.prog) (w := X.w) I1.kIn kd.at_ kd.lit
  refine ⟨kd_type kd I1, fun b q => ?_, ?_⟩
  · cases q
    exact ⟨_, I1.kIn _ _ kd.at_, rfl⟩
  rw [m.trees]
  refine Calls.callWith_builtin rfl (Calls.evalArgs_plain (Calls.spliced_cons (thn (he.run pins s1 σ H1 _ I1 h) fun iv s2 ⟨y, H2, I2, ry, z, r, v, ey, e1, rv, q2⟩ => Calls.spliced_nil ?_)))
  subst ey
  obtain ⟨t, rfl⟩ := ry
  have mp2 := PySem.W.mapOf_K (prog := X.prog) (w := X.w) I2.kIn kd.at_ kd.lit
  refine call_meetsIn PySem.F.slot_dict_get mp2.typeIs PySem.F.entry_dict_get (PySem.F.args_dict_get_2 _ _) (meets_dict_get (PySem.strKind X.prog X.w) d (PySem.strKind_is X.prog X.w z t) kd.low) ⟨_, mp2, ?_⟩
  rw [PySem.W.find_K kd.at_ e1]
  exact ⟨v, H2, I2.tok _, rv, q2⟩
def pgetK (tbl : List (Str × D)) : P1 := fun a S => match a with
  | .str z => .ok ((tget tbl z).getD .non) S
  | _ => .no
theorem em_getK {x : Str} {tbl : List (Str × D)} {e : Expr} {me : M D} {p0 apos cpos : Pos} (T : DTab X.K X.w X.mg x tbl) (he : EM X W e me) (m : M1 X (.Name x p0) "get" apos e cpos) (hg : Gl X x := by rfl) (hd : (x == ("__debug__" : Str)) = false := by decide) :
    EM X W (.Call (.Attribute (.Name x p0) "get" apos) [e] [] cpos) (m1 (pgetK tbl) me) := by
  obtain ⟨d, es, n, hm, kd, ht⟩ := T
  intro g σ H ev S Q rl er hP
  refine wE (pe_kget hm kd (peW X e) m hg hd) (he g σ H ev S _ rl er (Post.bind hP fun g1 y S1 v H1 l1 rl1 ry hP1 => ?_))
  unfold pgetK at hP1
  split at hP1
  · rename_i z
    cases ry
    obtain ⟨r, e1, e2⟩ := ht z
    rcases e2 with ⟨e2, e3⟩ | ⟨u0, v0, dd, e2, e3, r1, r2⟩
    · rw [e3] at hP1
      subst e2
      exact ⟨z, none, .non, rfl, e1, rfl, post_ok rl1 .non hP1⟩
    · rw [e3] at hP1
      subst e2
      exact ⟨z, some u0, v0, rfl, e1, r1, post_ok rl1 (r2 g1) hP1⟩
  · exact hP1.elim
end
end ML


set_option Elab.async false
set_option linter.all false
set_option maxRecDepth 100000
set_option autoImplicit false
set_option maxHeartbeats 4000000
/-! making DTab from the entries -/
namespace ML
open PySem PySem.Spec PyProof.Rows L2
/-- an entry holds this pair -/
def DEnt (K : PySem.W.Frag) (mg : Str → Option Value) (e : DictEntry) (p : Str × D) : Prop := (∃ t, e.key = .str p.1 t) ∧ ∃ v, RelV v e.val ∧ ∀ g, Rep K mg g p.2 v
inductive DEnts (K : PySem.W.Frag) (mg : Str → Option Value) : List DictEntry → List (Str × D) → Prop where
  | nil : DEnts K mg [] []
  | cons {e : DictEntry} {p : Str × D} {es : List DictEntry} {ps : List (Str × D)} (h : DEnt K mg e p) (t : DEnts K mg es ps) : DEnts K mg (e :: es) (p :: ps)
theorem DEnts.find {K : PySem.W.Frag} {mg : Str → Option Value} (z : Str) {es : List DictEntry} {ps : List (Str × D)} (h : DEnts K mg es ps) : es.any (·.refKey) = false ∧
    ((es.find? (·.key.isStr z) = none ∧ tget ps z = none) ∨ ∃ e v dd, es.find? (·.key.isStr z) = some e ∧ tget ps z = some dd ∧ RelV v e.val ∧ ∀ g, Rep K mg g dd v) := by
  induction h with
  | nil => exact ⟨rfl, .inl ⟨rfl, rfl⟩⟩
  | @cons e p es ps h t ih =>
    obtain ⟨⟨t0, hk⟩, v, hv, hr⟩ := h
    refine ⟨?_, ?_⟩
    · rw [List.any_cons, ih.1]
      unfold DictEntry.refKey
      rw [hk]
      rfl
    · unfold tget
      rw [List.find?_cons, List.find?_cons, hk]
      have q : (Value.str p.1 t0).isStr z = (p.1 == z) := by
        first | rfl | (simp [Value.isStr, eq_comm])
      rw [q]
      by_cases hz : (p.1 == z) = true
      · rw [hz]
        exact .inr ⟨e, v, p.2, rfl, rfl, hv, hr⟩
      · have hz' : (p.1 == z) = false := by simpa using hz
        rw [hz']
        exact ih.2
theorem mk_dtab {K : PySem.W.Frag} {mg : Str → Option Value} {h : Heap} (X : K.In h) (G : h.Ns mainGlobals mg) {w : World} {x : Str} {d : Addr} {es : Array DictEntry} {n : Nat} {tbl : List (Str × D)} (a : PySem.W.nsIn K mainGlobals x = some (some (.ref d)))
    (l : K.lookup d = some ⟨.type "dict", none, .dict es n, #[]⟩) (k : PySem.W.KeysLit w.params es.toList) (lo : (d == sysModules) = false) (e : DEnts K mg es.toList tbl) : DTab K w mg x tbl := by
  refine ⟨d, es, n, PySem.W.mg_of X G a, ⟨l, k, lo⟩, fun z => ?_⟩
  obtain ⟨h1, h2⟩ := e.find z
  unfold PySem.W.nsIn
  rw [l]
  dsimp only
  rcases h2 with ⟨q1, q2⟩ | ⟨e0, v, dd, q1, q2, q3, q4⟩
  · refine ⟨none, ?_, .inl ⟨rfl, q2⟩⟩
    rw [q1]
    dsimp only
    rw [h1]
    rfl
  · refine ⟨some e0.val, ?_, .inr ⟨e0.val, v, dd, rfl, q2, q3, q4⟩⟩
    rw [q1]
end ML


set_option Elab.async false
set_option linter.all false
set_option maxRecDepth 100000
set_option autoImplicit false
set_option maxHeartbeats 4000000
/-! sorted(xs), min(xs), max(xs), a < b of alike data -/
namespace ML
open PySem PySem.Spec PyProof.Rows L2

/-! ### a stable sort that is easily reckoned -/
section
variable {α : Type}
def insS (le : α → α → Bool) (x : α) : List α → List α
  | [] => [x]
  | y :: r => if le x y = true then x :: y :: r else y :: insS le x r
def isort (le : α → α → Bool) : List α → List α
  | [] => []
  | x :: r => insS le x (isort le r)
variable {le : α → α → Bool}
theorem insS_mem {x z : α} : ∀ {l : List α}, z ∈ insS le x l ↔ z = x ∨ z ∈ l
  | [] => by simp [insS]
  | y :: r => by
    unfold insS
    split
    · simp
    · simp only [List.mem_cons, insS_mem (l := r)]
      constructor
      · rintro (h | h | h) <;> simp [h]
      · rintro (h | h | h) <;> simp [h]
theorem isort_mem {z : α} : ∀ {l : List α}, z ∈ isort le l ↔ z ∈ l
  | [] => by simp [isort]
  | x :: r => by unfold isort; rw [insS_mem, isort_mem (l := r), List.mem_cons]
theorem insS_pw (h : PySem.W.TotalLe le) (x : α) : ∀ {l : List α}, l.Pairwise (fun a b => le a b = true) → (insS le x l).Pairwise (fun a b => le a b = true)
  | [], _ => by simp [insS]
  | y :: r, hl => by
    have h1 := List.pairwise_cons.mp hl
    unfold insS
    split
    · rename_i q
      refine List.pairwise_cons.mpr ⟨fun z hz => ?_, hl⟩
      rcases List.mem_cons.mp hz with rfl | hz
      · exact q
      · exact h.trans _ _ _ q (h1.1 z hz)
    · rename_i q
      refine List.pairwise_cons.mpr ⟨fun z hz => ?_, insS_pw h x h1.2⟩
      rcases insS_mem.mp hz with rfl | hz
      · exact (h.total z y).resolve_left q
      · exact h1.1 z hz
theorem isort_pw (h : PySem.W.TotalLe le) : ∀ l : List α, (isort le l).Pairwise (fun a b => le a b = true)
  | [] => List.Pairwise.nil
  | x :: r => insS_pw h x (isort_pw h r)
theorem insS_filter (h : PySem.W.TotalLe le) (c x : α) : ∀ l : List α, (insS le x l).filter (PySem.W.sameRank le c) = (x :: l).filter (PySem.W.sameRank le c)
  | [] => rfl
  | y :: r => by
    unfold insS
    split
    · rfl
    · rename_i q
      rw [List.filter_cons, insS_filter h c x r]
      simp only [List.filter_cons]
      by_cases hx : PySem.W.sameRank le c x = true
      · by_cases hy : PySem.W.sameRank le c y = true
        · unfold PySem.W.sameRank at hx hy
          rw [Bool.and_eq_true] at hx hy
          exact absurd (h.trans _ _ _ hx.2 hy.1) q
        · simp [hx, hy]
      · simp [hx]
theorem isort_filter (h : PySem.W.TotalLe le) (c : α) : ∀ l : List α, (isort le l).filter (PySem.W.sameRank le c) = l.filter (PySem.W.sameRank le c)
  | [] => rfl
  | x :: r => by
    unfold isort
    rw [insS_filter h c x, List.filter_cons, List.filter_cons, isort_filter h c r]
theorem isort_eq (h : PySem.W.TotalLe le) (l : List α) : l.mergeSort le = isort le l := (PySem.W.sort_unique h (isort_pw h l) fun c => isort_filter h c l).symm
theorem insS_map {β : Type} {s : β → β → Bool} (f : α → β) (x : α) : ∀ {l : List α}, (∀ b ∈ l, le x b = s (f x) (f b)) → (insS le x l).map f = insS s (f x) (l.map f)
  | [], _ => rfl
  | y :: r, h => by
    unfold insS
    rw [h y List.mem_cons_self]
    split
    · rename_i q
      simp [insS, q]
    · rename_i q
      rw [List.map_cons, insS_map f x fun b hb => h b (List.mem_cons_of_mem _ hb)]
      simp [insS, q]
theorem isort_map {β : Type} {s : β → β → Bool} (f : α → β) : ∀ {l : List α}, (∀ a ∈ l, ∀ b ∈ l, le a b = s (f a) (f b)) → (isort le l).map f = isort s (l.map f)
  | [], _ => rfl
  | x :: r, h => by
    unfold isort
    rw [insS_map f x fun b hb => h x List.mem_cons_self b (List.mem_cons_of_mem _ (isort_mem.mp hb)), isort_map f fun a ha b hb => h a (List.mem_cons_of_mem _ ha) b (List.mem_cons_of_mem _ hb)]
    rfl
end

/-! ### data of the items -/
def alikeB (es : List PyData) : Bool := es.all fun a => es.all fun b => PySem.W.alike a b
def isTup1 : PyData → Bool
  | .tuple (_ :: _) => true
  | _ => false
def isFlat : PyData → Bool
  | .none => false
  | .tuple _ => false
  | _ => true
def sortB (es : List PyData) : Bool := es.all isTup1 || es.all isFlat
def leD (a b : D × PyData) : Bool := !PySem.W.dataLt b.2 a.2
def sortD (S : Sto) (ds : List D) : Option (List D) :=
  if ds.length ≤ 1 then some ds else match pyL (py deep S) ds with
    | some es => if (alikeB es && sortB es) = true then some ((isort leD (ds.zip es)).map (·.1)) else none
    | none => none
def psorted (nw : Bool) : PL := fun xs S => match xs with
  | [x] => match seqOf S x with
    | some ds => match sortD S ds with
      | some zs => if zs.length ≤ 16777216 then mkL nw zs S else .no
      | none => .no
    | none => .no
  | _ => .no
theorem alikeB_all {es : List PyData} (h : alikeB es = true) : PySem.W.AllAlike es := fun a ha b hb => by
  unfold alikeB at h
  exact List.all_eq_true.mp (List.all_eq_true.mp h a ha) b hb
theorem sortB_is {es : List PyData} (h : sortB es = true) : PySem.W.Sortable es := by
  unfold sortB at h
  rw [Bool.or_eq_true] at h
  rcases h with h | h
  · refine .inl fun d hd => ?_
    have q := List.all_eq_true.mp h d hd
    unfold isTup1 at q
    split at q
    · exact ⟨_, _, rfl⟩
    · cases q
  · refine .inr fun d hd => ?_
    have q := List.all_eq_true.mp h d hd
    refine ⟨fun e => ?_, fun xs e => ?_⟩ <;> subst e <;> cases q
theorem pyL_len {f : D → Option PyData} : ∀ {ds : List D} {es : List PyData}, pyL f ds = some es → es.length = ds.length
  | [], es, h => by simp only [pyL, Option.some.injEq] at h; subst h; rfl
  | d :: ds, es, h => by
    simp only [pyL] at h
    split at h
    · rename_i x xs h1 h2
      simp only [Option.some.injEq] at h
      subst h
      rw [List.length_cons, List.length_cons, pyL_len h2]
    · cases h
theorem pyL_mem {f : D → Option PyData} : ∀ {ds : List D} {es : List PyData}, pyL f ds = some es → ∀ e ∈ es, ∃ d ∈ ds, f d = some e
  | [], es, h, e, he => by simp only [pyL, Option.some.injEq] at h; subst h; cases he
  | d :: ds, es, h, e, he => by
    simp only [pyL] at h
    split at h
    · rename_i x xs h1 h2
      simp only [Option.some.injEq] at h
      subst h
      rcases List.mem_cons.mp he with rfl | he
      · exact ⟨d, List.mem_cons_self, h1⟩
      · obtain ⟨d', hd, e'⟩ := pyL_mem h2 e he
        exact ⟨d', List.mem_cons_of_mem _ hd, e'⟩
    · cases h
section
variable {X : Cx} {W : WX}
/-- what the sorted items are -/
def Item3 (X : Cx) (g : G) (h : Heap) (v : Value) (b : V × D × PyData) : Prop := RelV b.1 v ∧ Rep X.K X.mg g b.2.1 b.1 ∧ ∃ as, Reads h v b.2.2 as
theorem items3 {pins : List (Addr × Obj)} {σ : Sl} {H : Hp} {s : Shared} {g : G} {S : Sto} (I : Inv X pins σ H s) (rl : Rel X.K X.mg g H S) : ∀ {ds : List D} {vs : List V} {us : List Value} {es : List PyData}, RepL X.K X.mg g ds vs → Vals vs us → pyL (py deep S) ds = some es →
    ∃ bs : List (V × D × PyData), PySem.W.EachIs (Item3 X g s.heap) us bs ∧ bs.map (·.2.1) = ds ∧ bs.map (·.2.2) = es ∧ bs.map (·.1) = vs
  | [], _, _, _, rr, rv, h => by
    cases rr
    cases rv
    simp only [pyL, Option.some.injEq] at h
    subst h
    exact ⟨[], .nil, rfl, rfl, rfl⟩
  | d :: ds, _, _, es, rr, rv, h => by
    cases rr with
    | cons r1 r2 =>
      cases rv with
      | cons v1 v2 =>
        simp only [pyL] at h
        split at h
        · rename_i x xs h1 h2
          simp only [Option.some.injEq] at h
          subst h
          obtain ⟨bs, q1, q2, q3, q4⟩ := items3 I rl r2 v2 h2
          obtain ⟨as, rd⟩ := Dp.reads I x _ _ (py_dp rl deep _ _ _ r1 h1) v1
          exact ⟨(_, d, x) :: bs, .cons ⟨v1, r1, as, rd⟩ q1, by rw [List.map_cons, q2], by rw [List.map_cons, q3], by rw [List.map_cons, q4]⟩
        · cases h
theorem each_out {g : G} {h : Heap} : ∀ {us : List Value} {bs : List (V × D × PyData)}, PySem.W.EachIs (Item3 X g h) us bs → Vals (bs.map (·.1)) us ∧ RepL X.K X.mg g (bs.map (·.2.1)) (bs.map (·.1))
  | _, _, .nil => ⟨.nil, .nil⟩
  | _, _, .cons ⟨h1, h2, _⟩ t => ⟨.cons h1 (each_out t).1, .cons h2 (each_out t).2⟩
theorem le3_total : PySem.W.TotalLe (fun a b : V × D × PyData => leD a.2 b.2) := PySem.W.sortLe_total (PyProof.Rows.listOrd itemOrd) false (fun b : V × D × PyData => PySem.W.keyToks b.2.2)
theorem zip3 : ∀ bs : List (V × D × PyData), (bs.map (·.2.1)).zip (bs.map (·.2.2)) = bs.map (·.2)
  | [] => rfl
  | b :: bs => by rw [List.map_cons, List.map_cons, List.map_cons, List.zip_cons_cons, zip3 bs]
theorem swo_no : SrtO.Swo (fun _ _ : Value => false) := ⟨fun _ _ h => absurd h Bool.false_ne_true, fun _ _ _ _ _ => rfl⟩
theorem each_reads {g : G} {h h' : Heap} (keep : ∀ b o, h.get? b = some o → h'.get? b = some o) : ∀ {us : List Value} {bs : List (V × D × PyData)}, PySem.W.EachIs (Item3 X g h) us bs → PySem.W.EachIs (fun v d => ∃ as, Reads h' v d as) us (bs.map (·.2.2))
  | _, _, .nil => .nil
  | _, _, .cons ⟨_, _, as, q⟩ t => .cons ⟨as, Reads.keeps keep q⟩ (each_reads keep t)
theorem each_keys {g : G} {h h' : Heap} {es : List PyData} (keep : ∀ b o, h.get? b = some o → h'.get? b = some o) (al : PySem.W.AllAlike es) : ∀ {us : List Value} {bs : List (V × D × PyData)}, PySem.W.EachIs (Item3 X g h) us bs → (∀ b ∈ bs, b.2.2 ∈ es) →
    PySem.W.EachIs (fun v (b : V × D × PyData) => (PySem.W.dataKind h' es).keyOf v = some (PySem.W.keyToks b.2.2)) us bs
  | _, _, .nil, _ => .nil
  | _, _, .cons ⟨_, _, as, q⟩ t, hm => .cons (PySem.W.dataKind_some al (hm _ List.mem_cons_self) (Reads.keeps keep q)) (each_keys keep al t fun b hb => hm b (List.mem_cons_of_mem _ hb))
theorem one_perm {α : Type} {l m : List α} (h : l.Perm m) (hz : m.length ≤ 1) : l = m := by
  match m, hz with
  | [], _ => exact List.perm_nil.mp h
  | [x], _ => exact List.perm_singleton.mp h
theorem c_sorted (nw : Bool) (hu : X.A.units + 64 < cLine) : CallR X (.builtin "sorted") (rM X (psorted nw)) := by
  intro pins s σ H xs us Q I r h
  obtain ⟨g, S, ds0, W, σ', rl, rx, hP⟩ := h
  unfold psorted at hP
  split at hP
  · rename_i x
    split at hP
    · rename_i ds hds
      split at hP
      · rename_i zs hzs
        split at hP
        · rename_i hz
          obtain ⟨v, rfl, rv⟩ := rep1 rx
          obtain ⟨a, vs, rfl, hs, rr⟩ := seqOf_rep rl rv hds
          obtain ⟨its, ri, hl, hzz⟩ := I.list hs
          rw [Vals.ref1 r]
          -- the end
          have fin : ∀ (us' : List Value) (vs' : List V), Vals vs' us' → RepL X.K X.mg g zs vs' → EP X pins σ Q (.ref (s.heap.objs.size + 1)) { s with heap := PyProof.Rows.sortedAll s.heap its us'.toArray } := fun us' vs' h1 h2 => by
            obtain ⟨ep, he'⟩ := PyProof.Rows.sortedAll_at s.heap its us'.toArray
            have hlen : vs'.length ≤ sizeLine := by rw [← h2.length, sizeL]; exact hz
            exact ⟨.ref _, upd H (s.heap.objs.size + 1) (.lst vs'), I.laid (t' := s.toks) (fun _ _ => PyProof.Rows.sortedAll_old) (Nat.le_succ _) ⟨hlen, us', ep, h1, he'⟩, rfl, post_mkL rl h2 hP _ (I.hok.fresh (Nat.le_succ _))⟩
          unfold sortD at hzs
          split at hzs
          · rename_i h1
            simp only [Option.some.injEq] at hzs
            subst hzs
            have hil : its.length = ds.length := by rw [← ri.length, ← rr.length]
            refine SrtO.sorted_ord swo_no hl.isList (by rw [← ri.length]; exact hzz) (fun h2 => absurd h2 (by omega)) fun out k1 k2 => ?_
            have e : out = its := one_perm k2.perm (by omega)
            subst e
            exact fin _ _ ri rr
          · split at hzs
            · rename_i es hes
              split at hzs
              · rename_i hc
                simp only [Option.some.injEq] at hzs
                rw [Bool.and_eq_true] at hc
                obtain ⟨bs, q1, q2, q3, q4⟩ := items3 I rl rr ri hes
                have al := alikeB_all hc.1
                have keep : ∀ b o, s.heap.get? b = some o → (PySem.W.sortingHeap (PySem.W.copyHeap s.heap its) (s.heap.objs.size + 1) its).get? b = some o := fun b o => PySem.W.sorting_copy_old
                have rd := each_reads keep q1
                rw [q3] at rd
                have dep : ∀ d ∈ es, d.depth ≤ deep := fun d hd => by
                  obtain ⟨y, _, e⟩ := pyL_mem hes d hd
                  exact (py_shape deep y d e).2
                have un : X.A.in1.in1.units = X.A.units + 2 := rfl
                refine PySem.W.sorted_vals (κ := PySem.W.dataKind (PySem.W.sortingHeap (PySem.W.copyHeap s.heap its) (s.heap.objs.size + 1) its) es) hl.isList (PySem.W.SortsAt.data rd al (sortB_is hc.2) fun d hd => ?_) (by rw [← ri.length]; exact hzz) ?_
                · have := dep d hd
                  have e : deep = 12 := rfl
                  rw [un]
                  omega
                · have hk := each_keys keep al q1 fun b hb => by rw [← q3]; exact List.mem_map.mpr ⟨b, hb, rfl⟩
                  have ev := PySem.W.sortVals_each (κ := PySem.W.dataKind (PySem.W.sortingHeap (PySem.W.copyHeap s.heap its) (s.heap.objs.size + 1) its) es) (rev := false) (fun b : V × D × PyData => PySem.W.keyToks b.2.2) q1 hk
                  obtain ⟨o1, o2⟩ := each_out ev
                  have o2 : RepL X.K X.mg g ((bs.mergeSort fun a b => leD a.2 b.2).map (·.2.1)) _ := o2
                  have ez : (bs.mergeSort fun a b => leD a.2 b.2).map (·.2.1) = zs := by
                    rw [isort_eq le3_total, ← hzs]
                    have e1 : ds.zip es = bs.map (·.2) := by rw [← q2, ← q3]; exact zip3 bs
                    rw [e1, ← isort_map (le := fun a b : V × D × PyData => leD a.2 b.2) (fun b : V × D × PyData => b.2) fun a _ b _ => rfl, List.map_map]
                    rfl
                  rw [ez] at o2
                  exact fin _ _ o1 o2
              · cases hzs
            · cases hzs
        · exact hP.elim
      · exact hP.elim
    · exact hP.elim
  · exact hP.elim

/-! ### a < b -/
def plt : P2 := fun x y S => match x, y with
  | .int i, .int j => .ok (.bl (decide (i < j))) S
  | x, y => match py deep S x, py deep S y with
    | some a, some b => if (PySem.W.alike a b && isSome' a) = true then .ok (.bl (PySem.W.dataLt a b)) S else .no
    | _, _ => .no
where isSome' : PyData → Bool
  | .none => false
  | _ => true
theorem o_ltD (hu : X.A.units + 64 < cLine) : OpM X W (compareOp .Lt) plt := by
  intro g σ H S x y v u Q rl rx ry hP pins s vv uu I rv ru
  unfold plt at hP
  split at hP
  · cases rx; cases ry
    exact op_lt pins s σ H _ _ vv uu Q I rv ru ⟨_, _, rfl, rfl, post_ok rl (.bl _) hP⟩
  · split at hP
    · rename_i a b h1 h2
      split at hP
      · rename_i hc
        rw [Bool.and_eq_true] at hc
        obtain ⟨as, r1⟩ := Dp.reads I a v vv (py_dp rl deep _ _ _ rx h1) rv
        obtain ⟨bs, r2⟩ := Dp.reads I b u uu (py_dp rl deep _ _ _ ry h2) ru
        have d1 := (py_shape deep _ _ h1).2
        have e : deep = 12 := rfl
        have := Nat.min_le_left a.depth b.depth
        exact PySem.W.lt_data r1 r2 hc.1 (fun e => by subst e; exact absurd hc.2 Bool.false_ne_true) (by omega) ⟨.bl _, H, I, rfl, post_ok rl (.bl _) hP⟩
      · exact hP.elim
    · exact hP.elim
end
end ML


set_option Elab.async false
set_option linter.all false
set_option maxRecDepth 100000
set_option autoImplicit false
set_option maxHeartbeats 4000000
/-! min, max of one list; len(set(ints)); divmod; ranges as values; xs[::-1] -/
namespace ML
open PySem PySem.Spec PyProof.Rows L2

/-! ### min(xs), max(xs) -/
/-- plain data that the data alone tell -/
def pd' : Nat → D → Bool
  | 0, _ => false
  | n + 1, d => match d with
    | .non => true
    | .bl _ => true
    | .int _ => true
    | .str _ => true
    | .tup ds => ds.all (pd' n)
    | .lst ds => ds.all (pd' n)
    | _ => false
theorem pyL_inj {n : Nat} {S : Sto} (ih : ∀ d e x, pd' n d = true → pd' n e = true → py n S d = some x → py n S e = some x → d = e) : ∀ (ds es : List D) (xs : List PyData), ds.all (pd' n) = true → es.all (pd' n) = true → pyL (py n S) ds = some xs → pyL (py n S) es = some xs → ds = es
  | [], [], _, _, _, _, _ => rfl
  | [], e :: es, xs, _, _, h1, h2 => by
    simp only [pyL, Option.some.injEq] at h1
    subst h1
    simp only [pyL] at h2
    split at h2 <;> simp at h2
  | d :: ds, [], xs, _, _, h1, h2 => by
    simp only [pyL, Option.some.injEq] at h2
    subst h2
    simp only [pyL] at h1
    split at h1 <;> simp at h1
  | d :: ds, e :: es, xs, p1, p2, h1, h2 => by
    simp only [List.all_cons, Bool.and_eq_true] at p1 p2
    simp only [pyL] at h1 h2
    split at h1
    · rename_i x ys e1 e2
      split at h2
      · rename_i x' ys' e3 e4
        simp only [Option.some.injEq] at h1 h2
        subst h1
        simp only [List.cons.injEq] at h2
        obtain ⟨rfl, rfl⟩ := h2
        rw [ih d e _ p1.1 p2.1 e1 e3, pyL_inj ih ds es _ p1.2 p2.2 e2 e4]
      · cases h2
    · cases h1
theorem py_inj {S : Sto} : ∀ (n : Nat) (d e : D) (x : PyData), pd' n d = true → pd' n e = true → py n S d = some x → py n S e = some x → d = e
  | 0, _, _, _, h, _, _, _ => by cases h
  | n + 1, d, e, x, p1, p2, h1, h2 => by
    have ih := pyL_inj (S := S) fun d e x => py_inj n d e x
    cases d with
    | non => simp only [py, Option.some.injEq] at h1; subst h1; cases e <;> simp_all [py, pd'] <;> (repeat (first | split at h2 | cases h2 | simp_all))
    | bl b => simp only [py, Option.some.injEq] at h1; subst h1; cases e <;> simp_all [py, pd'] <;> (repeat (first | split at h2 | cases h2 | simp_all))
    | int b => simp only [py, Option.some.injEq] at h1; subst h1; cases e <;> simp_all [py, pd'] <;> (repeat (first | split at h2 | cases h2 | simp_all))
    | str b =>
      simp only [py] at h1
      split at h1
      · simp only [Option.some.injEq] at h1; subst h1; cases e <;> simp_all [py, pd'] <;> (repeat (first | split at h2 | cases h2 | simp_all))
      · cases h1
    | tup ds =>
      simp only [py] at h1
      split at h1
      · rename_i xs hx
        simp only [Option.some.injEq] at h1; subst h1
        cases e with
        | tup es =>
          simp only [py] at h2
          split at h2
          · rename_i ys hy
            simp only [Option.some.injEq, PyData.tuple.injEq] at h2
            subst h2
            rw [ih ds es _ (by simpa [pd'] using p1) (by simpa [pd'] using p2) hx hy]
          · cases h2
        | lst es => simp only [py] at h2; split at h2 <;> simp at h2
        | str z => simp only [py] at h2; split at h2 <;> simp at h2
        | _ => simp [py, pd'] at h2 p2
      · cases h1
    | lst ds =>
      simp only [py] at h1
      split at h1
      · rename_i xs hx
        simp only [Option.some.injEq] at h1; subst h1
        cases e with
        | lst es =>
          simp only [py] at h2
          split at h2
          · rename_i ys hy
            simp only [Option.some.injEq, PyData.list.injEq] at h2
            subst h2
            rw [ih ds es _ (by simpa [pd'] using p1) (by simpa [pd'] using p2) hx hy]
          · cases h2
        | tup es => simp only [py] at h2; split at h2 <;> simp at h2
        | str z => simp only [py] at h2; split at h2 <;> simp at h2
        | _ => simp [py, pd'] at h2 p2
      · cases h1
    | _ => simp [pd'] at p1
def noneB : PyData → Bool
  | .none => true
  | _ => false
/-- the best of them -/
def bestD (lt : PyData → PyData → Bool) (a : D × PyData) (l : List (D × PyData)) : D × PyData := l.foldl (fun a y => if lt y.2 a.2 = true then y else a) a
/-- the items of a list, a tuple -/
def seqT (S : Sto) : D → Option (List D)
  | .tup ds => some ds
  | x => seqOf S x
def pbest (lt : PyData → PyData → Bool) : PL := fun xs S => match xs with
  | [x] => match seqT S x with
    | some ds => match pyL (py deep S) ds with
      | some es => if (alikeB es && !es.any noneB && ds.all (pd' deep)) = true then (match ds.zip es with
        | a :: r => .ok (bestD lt a r).1 S
        | [] => .no) else .no
      | none => .no
    | none => .no
  | _ => .no
def pmin1 : PL := pbest PySem.W.dataLt
def pmax1 : PL := pbest fun a b => PySem.W.dataLt b a
theorem best_snd (lt : PyData → PyData → Bool) : ∀ (l : List (D × PyData)) (a : D × PyData), (bestD lt a l).2 = (l.map (·.2)).foldl (fun a y => if lt y a then y else a) a.2
  | [], _ => rfl
  | b :: l, a => by
    show (bestD lt (if lt b.2 a.2 = true then b else a) l).2 = _
    rw [best_snd lt l, List.map_cons, List.foldl_cons]
    congr 1
    split <;> rfl
theorem best_mem (lt : PyData → PyData → Bool) : ∀ (l : List (D × PyData)) (a : D × PyData), bestD lt a l ∈ a :: l
  | [], _ => List.mem_cons_self
  | b :: l, a => by
    show bestD lt (if lt b.2 a.2 = true then b else a) l ∈ _
    have q := best_mem lt l (if lt b.2 a.2 = true then b else a)
    rcases List.mem_cons.mp q with q | q
    · rw [q]
      split
      · simp
      · simp
    · exact List.mem_cons_of_mem _ (List.mem_cons_of_mem _ q)
section
variable {X : Cx} {W : WX}
theorem items_at {pins : List (Addr × Obj)} {σ : Sl} {H : Hp} {s : Shared} {g : G} {S : Sto} (I : Inv X pins σ H s) (rl : Rel X.K X.mg g H S) : ∀ {ds : List D} {vs : List V} {us : List Value} {es : List PyData}, RepL X.K X.mg g ds vs → Vals vs us → pyL (py deep S) ds = some es →
    (∃ as, ReadsAll s.heap us es as) ∧ ∀ (i : Nat) (u : Value), us[i]? = some u → ∃ d v e as, ds[i]? = some d ∧ vs[i]? = some v ∧ RelV v u ∧ Rep X.K X.mg g d v ∧ py deep S d = some e ∧ es[i]? = some e ∧ Reads s.heap u e as
  | [], _, _, _, rr, rv, h => by
    cases rr
    cases rv
    simp only [pyL, Option.some.injEq] at h
    subst h
    exact ⟨⟨[], .nil⟩, fun i u e => by simp at e⟩
  | d :: ds, _, _, es, rr, rv, h => by
    cases rr with
    | cons r1 r2 =>
      cases rv with
      | cons v1 v2 =>
        simp only [pyL] at h
        split at h
        · rename_i x xs h1 h2
          simp only [Option.some.injEq] at h
          subst h
          obtain ⟨⟨as2, q1⟩, q2⟩ := items_at I rl r2 v2 h2
          obtain ⟨as, rd⟩ := Dp.reads I x _ _ (py_dp rl deep _ _ _ r1 h1) v1
          refine ⟨⟨_, .cons rd q1⟩, fun i u e => ?_⟩
          cases i with
          | zero =>
            simp only [List.getElem?_cons_zero, Option.some.injEq] at e
            subst e
            exact ⟨d, _, x, as, rfl, rfl, v1, r1, h1, rfl, rd⟩
          | succ i =>
            simp only [List.getElem?_cons_succ] at e ⊢
            exact q2 i u e
        · cases h
theorem depthAll_le : ∀ {es : List PyData} {n : Nat}, (∀ e ∈ es, e.depth ≤ n) → PyData.depthAll es ≤ n
  | [], n, _ => by simp [PyData.depthAll]
  | e :: es, n, h => by
    have h1 := h e List.mem_cons_self
    have h2 := depthAll_le fun x hx => h x (List.mem_cons_of_mem _ hx)
    simp only [PyData.depthAll]
    omega
theorem best_core {pins : List (Addr × Obj)} {σ : Sl} {H : Hp} {s : Shared} {g : G} {S : Sto} {Q : VK} {W : WX} {σ' : Sl} (lt : PyData → PyData → Bool) (I : Inv X pins σ H s) (rl : Rel X.K X.mg g H S) {ds : List D} {vs : List V} {us : List Value} {es : List PyData} (rr : RepL X.K X.mg g ds vs) (rv : Vals vs us) (hes : pyL (py deep S) ds = some es)
    (hc : (alikeB es && !es.any noneB && ds.all (pd' deep)) = true) (hP : Post X.K X.mg (Rep X.K X.mg) W σ' g (match ds.zip es with | a :: r => .ok (bestD lt a r).1 S | [] => .no) Q) :
    ∃ x xs as, es = x :: xs ∧ ReadsAll s.heap us (x :: xs) as ∧ PySem.W.AlikeAll (x :: xs) ∧ PyData.depthAll (x :: xs) ≤ deep ∧
      ∀ (i : Nat) (v : Value) (h' : Heap) (tk : Nat) (bs : List Addr), us[i]? = some v → Reads h' v (xs.foldl (fun a y => if lt y a then y else a) x) bs → (∀ b o, s.heap.get? b = some o → h'.get? b = some o) → EP X pins σ Q v { s with heap := h', toks := tk } := by
  simp only [Bool.and_eq_true] at hc
  obtain ⟨⟨c1, c2⟩, c3⟩ := hc
  have al := alikeB_all c1
  obtain ⟨⟨as, hra⟩, hat⟩ := items_at I rl rr rv hes
  have hl := pyL_len hes
  cases es with
  | nil =>
    cases ds with
    | nil => exact hP.elim
    | cons d ds => simp at hl
  | cons x xs =>
    cases ds with
    | nil => simp at hl
    | cons d ds =>
      rw [List.zip_cons_cons] at hP
      have hP : Post X.K X.mg (Rep X.K X.mg) W σ' g (.ok (bestD lt (d, x) (ds.zip xs)).1 S) Q := hP
      refine ⟨x, xs, as, rfl, hra, ⟨al, fun e he => ?_⟩, depthAll_le fun e he => ?_, fun i v h' tk bs hv hr hk => ?_⟩
      · intro q
        subst q
        have : (x :: xs).any noneB = true := List.any_eq_true.mpr ⟨_, he, rfl⟩
        rw [this] at c2
        cases c2
      · obtain ⟨d', _, e'⟩ := pyL_mem hes e he
        exact (py_shape deep _ _ e').2
      · obtain ⟨di, vi, ei, asi, q1, q2, q3, q4, q5, q6, q7⟩ := hat i v hv
        have hlz : xs.length = ds.length := by simpa using hl
        have e2 : (bestD lt (d, x) (ds.zip xs)).2 = xs.foldl (fun a y => if lt y a then y else a) x := by
          rw [best_snd, List.map_snd_zip (by omega)]
        have bm := best_mem lt (ds.zip xs) (d, x)
        rw [← List.zip_cons_cons] at bm
        generalize bestD lt (d, x) (ds.zip xs) = b at *
        have bm2 := List.of_mem_zip bm
        have pb : py deep S b.1 = some b.2 := by
          have hz : ∀ (ds : List D) (es : List PyData), pyL (py deep S) ds = some es → ∀ b ∈ ds.zip es, py deep S b.1 = some b.2 := by
            intro ds
            induction ds with
            | nil => intro es _ b hb; simp at hb
            | cons d ds ih =>
              intro es h b hb
              simp only [pyL] at h
              split at h
              · rename_i y ys h1 h2
                simp only [Option.some.injEq] at h
                subst h
                rw [List.zip_cons_cons] at hb
                rcases List.mem_cons.mp hb with rfl | hb
                · exact h1
                · exact ih _ h2 b hb
              · cases h
          exact hz _ _ hes b bm
        rw [← e2] at hr
        have me : ei ∈ x :: xs := List.mem_of_getElem? q6
        have ee : ei = b.2 := PySem.W.alike_unique _ _ _ _ _ (al _ me _ bm2.2) (Reads.keeps hk q7) hr
        rw [ee] at q5
        have pdi := List.all_eq_true.mp c3 _ (List.mem_of_getElem? q1)
        have pdb := List.all_eq_true.mp c3 _ bm2.1
        have e3 : di = b.1 := py_inj deep _ _ _ pdi pdb q5 pb
        subst e3
        exact ⟨vi, H, I.kept (t' := tk) hk, q3, post_ok rl q4 hP⟩
theorem best_seq {S : Sto} {x : D} {ds : List D} {H : Hp} {g : G} {v : V} (rl : Rel X.K X.mg g H S) (r : Rep X.K X.mg g x v) (h : seqT S x = some ds) : ∃ a vs, v = .ref a ∧ (SqL X.K H a vs ∨ SqT X.K H a vs) ∧ RepL X.K X.mg g ds vs := by
  unfold seqT at h
  split at h
  · simp only [Option.some.injEq] at h
    subst h
    obtain ⟨a, vs, e, h1, h2⟩ := tup_rep rl r
    exact ⟨a, vs, e, .inr h1, h2⟩
  · obtain ⟨a, vs, e, h1, h2⟩ := seqOf_rep rl r h
    exact ⟨a, vs, e, .inl h1, h2⟩
theorem c_min1 (hc : X.calm = true) (hu : X.A.units + 64 < cLine) : CallR X (.builtin "min") (rM X pmin1) := by
  intro pins s σ H xs us Q I r h
  obtain ⟨g, S, ds0, W, σ', rl, rx, hP⟩ := h
  unfold pmin1 pbest at hP
  split at hP
  · rename_i x
    split at hP
    · rename_i ds hds
      split at hP
      · rename_i es hes
        split at hP
        · rename_i hcc
          obtain ⟨v, rfl, rv⟩ := rep1 rx
          obtain ⟨a, vs, rfl, hs, rr⟩ := best_seq rl rv hds
          rw [Vals.ref1 r]
          have e12 : deep = 12 := rfl
          rcases hs with hs | hs
          · obtain ⟨its, ri, hl, hzz⟩ := I.list hs
            obtain ⟨y, ys, as, rfl, k1, k2, k3, k4⟩ := best_core PySem.W.dataLt I rl rr ri hes hcc hP
            exact PySem.W.min_list_data (I.ok.hd hc) hl.isList (by simpa using k1) k2 (by omega) fun i v h' tk bs hv hr hk => k4 i v h' tk bs (by simpa using hv) hr hk
          · obtain ⟨its, ri, hl, hzz⟩ := I.tuple hs
            obtain ⟨y, ys, as, rfl, k1, k2, k3, k4⟩ := best_core PySem.W.dataLt I rl rr ri hes hcc hP
            exact PySem.W.min_tuple_data (I.ok.hd hc) hl (by simpa using k1) k2 (by omega) fun i v h' tk bs hv hr hk => k4 i v h' tk bs (by simpa using hv) hr hk
        · exact hP.elim
      · exact hP.elim
    · exact hP.elim
  · exact hP.elim
theorem c_max1 (hc : X.calm = true) (hu : X.A.units + 64 < cLine) : CallR X (.builtin "max") (rM X pmax1) := by
  intro pins s σ H xs us Q I r h
  obtain ⟨g, S, ds0, W, σ', rl, rx, hP⟩ := h
  unfold pmax1 pbest at hP
  split at hP
  · rename_i x
    split at hP
    · rename_i ds hds
      split at hP
      · rename_i es hes
        split at hP
        · rename_i hcc
          obtain ⟨v, rfl, rv⟩ := rep1 rx
          obtain ⟨a, vs, rfl, hs, rr⟩ := best_seq rl rv hds
          rw [Vals.ref1 r]
          have e12 : deep = 12 := rfl
          rcases hs with hs | hs
          · obtain ⟨its, ri, hl, hzz⟩ := I.list hs
            obtain ⟨y, ys, as, rfl, k1, k2, k3, k4⟩ := best_core (fun a b => PySem.W.dataLt b a) I rl rr ri hes hcc hP
            exact PySem.W.max_list_data (I.ok.hd hc) hl.isList (by simpa using k1) k2 (by omega) fun i v h' tk bs hv hr hk => k4 i v h' tk bs (by simpa using hv) hr hk
          · obtain ⟨its, ri, hl, hzz⟩ := I.tuple hs
            obtain ⟨y, ys, as, rfl, k1, k2, k3, k4⟩ := best_core (fun a b => PySem.W.dataLt b a) I rl rr ri hes hcc hP
            exact PySem.W.max_tuple_data (I.ok.hd hc) hl (by simpa using k1) k2 (by omega) fun i v h' tk bs hv hr hk => k4 i v h' tk bs (by simpa using hv) hr hk
        · exact hP.elim
      · exact hP.elim
    · exact hP.elim
  · exact hP.elim

/-! ### divmod -/
def pdivmod : PL := fun xs S => match xs with
  | [.int i, .int j] => if 0 < j ∧ j < 1073741824 then .ok (.tup [.int (i / j), .int (i % j)]) S else .no
  | _ => .no
theorem c_divmod : CallR X (.builtin "divmod") (rM X pdivmod) := callR_imp call_divmod fun vs H Q ⟨g, S, xs, W, σ, rl, rx, hP⟩ => by
  unfold pdivmod at hP
  split at hP
  · split at hP
    · rename_i hz
      obtain ⟨v, u, rfl, r, r'⟩ := rep2 rx
      cases r; cases r'
      exact ⟨_, _, rfl, hz, post_mkT rl (.cons (.int _) (.cons (.int _) .nil)) hP⟩
    · exact hP.elim
  · exact hP.elim

/-! ### len(set(xs)) -/
def dedI (ns : List Int) : List Int := ns.foldl PyProof.Rows.step_dedup []
theorem firstMet_all (ns : List Int) : PyProof.Rows.firstMet (fun i => ns.getD i 0) ns.length = dedI ns := by
  unfold PyProof.Rows.firstMet dedI
  congr 1
  apply List.ext_getElem
  · simp
  · intro i h1 h2
    simp [List.getD_eq_getElem?_getD, List.getElem?_eq_getElem h2]
def plenset : P1 := fun x S => match (seqOf S x).bind asIs with
  | some ns => if ns.length ≤ 1000 then .ok (.int (dedI ns).length) S else .no
  | none => .no
theorem em_lenset {a : Expr} {ma : M D} {p p2 q pos : Pos} (hm : X.mg "len" = none) (hm2 : X.mg "set" = none) (ha : EM X W a ma) (hc : X.calm = true) (hg : Gl X "len" := by rfl) (hg2 : Gl X "set" := by rfl)
    (na : starEach [a] X.env = (false, eval a X.env) :: starEach [] X.env := by exact star1 rfl) : EM X W (.Call (.Name "len" p) [.Call (.Name "set" p2) [a] [] q] [] pos) (m1 plenset ma) := by
  intro g σ H ev S Q rl er hP pins s I
  refine Call_ (ld_blt I hg hm boot_len ?_)
  refine PyProof.Rows.callWith_builtin1 (PyProof.Rows.args_cons ?_ rfl) rfl rfl
  refine Call_ (ld_blt I hg2 hm2 PyProof.Rows.boot_set ?_)
  refine PyProof.Rows.callWith_type1 (PyProof.Rows.args_cons (thn (ha g σ H ev S (fun v H1 => ∃ (g1 : G) (x : D) (S1 : Sto), Rel X.K X.mg g1 H1 S1 ∧ Rep X.K X.mg g1 x v ∧ Post X.K X.mg (Rep X.K X.mg) W σ g1 (plenset x S1) Q) rl er
    (Post.bind hP fun g1 x S1 v H1 l1 rl1 rx hP1 => ⟨g1, x, S1, rl1, rx, hP1⟩) pins s I) fun v s1 ⟨x, H1, I1, r1, g1, d, S1, rl1, rx, q1⟩ => PyProof.Rows.args_nil ?_) na) na rfl
  unfold plenset at q1
  split at q1
  · rename_i ns hns
    split at q1
    · rename_i hz0
      obtain ⟨ds, k1, k2⟩ := seqAs hns
      obtain ⟨l, vs, rfl, hq, rr⟩ := seqOf_rep rl1 rx k1
      have ev := asIs_rep rr k2
      subst ev
      cases r1
      obtain ⟨its, r, pl, hz⟩ := I1.list hq
      have hlen : its.toArray.size = ns.length := by rw [List.size_toArray, ← r.length, List.length_map]
      refine call_set_list (I1.ok.hd hc) pl.isList (ns := ns) (by simpa using r.ints) (by rw [hlen]; unfold scanBound; omega) fun h' tk hS hk => ?_
      refine PyProof.Rows.args_nil ?_
      rw [hlen, firstMet_all] at hS
      obtain ⟨o, es, ep, t, ho, hex, hd, _, _, _, hf, hn⟩ := hS
      have hle : (dedI ns).length ≤ ns.length := by rw [← firstMet_all]; exact PyProof.Rows.firstMet_length_le _ _
      have I2 : Inv X pins σ H1 { s1 with heap := h', toks := tk } := I1.kept fun b o e => hk b o (Heap.lt_size e) e
      exact call_len_set ho hex hd hf (by rw [hn] <;> omega) ⟨.int (dedI ns).length, H1, I2.tok _, ⟨_, by rw [hn]⟩, post_ok rl1 (.int _) q1⟩
    · exact q1.elim
  · exact q1.elim

/-! ### ranges as values -/
def prng1 : PL := fun xs S => match xs with
  | [.int j] => .ok (.rng 0 j) S
  | _ => .no
def prng2 : PL := fun xs S => match xs with
  | [.int i, .int j] => .ok (.rng i j) S
  | _ => .no
theorem post_rng {g : G} {H : Hp} {S : Sto} {Q : VK} {W : WX} {σ : Sl} {i j : Int} (rl : Rel X.K X.mg g H S) (h : Post X.K X.mg (Rep X.K X.mg) W σ g (.ok (.rng i j) S) Q) : ∀ p, H p = none → Q (.ref p) (upd H p (.rng i j)) := by
  intro p hp
  exact h _ _ _ (G.le_known (rl.fnone hp)) (rl.fresh hp _) (.rng upd_same)
theorem c_rng2 : CallR X (.type "range") (rM X prng2) := callR_imp cr_range2 fun vs H Q ⟨g, S, xs, W, σ, rl, rx, hP⟩ => by
  unfold prng2 at hP
  split at hP
  · obtain ⟨v, u, rfl, r, r'⟩ := rep2 rx
    cases r; cases r'
    exact ⟨_, _, rfl, post_rng rl hP⟩
  · exact hP.elim
theorem c_rng1 : CallR X (.type "range") (rM X prng1) := by
  intro pins s σ H vs us Q I r h
  obtain ⟨g, S, xs, W, σ', rl, rx, hP⟩ := h
  unfold prng1 at hP
  split at hP
  · obtain ⟨v, rfl, r'⟩ := rep1 rx
    cases r'
    obtain ⟨u1, rfl, ri⟩ := vals1 r
    obtain ⟨t, rfl⟩ := ri
    refine call_range_1 ⟨.ref s.heap.objs.size, upd H s.heap.objs.size (.rng 0 _), I.laid (t' := s.toks + 2) (fun b o e => Heap.get?_push_of_some _ e) (Nat.le_refl _) ?_, rfl, post_rng rl hP _ (I.hok.fresh (Nat.le_refl _))⟩
    exact ⟨_, _, _, Heap.get?_push_size _ rfl⟩
  · exact hP.elim
/-- a range that is walked -/
def asRngV : D → Sto → R Src := fun d S => match d with
  | .rng i j => if inR i ∧ inR j then .ok ⟨rangeD i (j - i).toNat, []⟩ S else .no
  | _ => .no
def mRng (ma : M D) : M Src := fun ev S => (ma ev S).bind asRngV
theorem im_rng {tg a : Expr} {ma : M D} (ha : EM X W a ma) : IM X W tg a (mRng ma) := by
  intro g σ H ev S R rl er hP pins s I
  refine thn (ha g σ H ev S (fun v H1 => ∃ (g1 : G) (x : D) (S1 : Sto), Rel X.K X.mg g1 H1 S1 ∧ Rep X.K X.mg g1 x v ∧ Post X.K X.mg (fun g c J => SrcOk X.K X.mg g c J) W σ g1 (asRngV x S1) R) rl er (Post.bind hP fun g1 x S1 v H1 l1 rl1 rx hP1 => ⟨g1, x, S1, rl1, rx, hP1⟩) pins s I)
    fun vv s1 ⟨v, H1, I1, rv, g1, x, S1, rl1, rx, hP1⟩ => ?_
  unfold asRngV at hP1
  split at hP1
  · split at hP1
    · rename_i i j hz
      cases rx with
      | @rng p _ _ h0 =>
        cases rv
        obtain ⟨t, u, w, e⟩ := I1.hok p _ (rl1.fin _ _ h0)
        refine wpAny_pyIter_range (show IsRange s1.heap p i j 1 t u w from e) (small_one hz.1.1 hz.1.2 hz.2.1 hz.2.2) ?_
        refine ⟨s1.heap.objs.size, [s1.heap.objs.size], _, _, H1, rfl, I1.kept (t' := s1.toks) fun b o e => Heap.get?_push_of_some _ e, turn_range _ i (j - i).toNat, ?_, fun b hb => ?_, hP1 g1 _ H1 (G.le.refl g1) rl1 srcOk_range⟩
        · have e1 : i + ((0 : Nat) : Int) * 1 = i := by simp
          have e2 : (((j - i).toNat : Nat) : Int) - ((0 : Nat) : Int) = Builtin.Range.rangeSize i j 1 := by rw [rangeSize_one]; split <;> omega
          show IsRangeIter _ _ (i + ((0 : Nat) : Int) * 1) ((((j - i).toNat : Nat) : Int) - ((0 : Nat) : Int)) 1
          rw [e1, e2]
          exact Heap.get?_push_size _ rfl
        · have e : b = s1.heap.objs.size := by simpa using hb
          subst e
          exact I1.fpOk (Nat.le_refl _) (I1.hok.fresh (Nat.le_refl _))
    · exact hP1.elim
  · exact hP1.elim
/-- list(range(..)), tuple(range(..)) -/
theorem repRg {g : G} (i j : Int) : RepL X.K X.mg g (rangeD i (j - i).toNat) (rgV i j) := by
  unfold rangeD rgV
  generalize (j - i).toNat = n
  generalize List.range n = l
  induction l with
  | nil => exact .nil
  | cons a l ih => exact .cons (.int _) ih
def RgM (i j : Int) : Prop := 0 ≤ i ∧ i ≤ 16777216 ∧ 0 ≤ j ∧ j ≤ 16777216
instance (i j : Int) : Decidable (RgM i j) := by unfold RgM; infer_instance
def plistR (nw : Bool) : PL := fun xs S => match xs with
  | [.int j] => if RgM 0 j then mkL nw (rangeD 0 j.toNat) S else .no
  | [.int i, .int j] => if RgM i j then mkL nw (rangeD i (j - i).toNat) S else .no
  | _ => .no
def ptupleR : PL := fun xs S => match xs with
  | [.int j] => if RgM 0 j then .ok (.tup (rangeD 0 j.toNat)) S else .no
  | [.int i, .int j] => if RgM i j then .ok (.tup (rangeD i (j - i).toNat)) S else .no
  | _ => .no
/-- an argument by the weakest reading of the one-item list -/
theorem em_listR1 (nw : Bool) {a : Expr} {ma : M D} {p p2 q pos : Pos} (hm : X.mg "list" = none) (hm2 : X.mg "range" = none) (ha : EM X W a ma) (hc : X.calm = true) (hg : Gl X "list" := by rfl) (hg2 : Gl X "range" := by rfl)
    (na : starEach [a] X.env = (false, eval a X.env) :: starEach [] X.env := by exact star1 rfl)
    (na2 : starEach [.Call (.Name "range" p2) [a] [] q] X.env = (false, eval (.Call (.Name "range" p2) [a] [] q) X.env) :: starEach [] X.env := by exact star1 rfl) : EM X W (.Call (.Name "list" p) [.Call (.Name "range" p2) [a] [] q] [] pos) (mL (plistR nw) (mCons ma mNil)) := by
  intro g σ H ev S Q rl er hP
  refine wE (pe_listRg hc hg hm (prg_1 hg2 hm2 (peW X a) na) na2) (ha g σ H ev S _ rl er (Post.bind (Rp := Rep X.K X.mg) (show Post X.K X.mg (Rep X.K X.mg) W σ g ((ma ev S).bind fun d S1 => plistR nw [d] S1) Q from by
    have e : mL (plistR nw) (mCons ma mNil) ev S = (ma ev S).bind fun d S1 => plistR nw [d] S1 := by
      unfold mL mCons mNil
      cases ma ev S <;> rfl
    rw [← e]; exact hP) fun g1 x S1 v H1 l1 rl1 rx hP1 => ?_))
  unfold plistR at hP1
  split at hP1
  · rename_i j e
    cases e
    split at hP1
    · rename_i hz
      cases rx
      refine ⟨_, rfl, RgOk.of_le hz.1 hz.2.2.2 hz.2.1 hz.2.2.1, post_mkL rl1 ?_ hP1⟩
      have := repRg (X := X) (g := g1) 0 j
      rw [Int.sub_zero] at this
      exact this
    · exact hP1.elim
  · rename_i e; cases e
  · exact hP1.elim
theorem em_listR2 (nw : Bool) {a b : Expr} {ma mb : M D} {p p2 q pos : Pos} (hm : X.mg "list" = none) (hm2 : X.mg "range" = none) (ha : EM X W a ma) (hb : EM X W b mb) (hc : X.calm = true) (hg : Gl X "list" := by rfl) (hg2 : Gl X "range" := by rfl)
    (na : starEach [a, b] X.env = (false, eval a X.env) :: starEach [b] X.env := by exact star1 rfl) (nb : starEach [b] X.env = (false, eval b X.env) :: starEach [] X.env := by exact star1 rfl) (hp : (backTo q (starEach [b] X.env)).any (·.1) = false := by exact starP rfl)
    (na2 : starEach [.Call (.Name "range" p2) [a, b] [] q] X.env = (false, eval (.Call (.Name "range" p2) [a, b] [] q) X.env) :: starEach [] X.env := by exact star1 rfl) : EM X W (.Call (.Name "list" p) [.Call (.Name "range" p2) [a, b] [] q] [] pos) (mL (plistR nw) (mCons ma (mCons mb mNil))) := by
  intro g σ H ev S Q rl er hP
  have e : mL (plistR nw) (mCons ma (mCons mb mNil)) ev S = m2 (fun x y S => plistR nw [x, y] S) ma mb ev S := by
    unfold mL mCons mNil m2
    cases ma ev S with
    | ok x S1 => simp only [bind_ok]; cases mb ev S1 <;> rfl
    | _ => rfl
  rw [e] at hP
  refine wE (pe_listRg hc hg hm (prg_2 hg2 hm2 (peW X a) (peW X b) na nb hp) na2) (twoM ha hb rl er hP fun g' x y S' v u H' l rl' rx ry hP1 => ?_)
  unfold plistR at hP1
  split at hP1
  · rename_i e; cases e
  · rename_i i j e
    cases e
    split at hP1
    · rename_i hz
      cases rx; cases ry
      exact ⟨_, _, rfl, rfl, RgOk.of_le hz.1 hz.2.2.2 hz.2.1 hz.2.2.1, post_mkL rl' (repRg _ _) hP1⟩
    · exact hP1.elim
  · exact hP1.elim
theorem em_tupR1 {a : Expr} {ma : M D} {p p2 q pos : Pos} (hm : X.mg "tuple" = none) (hm2 : X.mg "range" = none) (ha : EM X W a ma) (hc : X.calm = true) (hg : Gl X "tuple" := by rfl) (hg2 : Gl X "range" := by rfl)
    (na : starEach [a] X.env = (false, eval a X.env) :: starEach [] X.env := by exact star1 rfl)
    (na2 : starEach [.Call (.Name "range" p2) [a] [] q] X.env = (false, eval (.Call (.Name "range" p2) [a] [] q) X.env) :: starEach [] X.env := by exact star1 rfl) : EM X W (.Call (.Name "tuple" p) [.Call (.Name "range" p2) [a] [] q] [] pos) (mL ptupleR (mCons ma mNil)) := by
  intro g σ H ev S Q rl er hP
  refine wE (pe_tupRg hc hg hm (prg_1 hg2 hm2 (peW X a) na) na2) (ha g σ H ev S _ rl er (Post.bind (Rp := Rep X.K X.mg) (show Post X.K X.mg (Rep X.K X.mg) W σ g ((ma ev S).bind fun d S1 => ptupleR [d] S1) Q from by
    have e : mL ptupleR (mCons ma mNil) ev S = (ma ev S).bind fun d S1 => ptupleR [d] S1 := by
      unfold mL mCons mNil
      cases ma ev S <;> rfl
    rw [← e]; exact hP) fun g1 x S1 v H1 l1 rl1 rx hP1 => ?_))
  unfold ptupleR at hP1
  split at hP1
  · rename_i j e
    cases e
    split at hP1
    · rename_i hz
      cases rx
      refine ⟨_, rfl, RgOk.of_le hz.1 hz.2.2.2 hz.2.1 hz.2.2.1, post_mkT rl1 ?_ hP1⟩
      have := repRg (X := X) (g := g1) 0 j
      rw [Int.sub_zero] at this
      exact this
    · exact hP1.elim
  · rename_i e; cases e
  · exact hP1.elim
end
end ML


set_option Elab.async false
set_option linter.all false
set_option maxRecDepth 100000
set_option autoImplicit false
set_option maxHeartbeats 4000000
/-! xs[::-1] of lists and tuples -/
namespace ML
open PySem PySem.Spec PyProof.Rows L2 HT
section
variable {prog : Program} {w : World} {A : Around} {E : Value → Shared → Prop} {s : Shared}
theorem sliceApplied_rev {sl : Addr} {vl vu vs : Value} {n : Nat} {Q : Int × Int × Nat → Shared → Prop} (hs : s.heap.IsSliceOf sl vl vu vs) (pl : IsPart vl none) (pu : IsPart vu none) (ps : IsPart vs (some (-1)))
    (h : Q ((n : Int) - 1, -1, n) s) : wpAny (model prog w) A (Builtin.Slice.sliceApplied (.ref sl) (pure (n : Int))) Q E s := by
  obtain ⟨os, hos, hcs, hds⟩ := id hs
  unfold Builtin.Slice.sliceApplied Builtin.Slice.sliceFields
  refine wpAny_bind (wpAny_bind (wpAny_field hos hds (x := vl) rfl (wpAny_bind (wpAny_field hos hds (x := vu) rfl (wpAny_bind (wpAny_field hos hds (x := vs) rfl (wpAny_pure ?_)))))))
  refine wpAny_bind (slicePart_ ps ?_)
  show wpAny _ _ (if ((-1 : Int) == 0) = true then _ else _) _ _ s
  rw [if_neg (by decide)]
  refine wpAny_bind (slicePart_ pl (wpAny_bind (slicePart_ pu (wpAny_bind (wpAny_pure ?_)))))
  show wpAny _ _ (match Builtin.Slice.sliceAdjust none none (-1) (n : Int) with | (lo, hi) => pure (lo, (-1 : Int), Builtin.Slice.slicePlaces lo hi (-1))) _ _ s
  have e1 : Builtin.Slice.sliceAdjust none none (-1) (n : Int) = ((n : Int) - 1, -1) := by
    unfold Builtin.Slice.sliceAdjust
    simp
  have e2 : Builtin.Slice.slicePlaces ((n : Int) - 1) (-1) (-1) = n := by
    unfold Builtin.Slice.slicePlaces
    simp
    first | omega | (split <;> omega)
  rw [e1]
  show wpAny _ _ (pure ((n : Int) - 1, (-1 : Int), Builtin.Slice.slicePlaces ((n : Int) - 1) (-1) (-1))) _ _ s
  rw [e2]
  exact wpAny_pure h
theorem fm_congr {α β : Type} {f g : α → Option β} : ∀ {l : List α}, (∀ x ∈ l, f x = g x) → l.filterMap f = l.filterMap g
  | [], _ => rfl
  | x :: l, h => by rw [List.filterMap_cons, List.filterMap_cons, h x List.mem_cons_self, fm_congr fun y hy => h y (List.mem_cons_of_mem _ hy)]
theorem pick_rev (xs : Array Value) : ((List.range xs.size).filterMap fun (m : Nat) => xs[(((xs.size : Int) - 1) + (m : Int) * (-1)).toNat]?).toArray = xs.toList.reverse.toArray := by
  have e : (List.range xs.size).filterMap (fun (m : Nat) => xs[(((xs.size : Int) - 1) + (m : Int) * (-1)).toNat]?) = ((List.range xs.size).map fun k => xs.size - 1 - k).filterMap (xs[·]?) := by
    rw [List.filterMap_map]
    refine fm_congr fun m hm => ?_
    have := List.mem_range.mp hm
    have q : (((xs.size : Int) - 1) + (m : Int) * (-1)).toNat = xs.size - 1 - m := by omega
    show _ = xs[xs.size - 1 - m]?
    rw [q]
  rw [e, PySem.W.krv_range, List.filterMap_reverse, PySem.W.krv_all]
theorem getItem_tuple_rev {t sl : Addr} {items : Array Value} {vl vu vs : Value} {Q : Value → Shared → Prop} (ht : IsTup s.heap t items) (hs : s.heap.IsSliceOf sl vl vu vs) (pl : IsPart vl none) (pu : IsPart vu none) (ps : IsPart vs (some (-1)))
    (h : Q (.ref s.heap.objs.size) { s with heap := s.heap.push { cls := .type "tuple", data := .seq items.toList.reverse.toArray } })
    (hsz : items.size ≤ sizeLine) : wpAny (model prog w) A (getItem (.ref t) (.ref sl)) Q E s := by
  have htake : sizeOk (.seq items.toList.reverse.toArray) := by
    show items.toList.reverse.toArray.size ≤ sizeLine
    rw [List.size_toArray, List.length_reverse, Array.length_toList]
    exact hsz
  obtain ⟨os, hos, hcs, hds⟩ := id hs
  have hTs : s.TypeIs (.ref sl) "slice" := ⟨os, hos, hcs⟩
  unfold getItem
  try with_reducible refine wpAny_holding ?_
  first | refine wpAny_bind (wpAny_pure ?_) | skip
  refine wpAny_bind (wpAny_sequenceKey ht.typeIs (by decide) ?_)
  refine wpAny_bind (wpAny_callSpecial?_slot (name := Str.ofString "__getitem__") ht.typeIs PyProof.Rows.slot_tuple_getitem
    (wpAny_call_entry PyProof.Rows.slot_tuple_getitem ht.typeIs entry_tuple_getitem ?_ (args_tuple_getitem _ _)))
  show wpAny _ _ (Builtin.Tuple.tupleItemsOf (.ref t) >>= _) _ _ s
  refine wpAny_bind (tupleItemsOf_ ht ?_)
  refine wpAny_bind (wpAny_typeOf hTs ?_)
  rw [if_pos (by decide)]
  refine wpAny_bind (sliceApplied_rev (n := items.size) hs pl pu ps ?_)
  have hno : ¬ (((((items.size : Int) - 1) == 0) && ((-1 : Int) == 1) && items.size == items.size) = true) := by
    intro q
    rw [Bool.and_eq_true, Bool.and_eq_true] at q
    exact absurd q.1.2 (by decide)
  show wpAny _ _ (if ((((items.size : Int) - 1) == 0) && ((-1 : Int) == 1) && items.size == items.size) = true then _ else _) _ _ s
  rw [if_neg hno, pick_rev]
  first
    | exact wpAny_bind (m := Builtin.Tuple.tupleExact _) (wpAny_newObj_type (wpAny_pure ⟨_, rfl, wpAny_pure h⟩) htake)
    | exact wpAny_bind (m := Builtin.Tuple.tupleExact _) (wpAny_newObj_type (wpAny_bind (wpAny_pure (wpAny_pure ⟨_, rfl, wpAny_pure h⟩))) htake)
    | exact wpAny_bind (wpAny_bind (m := Builtin.Tuple.tupleExact _) (wpAny_newObj_type (wpAny_pure (wpAny_pure ⟨_, rfl, wpAny_pure h⟩)) htake))
    | exact wpAny_bind (wpAny_bind (m := Builtin.Tuple.tupleExact _) (wpAny_newObj_type (wpAny_pure ⟨_, rfl, wpAny_pure h⟩) htake))
end
def tRevT (K : PySem.W.Frag) (te : TE) : TE := fun σ H Q => te σ H fun x H1 => ∃ a xs, x = .ref a ∧ ((SqL K H1 a xs ∧ ∀ p, H1 p = none → Q (.ref p) (upd H1 p (.lst xs.reverse))) ∨ (SqT K H1 a xs ∧ ∀ p, H1 p = none → Q (.ref p) (upd H1 p (.tup xs.reverse))))
theorem pe_revT {X : Cx} {e : Expr} {te : TE} {k : Nat} {p1 p2 p3 pos : Pos} (he : PE X e te) : PE X (.Subscript e (.Slice none none (some (.UnaryOp .USub (.Constant (.int 1) k p1) p2)) p3) pos) (tRevT X.K te) := by
  refine ⟨fun pins s σ H Q I h => ?_⟩
  refine Subscript_ (thn (he.run pins s σ H _ I h) fun v s1 ⟨x, H1, I1, r1, q1⟩ => ?_)
  obtain ⟨a, xs, ex, hx⟩ := q1
  subst ex
  cases r1
  have hst : PO X (some (.UnaryOp .USub (.Constant (.int 1) k p1) p2)) (tPart (tUn (rU fun i => .int (-i)) (tC (.int 1)))) := po_some (pe_un un_neg pe_int)
  refine wpAny_Slice (thn (po_none.run pins s1 σ H1 (fun o H2 => o = none ∧ H2 = H1) I1 ⟨rfl, rfl⟩) fun vl s2 ⟨l, H2, I2, pl, el, e2⟩ => ?_)
  subst el e2
  refine thn (po_none.run pins s2 σ H2 (fun o H3 => o = none ∧ H3 = H2) I2 ⟨rfl, rfl⟩) fun vu s3 ⟨u, H3, I3, pu, eu, e3⟩ => ?_
  subst eu e3
  refine thn (hst.run pins s3 σ H3 (fun o H4 => o = some (-1) ∧ H4 = H3) I3 ⟨1, rfl, -1, rfl, rfl, rfl⟩) fun vs s4 ⟨o, H4, I4, ps, eo, e4⟩ => ?_
  subst eo e4
  have I5 : Inv X pins σ H4 { s4 with heap := s4.heap.push { cls := .type "slice", data := .fields #[vl, vu, vs] } } := I4.kept (t' := s4.toks) fun b ob q => Heap.get?_push_of_some _ q
  show wpAny (model X.prog X.w) X.A (subscriptTail e (.Slice none none (some (.UnaryOp .USub (.Constant (.int 1) k p1) p2)) p3) (.ref a) (.ref s4.heap.objs.size)) (EP X pins σ Q) X.xe { s4 with heap := s4.heap.push { cls := .type "slice", data := .fields #[vl, vu, vs] } }
  rcases hx with ⟨hx, q⟩ | ⟨hx, q⟩
  · obtain ⟨its, r, ht, hz⟩ := I5.list hx
    have hlen := r.length
    refine tail_any (ops := [.ref a, .ref s4.heap.objs.size]) ht.isList.typeIs (PySem.slot_list_getitem.lookup) ?_ (by with_unfolding_all rfl)
    refine wpAny_getItem_list_slice ht.isList (Heap.IsSliceOf.new _ vl vu vs) pl pu ps (by decide) ?_ (by rw [List.size_toArray]; omega)
    rw [PySem.W.krv_pick]
    refine ⟨.ref _, _, I5.laid (t' := s4.toks) (o := .lst xs.reverse) (fun b ob q => Heap.get?_push_of_some _ q) (Nat.le_refl _) ?_, rfl, q _ (I5.hok.fresh (Nat.le_refl _))⟩
    exact ⟨by rw [List.length_reverse]; exact hz, _, 0, r.reverse, Heap.get?_push_size _ rfl⟩
  · obtain ⟨its, r, ht, hz⟩ := I5.tuple hx
    have hlen := r.length
    refine tail_any (ops := [.ref a, .ref s4.heap.objs.size]) ht.typeIs (PyProof.Rows.slot_tuple_getitem.lookup) ?_ (by with_unfolding_all rfl)
    refine getItem_tuple_rev ht (Heap.IsSliceOf.new _ vl vu vs) pl pu ps ?_ (by rw [List.size_toArray]; omega)
    refine ⟨.ref _, _, I5.laid (t' := s4.toks) (o := .tup xs.reverse) (fun b ob q => Heap.get?_push_of_some _ q) (Nat.le_refl _) ?_, rfl, q _ (I5.hok.fresh (Nat.le_refl _))⟩
    exact ⟨by rw [List.length_reverse]; exact hz, _, r.reverse, IsTup.new _ _⟩
def prev (nw : Bool) : P1 := fun x S => match x with
  | .tup ds => .ok (.tup ds.reverse) S
  | x => match seqOf S x with
    | some ds => mkL nw ds.reverse S
    | none => .no
theorem RepL.reverse {K : PySem.W.Frag} {mg : Str → Option Value} {g : G} : ∀ {ds : List D} {vs : List V}, RepL K mg g ds vs → RepL K mg g ds.reverse vs.reverse
  | [], _, h => by cases h; exact .nil
  | _ :: _, _, h => by
    cases h with
    | cons h t =>
      rw [List.reverse_cons, List.reverse_cons]
      exact (RepL.reverse t).append (.cons h .nil)
theorem em_rev (nw : Bool) {X : Cx} {W : WX} {a : Expr} {ma : M D} {k : Nat} {p1 p2 p3 pos : Pos} (ha : EM X W a ma) : EM X W (.Subscript a (.Slice none none (some (.UnaryOp .USub (.Constant (.int 1) k p1) p2)) p3) pos) (m1 (prev nw) ma) := by
  intro g σ H ev S Q rl er hP
  refine wE (pe_revT (peW X a)) (ha g σ H ev S _ rl er (Post.bind hP fun g1 x S1 v H1 l1 rl1 rx hP1 => ?_))
  unfold prev at hP1
  split at hP1
  · obtain ⟨q, us, rfl, hq, r1⟩ := tup_rep rl1 rx
    exact ⟨q, us, rfl, .inr ⟨hq, post_mkT rl1 r1.reverse hP1⟩⟩
  · split at hP1
    · rename_i ds h
      obtain ⟨q, us, rfl, hq, r1⟩ := seqOf_rep rl1 rx h
      exact ⟨q, us, rfl, .inl ⟨hq, post_mkL rl1 r1.reverse hP1⟩⟩
    · exact hP1.elim
end ML
namespace ML
open PySem PySem.Spec PyProof.Rows L2
/-- nothing is said of this statement, of this expression -/
def sDead : MS := fun _ _ => .no
theorem sm_dead {X : Cx} {W : WX} {st : Stmt} : SM X W st sDead := fun g σ H ev S E rl er hP => hP.elim
def mDead : M D := fun _ _ => .no
theorem em_dead {X : Cx} {W : WX} {e : Expr} : EM X W e mDead := fun g σ H ev S Q rl er hP => hP.elim
end ML


set_option Elab.async false
set_option linter.all false
set_option maxRecDepth 100000
set_option autoImplicit false
set_option maxHeartbeats 4000000
/-! what a mirror does in a small store it does behind any other cells, too -/
namespace ML
open PySem PySem.Spec PyProof.Rows L2
mutual
def D.sh (k : Nat) : D → D
  | .non => .non | .bl b => .bl b | .int i => .int i | .str x => .str x | .ty n => .ty n | .gl x => .gl x
  | .tup ds => .tup (shL k ds) | .lst ds => .lst (shL k ds) | .rol ds => .rol (shL k ds) | .ref n => .ref (n + k) | .dc0 => .dc0
  | .xo c ns ds => .xo c ns (shL k ds) | .rng i j => .rng i j | .dct ks ds => .dct ks (shL k ds)
def shL (k : Nat) : List D → List D
  | [] => []
  | d :: ds => d.sh k :: shL k ds
end
def Cell.sh (k : Nat) : Cell → Cell
  | .lst ds => .lst (shL k ds)
  | .dead => .dead
def stSh (P S : Sto) : Sto := P ++ S.map (Cell.sh P.length)
class HSh (α : Type) where
  sh : Nat → α → α
instance : HSh D := ⟨D.sh⟩
instance : HSh (List D) := ⟨shL⟩
instance : HSh Bool := ⟨fun _ b => b⟩
instance : HSh (Option Int) := ⟨fun _ b => b⟩
instance : HSh Ev := ⟨fun k ev => ev.map (·.map (D.sh k))⟩
instance : HSh Src := ⟨fun k c => ⟨shL k c.items, c.deps.map fun p => (p.1 + k, shL k p.2)⟩⟩
instance : HSh Xn := ⟨fun k x => ⟨x.cls, x.ns, shL k x.ds⟩⟩
instance : HSh Fl := ⟨fun k f => match f with | .rt d => .rt (d.sh k) | f => f⟩
def R.sh {α : Type} [HSh α] (P : Sto) : R α → R α
  | .ok a S => .ok (HSh.sh P.length a) (stSh P S)
  | .ex x S => .ex (HSh.sh P.length x) (stSh P S)
  | .no => .no
def RS.sh (P : Sto) : RS → RS
  | .ok f ev S => .ok (HSh.sh P.length f) (HSh.sh P.length ev) (stSh P S)
  | .ex x ev S => .ex (HSh.sh P.length x) (HSh.sh P.length ev) (stSh P S)
  | .no => .no
section
variable {P S : Sto} {k : Nat}
theorem shL_map : ∀ (ds : List D), shL k ds = ds.map (D.sh k)
  | [] => rfl
  | d :: ds => by rw [shL, List.map_cons, shL_map ds]
theorem shL_len (ds : List D) : (shL k ds).length = ds.length := by rw [shL_map, List.length_map]
theorem shL_get (ds : List D) (i : Nat) : (shL k ds)[i]? = ds[i]?.map (D.sh k) := by rw [shL_map, List.getElem?_map]
theorem shL_app (a b : List D) : shL k (a ++ b) = shL k a ++ shL k b := by rw [shL_map, shL_map, shL_map, List.map_append]
theorem st_get (n : Nat) : (stSh P S)[n + P.length]? = (S[n]?).map (Cell.sh P.length) := by
  unfold stSh
  rw [List.getElem?_append_right (by omega), Nat.add_sub_cancel, List.getElem?_map]
theorem st_len : (stSh P S).length = S.length + P.length := by unfold stSh; rw [List.length_append, List.length_map, Nat.add_comm]
theorem st_set (n : Nat) (c : Cell) : (stSh P S).set (n + P.length) (c.sh P.length) = stSh P (S.set n c) := by
  unfold stSh
  rw [List.set_append_right _ _ (by omega), Nat.add_sub_cancel, List.map_set]
theorem st_add (c : Cell) : stSh P S ++ [c.sh P.length] = stSh P (S ++ [c]) := by
  unfold stSh
  rw [List.map_append, List.append_assoc]
  rfl
theorem seq_sh (d : D) : seqOf (stSh P S) (d.sh P.length) = (seqOf S d).map (shL P.length) := by
  cases d with
  | ref n =>
    simp only [D.sh, seqOf, st_get]
    cases S[n]? with
    | none => rfl
    | some c => cases c <;> rfl
  | _ => rfl
theorem seqM_sh (d : D) : seqM (stSh P S) (d.sh P.length) = (seqM S d).map (shL P.length) := by
  cases d with
  | ref n =>
    simp only [D.sh, seqM, st_get]
    cases S[n]? with
    | none => rfl
    | some c => cases c <;> rfl
  | _ => rfl
theorem seqT_sh (d : D) : seqT (stSh P S) (d.sh P.length) = (seqT S d).map (shL P.length) := by
  cases d with
  | tup ds => rfl
  | ref n => exact seq_sh (.ref n)
  | lst ds => rfl
  | rol ds => rfl
  | _ => rfl
theorem pyL_sh {f f' : D → Option PyData} (h : ∀ d, f' (d.sh k) = f d) : ∀ ds : List D, pyL f' (shL k ds) = pyL f ds
  | [] => rfl
  | d :: ds => by rw [shL, pyL, pyL, h, pyL_sh h ds]
theorem py_sh : ∀ (n : Nat) (d : D), py n (stSh P S) (d.sh P.length) = py n S d
  | 0, _ => rfl
  | n + 1, d => by
    have ih := pyL_sh (f := py n S) (f' := py n (stSh P S)) (k := P.length) fun d => py_sh n d
    cases d with
    | ref m =>
      simp only [D.sh, py, st_get]
      cases S[m]? with
      | none => rfl
      | some c =>
        cases c with
        | lst ds => simp only [Option.map_some, Cell.sh, ih]
        | dead => rfl
    | tup ds => simp only [D.sh, py, ih]
    | lst ds => simp only [D.sh, py, ih]
    | rol ds => simp only [D.sh, py, ih]
    | _ => rfl
mutual
theorem D.sh_beq (k : Nat) : ∀ a b : D, (a.sh k).beq (b.sh k) = a.beq b
  | .non, b => by cases b <;> rfl
  | .bl x, b => by cases b <;> rfl
  | .int x, b => by cases b <;> rfl
  | .str x, b => by cases b <;> rfl
  | .ty x, b => by cases b <;> rfl
  | .gl x, b => by cases b <;> rfl
  | .dc0, b => by cases b <;> rfl
  | .rng _ _, b => by cases b <;> rfl
  | .ref n, b => by
    cases b with
    | ref m =>
      show (n + k == m + k) = (n == m)
      rw [Bool.eq_iff_iff]; simp
    | _ => rfl
  | .tup x, b => by cases b with | tup y => exact shL_beq k x y | _ => rfl
  | .lst x, b => by cases b with | lst y => exact shL_beq k x y | _ => rfl
  | .rol x, b => by cases b with | rol y => exact shL_beq k x y | _ => rfl
  | .dct a x, b => by
    cases b with
    | dct c y => show (decide (a = c) && beqL (shL k x) (shL k y)) = (decide (a = c) && beqL x y); rw [shL_beq k x y]
    | _ => rfl
  | .xo c ns x, b => by
    cases b with
    | xo c' ns' y => show (c == c' && ns == ns' && beqL (shL k x) (shL k y)) = (c == c' && ns == ns' && beqL x y); rw [shL_beq k x y]
    | _ => rfl
theorem shL_beq (k : Nat) : ∀ a b : List D, beqL (shL k a) (shL k b) = beqL a b
  | [], [] => rfl
  | [], _ :: _ => rfl
  | _ :: _, [] => rfl
  | x :: a, y :: b => by show ((x.sh k).beq (y.sh k) && beqL (shL k a) (shL k b)) = (x.beq y && beqL a b); rw [D.sh_beq k x y, shL_beq k a b]
end
theorem live_sh (c : Src) : (HSh.sh P.length c : Src).live (stSh P S) = c.live S := by
  show ((c.deps.map fun p => (p.1 + P.length, shL P.length p.2)).all _) = _
  rw [List.all_map]
  unfold Src.live
  congr 1
  funext p
  show (match (stSh P S)[p.1 + P.length]? with | some (.lst ds) => beqL ds (shL P.length p.2) | _ => false) = _
  rw [st_get]
  cases S[p.1]? with
  | none => rfl
  | some c =>
    cases c with
    | lst ds => exact shL_beq _ _ _
    | dead => rfl
theorem bind_sh {α β : Type} [HSh α] [HSh β] {r r' : R α} {f f' : α → Sto → R β} (h : r' = r.sh P) (hf : ∀ a S, f' (HSh.sh P.length a) (stSh P S) = (f a S).sh P) : r'.bind f' = (r.bind f).sh P := by
  subst h
  cases r with
  | ok a S => exact hf a S
  | ex x S => rfl
  | no => rfl
theorem bindS_sh {α : Type} [HSh α] {r r' : R α} {ev : Ev} {f f' : α → Sto → RS} (h : r' = r.sh P) (hf : ∀ a S, f' (HSh.sh P.length a) (stSh P S) = (f a S).sh P) : bindS r' (HSh.sh P.length ev) f' = (bindS r ev f).sh P := by
  subst h
  cases r with
  | ok a S => exact hf a S
  | ex x S => rfl
  | no => rfl
end
class RL {α : Type} [HSh α] (m : M α) : Prop where
  rl : ∀ (P : Sto) (ev : Ev) (S : Sto), m (HSh.sh P.length ev) (stSh P S) = (m ev S).sh P
class RP1 (p : P1) : Prop where
  rl : ∀ (P : Sto) (x : D) (S : Sto), p (x.sh P.length) (stSh P S) = (p x S).sh P
class RP2 (p : P2) : Prop where
  rl : ∀ (P : Sto) (x y : D) (S : Sto), p (x.sh P.length) (y.sh P.length) (stSh P S) = (p x y S).sh P
class RPL (p : List D → Sto → R D) : Prop where
  rl : ∀ (P : Sto) (x : List D) (S : Sto), p (shL P.length x) (stSh P S) = (p x S).sh P
class RPM (p : PM) : Prop where
  rl : ∀ (P : Sto) (x : D) (y : List D) (S : Sto), p (x.sh P.length) (shL P.length y) (stSh P S) = (p x y S).sh P
class RMS (m : MS) : Prop where
  rl : ∀ (P : Sto) (ev : Ev) (S : Sto), m (HSh.sh P.length ev) (stSh P S) = (m ev S).sh P
class RTg (t : D → M Ev) : Prop where
  rl : ∀ (P : Sto) (d : D) (ev : Ev) (S : Sto), t (d.sh P.length) (HSh.sh P.length ev) (stSh P S) = (t d ev S).sh P
class RTs (t : List D → M Ev) : Prop where
  rl : ∀ (P : Sto) (d : List D) (ev : Ev) (S : Sto), t (shL P.length d) (HSh.sh P.length ev) (stSh P S) = (t d ev S).sh P
/-- a constant without places -/
class NoRef (d : D) : Prop where
  nr : ∀ k, d.sh k = d
section
variable {P S : Sto}
instance : NoRef .non := ⟨fun _ => rfl⟩
instance (b : Bool) : NoRef (.bl b) := ⟨fun _ => rfl⟩
instance (b : Int) : NoRef (.int b) := ⟨fun _ => rfl⟩
instance (b : Str) : NoRef (.str b) := ⟨fun _ => rfl⟩
instance (b : String) : NoRef (.ty b) := ⟨fun _ => rfl⟩
instance (b : Str) : NoRef (.gl b) := ⟨fun _ => rfl⟩
instance : NoRef .dc0 := ⟨fun _ => rfl⟩
theorem ev_get (ev : Ev) (k i : Nat) : (HSh.sh k ev : Ev)[i]? = ev[i]?.map (·.map (D.sh k)) := by
  show (ev.map _)[i]? = _
  rw [List.getElem?_map]
theorem ev_set (ev : Ev) (k i : Nat) (d : D) : (HSh.sh k ev : Ev).set i (some (d.sh k)) = (HSh.sh k (ev.set i (some d)) : Ev) := by
  show (ev.map _).set i _ = (ev.set i (some d)).map _
  rw [List.map_set]
  rfl
theorem ev_setN (ev : Ev) (k i : Nat) : (HSh.sh k ev : Ev).set i none = (HSh.sh k (ev.set i none) : Ev) := by
  show (ev.map _).set i _ = (ev.set i none).map _
  rw [List.map_set]
  rfl
theorem mkL_sh (nw : Bool) (ds : List D) : mkL nw (shL P.length ds) (stSh P S) = (mkL nw ds S).sh P := by
  unfold mkL
  split
  · show R.ok (D.ref (stSh P S).length) (stSh P S ++ [Cell.lst (shL P.length ds)]) = R.ok (D.ref (S.length + P.length)) (stSh P (S ++ [Cell.lst ds]))
    rw [st_len, ← st_add]
    rfl
  · rfl
instance rl_var (i : Nat) : RL (mVar i) := ⟨fun P ev S => by
  unfold mVar
  rw [ev_get]
  cases ev[i]? with
  | none => rfl
  | some o =>
    cases o with
    | none => rfl
    | some d => cases d <;> rfl⟩
instance rl_const (d : D) [h : NoRef d] : RL (mC d) := ⟨fun P ev S => by
  show R.ok d (stSh P S) = R.ok (d.sh P.length) (stSh P S)
  rw [h.nr]⟩
instance rl_m2 (p : P2) (a b : M D) [hp : RP2 p] [ha : RL a] [hb : RL b] : RL (m2 p a b) := ⟨fun P ev S => bind_sh (ha.rl P ev S) fun x S1 => bind_sh (hb.rl P ev S1) fun y S2 => hp.rl P x y S2⟩
instance rl_m1 (p : P1) (a : M D) [hp : RP1 p] [ha : RL a] : RL (m1 p a) := ⟨fun P ev S => bind_sh (ha.rl P ev S) fun x S1 => hp.rl P x S1⟩
theorem asB_sh (d : D) : asB (d.sh P.length) (stSh P S) = (asB d S).sh P := by cases d <;> rfl
instance rl_mT (a : M D) [ha : RL a] : RL (mT a) := ⟨fun P ev S => bind_sh (ha.rl P ev S) fun x S1 => asB_sh x⟩
theorem asTr_sh (d : D) : asTr (d.sh P.length) (stSh P S) = (asTr d S).sh P := by
  have gen : ∀ d : D, (match seqOf (stSh P S) (d.sh P.length) with | some ds => R.ok (!ds.isEmpty) (stSh P S) | none => .no) = R.sh P (match seqOf S d with | some ds => R.ok (!ds.isEmpty) S | none => .no) := fun d => by
    rw [seq_sh]
    cases seqOf S d with
    | none => rfl
    | some ds => cases ds <;> rfl
  cases d with
  | str x => unfold asTr D.sh; simp only []; split <;> rfl
  | tup ds => cases ds <;> rfl
  | lst ds => exact gen (.lst ds)
  | rol ds => exact gen (.rol ds)
  | ref n => exact gen (.ref n)
  | _ => rfl
instance rl_mTr (a : M D) [ha : RL a] : RL (mTr a) := ⟨fun P ev S => bind_sh (ha.rl P ev S) fun x S1 => asTr_sh x⟩
instance rl_and (a b : M D) [ha : RL a] [hb : RL b] : RL (mAnd a b) := ⟨fun P ev S => bind_sh (ha.rl P ev S) fun x S1 => by
  cases x with
  | bl t => cases t
            · rfl
            · exact hb.rl P ev S1
  | _ => rfl⟩
instance rl_or (a b : M D) [ha : RL a] [hb : RL b] : RL (mOr a b) := ⟨fun P ev S => bind_sh (ha.rl P ev S) fun x S1 => by
  cases x with
  | bl t => cases t
            · exact hb.rl P ev S1
            · rfl
  | _ => rfl⟩
instance rl_tand (a b : M Bool) [ha : RL a] [hb : RL b] : RL (tAndM a b) := ⟨fun P ev S => bind_sh (ha.rl P ev S) fun x S1 => by cases x; exact rfl; exact hb.rl P ev S1⟩
instance rl_tor (a b : M Bool) [ha : RL a] [hb : RL b] : RL (tOrM a b) := ⟨fun P ev S => bind_sh (ha.rl P ev S) fun x S1 => by cases x; exact hb.rl P ev S1; exact rfl⟩
instance rl_tnot (a : M Bool) [ha : RL a] : RL (tNotM a) := ⟨fun P ev S => bind_sh (ha.rl P ev S) fun x S1 => rfl⟩
instance rl_if {α : Type} [HSh α] (t : M Bool) (a b : M α) [ht : RL t] [ha : RL a] [hb : RL b] : RL (mIf t a b) := ⟨fun P ev S => bind_sh (ht.rl P ev S) fun x S1 => by cases x; exact hb.rl P ev S1; exact ha.rl P ev S1⟩
instance rl_nil : RL mNil := ⟨fun P ev S => rfl⟩
instance rl_cons (a : M D) (l : M (List D)) [ha : RL a] [hl : RL l] : RL (mCons a l) := ⟨fun P ev S => bind_sh (ha.rl P ev S) fun x S1 => bind_sh (hl.rl P ev S1) fun xs S2 => rfl⟩
instance rl_mL (p : List D → Sto → R D) (l : M (List D)) [hp : RPL p] [hl : RL l] : RL (mL p l) := ⟨fun P ev S => bind_sh (hl.rl P ev S) fun x S1 => hp.rl P x S1⟩
instance rl_oNone : RL oNone := ⟨fun P ev S => rfl⟩
theorem asI_sh (d : D) : asI (d.sh P.length) (stSh P S) = (asI d S).sh P := by cases d <;> rfl
instance rl_oSome (a : M D) [ha : RL a] : RL (oSome a) := ⟨fun P ev S => bind_sh (ha.rl P ev S) fun x S1 => asI_sh x⟩
theorem cutD_sh (ds : List D) (lo hi : Option Int) (k : Nat) : cutD (shL k ds) lo hi = shL k (cutD ds lo hi) := by
  rw [shL_map, shL_map]
  unfold cutD
  rw [List.length_map, ← List.map_drop, ← List.map_take]
theorem pslice_sh (nw : Bool) (x : D) (lo hi : Option Int) : pslice nw (x.sh P.length) lo hi (stSh P S) = (pslice nw x lo hi S).sh P := by
  have gen : ∀ d : D, (match seqOf (stSh P S) (d.sh P.length) with | some ds => mkL nw (cutD ds lo hi) (stSh P S) | none => .no) = R.sh P (match seqOf S d with | some ds => mkL nw (cutD ds lo hi) S | none => .no) := fun d => by
    rw [seq_sh]
    cases seqOf S d with
    | none => rfl
    | some ds => simp only [Option.map_some]; rw [cutD_sh, mkL_sh]
  cases x with
  | str z => unfold pslice D.sh; simp only []; split <;> rfl
  | tup ds =>
    show R.ok (D.tup (cutD (shL P.length ds) lo hi)) _ = R.ok (D.tup (shL P.length (cutD ds lo hi))) _
    rw [cutD_sh]
  | lst ds => exact gen (.lst ds)
  | rol ds => exact gen (.rol ds)
  | ref n => exact gen (.ref n)
  | _ => rfl
instance rl_mSl (nw : Bool) (a : M D) (l h : M (Option Int)) [ha : RL a] [hl : RL l] [hh : RL h] : RL (mSl nw a l h) := ⟨fun P ev S => bind_sh (ha.rl P ev S) fun x S1 => bind_sh (hl.rl P ev S1) fun lo S2 => bind_sh (hh.rl P ev S2) fun hi S3 => pslice_sh nw x lo hi⟩
/-! ### what is walked -/
theorem drawn_sh (d : D) : drawn (stSh P S) (d.sh P.length) = (drawn S d).map (HSh.sh P.length) := by
  cases d with
  | str z =>
    show some (Src.mk _ _) = some (Src.mk _ _)
    congr 1
    congr 1
    rw [shL_map, List.map_map]
    rfl
  | ref n =>
    simp only [D.sh, drawn, st_get]
    cases S[n]? with
    | none => rfl
    | some c => cases c <;> rfl
  | _ => rfl
theorem asSrc_sh (d : D) : asSrc (d.sh P.length) (stSh P S) = (asSrc d S).sh P := by
  unfold asSrc
  rw [drawn_sh]
  cases drawn S d <;> rfl
instance rl_src (a : M D) [ha : RL a] : RL (mSrc a) := ⟨fun P ev S => bind_sh (ha.rl P ev S) fun x S1 => asSrc_sh x⟩
theorem rangeD_sh (lo : Int) (n k : Nat) : shL k (rangeD lo n) = rangeD lo n := by
  unfold rangeD
  rw [shL_map, List.map_map]
  rfl
theorem asRngV_sh (d : D) : asRngV (d.sh P.length) (stSh P S) = (asRngV d S).sh P := by
  cases d with
  | rng i j =>
    simp only [D.sh, asRngV]
    split
    · show R.ok (Src.mk _ _) _ = R.ok (Src.mk (shL P.length _) _) _
      rw [rangeD_sh]
      rfl
    · rfl
  | _ => rfl
instance rl_rngV (a : M D) [ha : RL a] : RL (mRng a) := ⟨fun P ev S => bind_sh (ha.rl P ev S) fun x S1 => asRngV_sh x⟩
theorem asRange1_sh (d : List D) : asRange1 (shL P.length d) (stSh P S) = (asRange1 d S).sh P := by
  match d with
  | [] => rfl
  | [.int j] =>
    show (if inR j then R.ok (Src.mk (rangeD 0 j.toNat) []) (stSh P S) else .no) = R.sh P (if inR j then R.ok (Src.mk (rangeD 0 j.toNat) []) S else .no)
    split
    · show R.ok (Src.mk _ _) _ = R.ok (Src.mk (shL P.length _) _) _
      rw [rangeD_sh]
      rfl
    · rfl
  | [.non] => rfl | [.bl _] => rfl | [.str _] => rfl | [.ty _] => rfl | [.gl _] => rfl | [.tup _] => rfl | [.lst _] => rfl | [.rol _] => rfl | [.ref _] => rfl | [.dc0] => rfl | [.xo _ _ _] => rfl | [.rng _ _] => rfl | [.dct _ _] => rfl
  | x :: _ :: _ => cases x <;> rfl
instance rl_range1 (l : M (List D)) [hl : RL l] : RL (mRange1 l) := ⟨fun P ev S => bind_sh (hl.rl P ev S) fun x S1 => asRange1_sh x⟩
theorem asRange2_sh (d : List D) : asRange2 (shL P.length d) (stSh P S) = (asRange2 d S).sh P := by
  match d with
  | [] => rfl
  | [x] => cases x <;> rfl
  | [x, y] =>
    cases x with
    | int i =>
      cases y with
      | int j =>
        show (if inR i ∧ inR j then R.ok (Src.mk (rangeD i (j - i).toNat) []) (stSh P S) else .no) = R.sh P (if inR i ∧ inR j then R.ok (Src.mk (rangeD i (j - i).toNat) []) S else .no)
        split
        · show R.ok (Src.mk _ _) _ = R.ok (Src.mk (shL P.length _) _) _
          rw [rangeD_sh]
          rfl
        · rfl
      | _ => rfl
    | _ => rfl
  | x :: y :: z :: r => cases x <;> first | rfl | (cases y <;> rfl)
instance rl_range2 (l : M (List D)) [hl : RL l] : RL (mRange2 l) := ⟨fun P ev S => bind_sh (hl.rl P ev S) fun x S1 => asRange2_sh x⟩
theorem enumD_sh (k : Nat) : ∀ (ds : List D) (n : Nat), enumD n (shL k ds) = shL k (enumD n ds)
  | [], _ => rfl
  | d :: ds, n => by
    show D.tup [.int n, d.sh k] :: enumD (n + 1) (shL k ds) = D.tup [.int n, d.sh k] :: shL k (enumD (n + 1) ds)
    rw [enumD_sh k ds]
theorem zipD_sh (k : Nat) : ∀ (a b : List D), zipD (shL k a) (shL k b) = shL k (zipD a b)
  | [], [] => rfl
  | [], _ :: _ => rfl
  | _ :: _, [] => rfl
  | x :: a, y :: b => by
    show D.tup [x.sh k, y.sh k] :: zipD (shL k a) (shL k b) = D.tup [x.sh k, y.sh k] :: shL k (zipD a b)
    rw [zipD_sh k a b]
theorem asEnum_sh (d : List D) : asEnum (shL P.length d) (stSh P S) = (asEnum d S).sh P := by
  match d with
  | [] => rfl
  | [x] =>
    show (match drawn (stSh P S) (x.sh P.length) with | some c => R.ok (Src.mk (enumD 0 c.items) c.deps) (stSh P S) | none => .no) = R.sh P (match drawn S x with | some c => R.ok (Src.mk (enumD 0 c.items) c.deps) S | none => .no)
    rw [drawn_sh]
    cases drawn S x with
    | none => rfl
    | some c =>
      show R.ok (Src.mk (enumD 0 (shL P.length c.items)) _) _ = R.ok (Src.mk (shL P.length (enumD 0 c.items)) _) _
      rw [enumD_sh]
      rfl
  | _ :: _ :: _ => rfl
instance rl_enum (l : M (List D)) [hl : RL l] : RL (mEnum l) := ⟨fun P ev S => bind_sh (hl.rl P ev S) fun x S1 => asEnum_sh x⟩
theorem asZip_sh (d : List D) : asZip (shL P.length d) (stSh P S) = (asZip d S).sh P := by
  match d with
  | [] => rfl
  | [_] => rfl
  | [x, y] =>
    show (match drawn (stSh P S) (x.sh P.length), drawn (stSh P S) (y.sh P.length) with | some c, some c' => R.ok (Src.mk (zipD c.items c'.items) (c.deps ++ c'.deps)) (stSh P S) | _, _ => .no) =
      R.sh P (match drawn S x, drawn S y with | some c, some c' => R.ok (Src.mk (zipD c.items c'.items) (c.deps ++ c'.deps)) S | _, _ => .no)
    rw [drawn_sh, drawn_sh]
    cases drawn S x with
    | none => rfl
    | some c =>
      cases drawn S y with
      | none => rfl
      | some c' =>
        show R.ok (Src.mk (zipD (shL P.length c.items) (shL P.length c'.items)) _) _ = R.ok (Src.mk (shL P.length (zipD c.items c'.items)) ((c.deps ++ c'.deps).map _)) _
        rw [zipD_sh, List.map_append]
        rfl
  | _ :: _ :: _ :: _ => rfl
instance rl_zip (l : M (List D)) [hl : RL l] : RL (mZip l) := ⟨fun P ev S => bind_sh (hl.rl P ev S) fun x S1 => asZip_sh x⟩
/-! ### targets -/
instance rt_n (i : Nat) : RTg (tgN i) := ⟨fun P d ev S => by
  show R.ok ((HSh.sh P.length ev : Ev).set i (some (d.sh P.length))) _ = R.ok (HSh.sh P.length (ev.set i (some d))) _
  rw [ev_set]⟩
instance rts_nil : RTs tgNil := ⟨fun P d ev S => by cases d <;> rfl⟩
instance rts_cons (t : D → M Ev) (u : List D → M Ev) [ht : RTg t] [hu : RTs u] : RTs (tgCons t u) := ⟨fun P d ev S => by
  cases d with
  | nil => rfl
  | cons d r => exact bind_sh (ht.rl P d ev S) fun e S1 => hu.rl P r e S1⟩
instance rt_t (n : Nat) (u : List D → M Ev) [hu : RTs u] : RTg (tgT n u) := ⟨fun P d ev S => by
  cases d with
  | tup ds =>
    show (if (shL P.length ds).length = n then u (shL P.length ds) _ _ else .no) = R.sh P (if ds.length = n then u ds ev S else .no)
    rw [shL_len]
    split
    · exact hu.rl P ds ev S
    · rfl
  | _ => rfl⟩
/-! ### calls -/
instance rl_call (n : Nat) (m : List D → Sto → R D) (l : M (List D)) [hm : RPL m] [hl : RL l] : RL (mCall n m l) := ⟨fun P ev S => bind_sh (hl.rl P ev S) fun x S1 => by
  show (if (shL P.length x).length = n then m (shL P.length x) (stSh P S1) else .no) = R.sh P (if x.length = n then m x S1 else .no)
  rw [shL_len]
  split
  · exact hm.rl P x S1
  · rfl⟩
instance rl_call0 (m : List D → Sto → R D) [hm : RPL m] : RL (fun (_ : Ev) S => m [] S) := ⟨fun P ev S => hm.rl P [] S⟩
instance rl_mkNil : RL (fun (_ : Ev) S => (.ok [] S : R (List D))) := ⟨fun P ev S => rfl⟩
instance rl_mkCons (a : M D) (l : M (List D)) [ha : RL a] [hl : RL l] : RL (fun ev S => (a ev S).bind fun d S1 => (l ev S1).bind fun ds S2 => .ok (d :: ds) S2) := ⟨fun P ev S => bind_sh (ha.rl P ev S) fun x S1 => bind_sh (hl.rl P ev S1) fun xs S2 => rfl⟩
theorem permL_sh (q : List Nat) (ds : List D) (k : Nat) : permL q (shL k ds) = shL k (permL q ds) := by
  rw [shL_map, shL_map]
  unfold permL
  rw [List.map_filterMap]
  refine fm_congr fun i _ => ?_
  rw [List.getElem?_map]
instance rl_callK (a b : Nat) (q : List Nat) (m : List D → Sto → R D) (l mk : M (List D)) [hm : RPL m] [hl : RL l] [hk : RL mk] : RL (mCallK a b q m l mk) := ⟨fun P ev S => bind_sh (hl.rl P ev S) fun x S1 => bind_sh (hk.rl P ev S1) fun z S2 => by
  show (if (shL P.length x).length = a ∧ (shL P.length z).length = b then m (permL q (shL P.length x ++ shL P.length z)) (stSh P S2) else .no) = R.sh P (if x.length = a ∧ z.length = b then m (permL q (x ++ z)) S2 else .no)
  rw [shL_len, shL_len]
  split
  · rw [← shL_app, permL_sh]
    exact hm.rl P _ S2
  · rfl⟩
class RTy (t : Sto → D → Bool) : Prop where
  rl : ∀ (P S : Sto) (d : D), t (stSh P S) (d.sh P.length) = t S d
instance : RTy isSeq := ⟨fun P S d => by unfold isSeq; rw [seq_sh]; cases seqOf S d <;> rfl⟩
instance : RTy isStr := ⟨fun P S d => by cases d <;> rfl⟩
instance rl_me (t : Sto → D → Bool) (p : PM) (o : M D) (l : M (List D)) [ht : RTy t] [hp : RPM p] [ho : RL o] [hl : RL l] : RL (mMe t p o l) := ⟨fun P ev S => bind_sh (ho.rl P ev S) fun x S1 => by
  show (if t (stSh P S1) (x.sh P.length) = true then _ else .no) = R.sh P (if t S1 x = true then _ else .no)
  rw [ht.rl]
  split
  · exact bind_sh (hl.rl P ev S1) fun y S2 => hp.rl P x y S2
  · rfl⟩
/-! ### comprehensions -/
theorem noEx_sh {α : Type} [HSh α] {r r' : R α} (h : r' = r.sh P) : noEx r' = (noEx r).sh P := by subst h; cases r <;> rfl
theorem lcL_sh {tg : D → M Ev} {cond : M Bool} {el : M D} [ht : RTg tg] [hc : RL cond] [he : RL el] (ev : Ev) (c : Src) : ∀ (ds acc : List D) (S : Sto), lcL tg cond el (HSh.sh P.length ev) (HSh.sh P.length c) (shL P.length ds) (shL P.length acc) (stSh P S) = (lcL tg cond el ev c ds acc S).sh P
  | [], acc, S => by
    show (if (HSh.sh P.length c : Src).live (stSh P S) = true then R.ok (shL P.length acc) (stSh P S) else .no) = R.sh P (if c.live S = true then .ok acc S else .no)
    rw [live_sh]
    split <;> rfl
  | d :: ds, acc, S => by
    rw [shL]
    unfold lcL
    rw [live_sh]
    split
    · refine bind_sh (ht.rl P d ev S) fun e S2 => bind_sh (hc.rl P e S2) fun b S3 => ?_
      cases b with
      | false => exact lcL_sh ev c ds acc S3
      | true =>
        refine bind_sh (he.rl P e S3) fun y S4 => ?_
        rw [shL_len]
        split
        · have q : shL P.length acc ++ [y.sh P.length] = shL P.length (acc ++ [y]) := by rw [shL_app]; rfl
          show lcL tg cond el _ _ (shL P.length ds) (shL P.length acc ++ [y.sh P.length]) (stSh P S4) = _
          rw [q]
          exact lcL_sh ev c ds (acc ++ [y]) S4
        · rfl
    · rfl
class REv (f : Ev → Ev) : Prop where
  rl : ∀ (k : Nat) (ev : Ev), f (HSh.sh k ev) = HSh.sh k (f ev)
instance : REv id := ⟨fun _ _ => rfl⟩
instance : REv (id : Ev → Ev) := ⟨fun _ _ => rfl⟩
instance rev_noX : REv evNoX := ⟨fun k ev => by
  show (ev.map _).map noXo = (ev.map noXo).map _
  rw [List.map_map, List.map_map]
  congr 1
  funext o
  cases o with
  | none => rfl
  | some d => cases d <;> rfl⟩
theorem evWipe_sh (k : Nat) (ev : Ev) : ∀ vs : List Nat, evWipe (HSh.sh k ev) vs = HSh.sh k (evWipe ev vs)
  | [] => rfl
  | v :: vs => by
    show (evWipe (HSh.sh k ev) vs).set v none = HSh.sh k ((evWipe ev vs).set v none)
    rw [evWipe_sh k ev vs, ev_setN]
instance rl_lc (nw : Bool) (own : List Nat) (fe : Ev → Ev) (mi : M Src) (tg : D → M Ev) (cond : M Bool) (el : M D) [hf : REv fe] [hi : RL mi] [ht : RTg tg] [hc : RL cond] [he : RL el] : RL (mLc nw own fe mi tg cond el) := ⟨fun P ev S => bind_sh (hi.rl P ev S) fun c S1 => by
  rw [hf.rl, evWipe_sh]
  refine bind_sh (noEx_sh (lcL_sh (P := P) (evWipe (fe ev) own) c c.items [] S1)) fun acc S2 => mkL_sh nw acc⟩
instance rl_yes : RL mYes := ⟨fun P ev S => rfl⟩
/-! ### statements -/
theorem seqS_sh {r r' : RS} {f : MS} [hf : RMS f] (h : r' = r.sh P) : seqS r' f = (seqS r f).sh P := by
  subst h
  cases r with
  | ok fl ev S => cases fl <;> first | exact hf.rl P ev S | rfl
  | ex x ev S => rfl
  | no => rfl
instance rs_nil : RMS sNil := ⟨fun P ev S => rfl⟩
instance rs_cons (a b : MS) [ha : RMS a] [hb : RMS b] : RMS (sCons a b) := ⟨fun P ev S => seqS_sh (ha.rl P ev S)⟩
instance rs_bk : RMS sBk := ⟨fun P ev S => rfl⟩
instance rs_ct : RMS sCt := ⟨fun P ev S => rfl⟩
instance rs_expr (a : M D) [ha : RL a] : RMS (sExpr a) := ⟨fun P ev S => bindS_sh (ha.rl P ev S) fun x S1 => rfl⟩
instance rs_ret (a : M D) [ha : RL a] : RMS (sRet a) := ⟨fun P ev S => bindS_sh (ha.rl P ev S) fun x S1 => rfl⟩
instance rs_retN : RMS sRetN := ⟨fun P ev S => rfl⟩
instance rs_set (i : Nat) (a : M D) [ha : RL a] : RMS (sSet i a) := ⟨fun P ev S => bindS_sh (ha.rl P ev S) fun x S1 => by
  show RS.ok .nx ((HSh.sh P.length ev : Ev).set i (some (x.sh P.length))) _ = RS.ok .nx (HSh.sh P.length (ev.set i (some x))) _
  rw [ev_set]⟩
instance rs_asg (t : D → M Ev) (a : M D) [ht : RTg t] [ha : RL a] : RMS (sAsg t a) := ⟨fun P ev S => bindS_sh (ha.rl P ev S) fun x S1 => bindS_sh (noEx_sh (ht.rl P x ev S1)) fun e S2 => rfl⟩
theorem par2_sh (i j : Nat) (ev : Ev) (ds : List D) : par2 i j (HSh.sh P.length ev) (shL P.length ds) (stSh P S) = (par2 i j ev ds S).sh P := by
  match ds with
  | [] => rfl
  | [_] => rfl
  | [x, y] =>
    show RS.ok .nx (((HSh.sh P.length ev : Ev).set i (some (x.sh P.length))).set j (some (y.sh P.length))) _ = RS.ok .nx (HSh.sh P.length ((ev.set i (some x)).set j (some y))) _
    rw [ev_set, ev_set]
  | _ :: _ :: _ :: _ => rfl
instance rs_par (i j : Nat) (l : M (List D)) [hl : RL l] : RMS (sPar i j l) := ⟨fun P ev S => bindS_sh (hl.rl P ev S) fun x S1 => par2_sh i j ev x⟩
theorem par3_sh (i j l : Nat) (ev : Ev) (ds : List D) : par3 i j l (HSh.sh P.length ev) (shL P.length ds) (stSh P S) = (par3 i j l ev ds S).sh P := by
  match ds with
  | [] => rfl
  | [_] => rfl
  | [_, _] => rfl
  | [x, y, z] =>
    show RS.ok .nx ((((HSh.sh P.length ev : Ev).set i (some (x.sh P.length))).set j (some (y.sh P.length))).set l (some (z.sh P.length))) _ = RS.ok .nx (HSh.sh P.length (((ev.set i (some x)).set j (some y)).set l (some z))) _
    rw [ev_set, ev_set, ev_set]
  | _ :: _ :: _ :: _ :: _ => rfl
instance rs_par3 (i j k : Nat) (l : M (List D)) [hl : RL l] : RMS (sPar3 i j k l) := ⟨fun P ev S => bindS_sh (hl.rl P ev S) fun x S1 => par3_sh i j k ev x⟩
instance rs_if (t : M Bool) (a b : MS) [ht : RL t] [ha : RMS a] [hb : RMS b] : RMS (sIf t a b) := ⟨fun P ev S => bindS_sh (ht.rl P ev S) fun x S1 => by cases x; exact hb.rl P ev S1; exact ha.rl P ev S1⟩
theorem loopS_sh {r r' : RS} {f f' : MS} (h : r' = r.sh P) (hf : ∀ ev S, f' (HSh.sh P.length ev) (stSh P S) = (f ev S).sh P) : loopS r' f' = (loopS r f).sh P := by
  subst h
  cases r with
  | ok fl ev S => cases fl <;> first | exact hf ev S | rfl
  | ex x ev S => rfl
  | no => rfl
theorem forL_sh {tg : D → M Ev} {body : MS} [ht : RTg tg] [hb : RMS body] (c : Src) : ∀ (ds : List D) (ev : Ev) (S : Sto), forL tg body (HSh.sh P.length c) (shL P.length ds) (HSh.sh P.length ev) (stSh P S) = (forL tg body c ds ev S).sh P
  | [], ev, S => by
    show (if (HSh.sh P.length c : Src).live (stSh P S) = true then RS.ok .nx (HSh.sh P.length ev) (stSh P S) else .no) = RS.sh P (if c.live S = true then .ok .nx ev S else .no)
    rw [live_sh]
    split <;> rfl
  | d :: ds, ev, S => by
    rw [shL]
    unfold forL
    rw [live_sh]
    split
    · exact loopS_sh (bindS_sh (noEx_sh (ht.rl P d ev S)) fun e S2 => hb.rl P e S2) fun ev S => forL_sh c ds ev S
    · rfl
instance rs_for (mi : M Src) (tg : D → M Ev) (body : MS) [hi : RL mi] [ht : RTg tg] [hb : RMS body] : RMS (sFor mi tg body) := ⟨fun P ev S => bindS_sh (hi.rl P ev S) fun c S1 => forL_sh c c.items ev S1⟩
theorem whL_sh {t : M Bool} {body : MS} [ht : RL t] [hb : RMS body] : ∀ (n : Nat) (ev : Ev) (S : Sto), whL t body n (HSh.sh P.length ev) (stSh P S) = (whL t body n ev S).sh P
  | 0, ev, S => rfl
  | n + 1, ev, S => bindS_sh (ht.rl P ev S) fun x S1 => by
    cases x
    · rfl
    · exact loopS_sh (hb.rl P ev S1) fun ev S => whL_sh n ev S
instance rs_wh (t : M Bool) (body : MS) (n : Nat) [ht : RL t] [hb : RMS body] : RMS (whL t body n) := ⟨fun P ev S => whL_sh n ev S⟩
instance rs_dead : RMS sDead := ⟨fun P ev S => rfl⟩
instance rs_raise (cx fld : Str) (l : M (List D)) [hl : RL l] : RMS (sRaise cx fld l) := ⟨fun P ev S => bindS_sh (hl.rl P ev S) fun x S1 => by
  match x with
  | [] => rfl
  | [_] => rfl
  | _ :: _ :: _ => rfl⟩
theorem startD_sh (n k : Nat) (ds : List D) : startD n (shL k ds) = HSh.sh k (startD n ds) := by
  show (shL k ds).map some ++ List.replicate (n - (shL k ds).length) none = (ds.map some ++ List.replicate (n - ds.length) none).map _
  rw [shL_len, List.map_append, List.map_replicate, shL_map, List.map_map, List.map_map]
  rfl
theorem endS_sh {r r' : RS} (h : r' = r.sh P) : endS r' = (endS r).sh P := by
  subst h
  cases r with
  | ok fl ev S => cases fl <;> rfl
  | ex x ev S => rfl
  | no => rfl
instance rpl_def (n : Nat) (b : MS) [hb : RMS b] : RPL (mDef n b) := ⟨fun P ds S => by
  show endS (b (startD n (shL P.length ds)) (stSh P S)) = _
  rw [startD_sh]
  exact endS_sh (hb.rl P _ S)⟩
instance rpl_no : RPL (fun _ _ => R.no) := ⟨fun P ds S => rfl⟩
end
end ML


set_option Elab.async false
set_option linter.all false
set_option maxRecDepth 100000
set_option autoImplicit false
set_option maxHeartbeats 4000000
/-! .. the operations -/
namespace ML
open PySem PySem.Spec PyProof.Rows L2
section
variable {P S : Sto}
theorem if_sh {α : Type} [HSh α] {c : Prop} [Decidable c] {a a' b b' : R α} (h : a' = a.sh P) (k : b' = b.sh P) : (if c then a' else b') = R.sh P (if c then a else b) := by split <;> assumption
instance : RP2 psub := ⟨fun P x y S => by cases x <;> first | rfl | (cases y <;> rfl)⟩
instance (f : Int → Int → Bool) : RP2 (pcmp f) := ⟨fun P x y S => by cases x <;> first | rfl | (cases y <;> rfl)⟩
instance : RP2 pfdiv := ⟨fun P x y S => by cases x <;> first | rfl | (cases y <;> first | rfl | exact if_sh rfl rfl)⟩
instance : RP2 pmod := ⟨fun P x y S => by cases x <;> first | rfl | (cases y <;> first | rfl | exact if_sh rfl rfl)⟩
instance : RP2 ppow := ⟨fun P x y S => by cases x <;> first | rfl | (cases y <;> first | rfl | exact if_sh rfl rfl)⟩
instance : RP1 pneg := ⟨fun P x S => by cases x <;> rfl⟩
instance : RP1 pnot := ⟨fun P x S => by cases x <;> rfl⟩
instance : RP1 pisN := ⟨fun P x S => by cases x <;> rfl⟩
instance : RP1 pnotN := ⟨fun P x S => by cases x <;> rfl⟩
theorem addM_sh (nw : Bool) (x y : D) : (match seqM (stSh P S) (x.sh P.length), seqM (stSh P S) (y.sh P.length) with
    | some a, some b => if a.length + b.length ≤ 16777216 then mkL nw (a ++ b) (stSh P S) else .no
    | _, _ => .no) = R.sh P (match seqM S x, seqM S y with
    | some a, some b => if a.length + b.length ≤ 16777216 then mkL nw (a ++ b) S else .no
    | _, _ => .no) := by
  rw [seqM_sh, seqM_sh]
  cases seqM S x with
  | none => rfl
  | some a =>
    cases seqM S y with
    | none => rfl
    | some b =>
      simp only [Option.map_some]
      rw [shL_len, shL_len, ← shL_app]
      exact if_sh (mkL_sh nw _) rfl
instance (nw : Bool) : RP2 (padd nw) := ⟨fun P x y S => by
  have g := addM_sh (P := P) (S := S) nw x y
  cases x with
  | int i => cases y <;> first | rfl | exact g
  | str i => cases y <;> first | exact g | exact if_sh rfl rfl
  | tup a =>
    cases y with
    | tup b =>
      show (if (shL P.length a).length + (shL P.length b).length ≤ 16777216 then R.ok (D.tup (shL P.length a ++ shL P.length b)) (stSh P S) else .no) = R.sh P (if a.length + b.length ≤ 16777216 then R.ok (D.tup (a ++ b)) S else .no)
      rw [shL_len, shL_len, ← shL_app]
      exact if_sh rfl rfl
    | _ => exact g
  | _ => exact g⟩
theorem rep_sh (n k : Nat) (a : List D) : (List.replicate n (shL k a)).flatten = shL k (List.replicate n a).flatten := by
  induction n with
  | zero => rfl
  | succ n ih => rw [List.replicate_succ, List.replicate_succ, List.flatten_cons, List.flatten_cons, ih, shL_app]
instance (nw : Bool) : RP2 (pmul nw) := ⟨fun P x y S => by
  have g : ∀ k : Int, (match seqM (stSh P S) (x.sh P.length) with
      | some a => if -(2 ^ 63) ≤ k ∧ k < 2 ^ 63 ∧ a.length * k.toNat ≤ 16777216 then mkL nw (List.replicate k.toNat a).flatten (stSh P S) else .no
      | _ => .no) = R.sh P (match seqM S x with
      | some a => if -(2 ^ 63) ≤ k ∧ k < 2 ^ 63 ∧ a.length * k.toNat ≤ 16777216 then mkL nw (List.replicate k.toNat a).flatten S else .no
      | _ => .no) := fun k => by
    rw [seqM_sh]
    cases seqM S x with
    | none => rfl
    | some a =>
      simp only [Option.map_some]
      rw [shL_len, rep_sh]
      exact if_sh (mkL_sh nw _) rfl
  cases y with
  | int k =>
    cases x with
    | int i => exact if_sh rfl rfl
    | _ => exact g k
  | _ => cases x <;> rfl⟩
theorem eq_sh (b : Bool) (f : Bool → Bool) (x y : D) : (match py deep (stSh P S) (x.sh P.length), py deep (stSh P S) (y.sh P.length) with
    | some a, some c => R.ok (D.bl (f (PyData.eqv a c))) (stSh P S)
    | _, _ => .no) = R.sh P (match py deep S x, py deep S y with
    | some a, some c => R.ok (D.bl (f (PyData.eqv a c))) S
    | _, _ => .no) := by
  rw [py_sh, py_sh]
  cases py deep S x with
  | none => rfl
  | some a => cases py deep S y <;> rfl
instance : RP2 peq := ⟨fun P x y S => by
  have g := eq_sh (P := P) (S := S) true id x y
  cases x with
  | int i => cases y <;> first | rfl | exact g
  | str i => cases y <;> first | rfl | exact g
  | _ => exact g⟩
instance : RP2 pne := ⟨fun P x y S => by
  have g := eq_sh (P := P) (S := S) true not x y
  cases x with
  | int i => cases y <;> first | rfl | exact g
  | str i => cases y <;> first | rfl | exact g
  | _ => exact g⟩
instance : RP2 plt := ⟨fun P x y S => by
  have g : (match py deep (stSh P S) (x.sh P.length), py deep (stSh P S) (y.sh P.length) with
    | some a, some b => if (PySem.W.alike a b && plt.isSome' a) = true then R.ok (D.bl (PySem.W.dataLt a b)) (stSh P S) else .no
    | _, _ => .no) = R.sh P (match py deep S x, py deep S y with
    | some a, some b => if (PySem.W.alike a b && plt.isSome' a) = true then R.ok (D.bl (PySem.W.dataLt a b)) S else .no
    | _, _ => .no) := by
    rw [py_sh, py_sh]
    cases py deep S x with
    | none => rfl
    | some a =>
      cases py deep S y with
      | none => rfl
      | some b => exact if_sh rfl rfl
  cases x with
  | int i => cases y <;> first | rfl | exact g
  | _ => exact g⟩
theorem isIn_sh (x y : D) : isIn (stSh P S) (x.sh P.length) (y.sh P.length) = isIn S x y := by
  have g : (match py deep (stSh P S) (x.sh P.length), py deep (stSh P S) (y.sh P.length) with
    | some a, some (.tuple bs) => some (bs.any fun b => PyData.eqv b a)
    | some a, some (.list bs) => some (bs.any fun b => PyData.eqv b a)
    | _, _ => none) = (match py deep S x, py deep S y with
    | some a, some (.tuple bs) => some (bs.any fun b => PyData.eqv b a)
    | some a, some (.list bs) => some (bs.any fun b => PyData.eqv b a)
    | _, _ => none) := by rw [py_sh, py_sh]
  cases y with
  | str z => cases x <;> rfl
  | _ => exact g
instance : RP2 pin := ⟨fun P x y S => by
  unfold pin
  rw [isIn_sh]
  cases isIn S x y <;> rfl⟩
instance : RP2 pnin := ⟨fun P x y S => by
  unfold pnin
  rw [isIn_sh]
  cases isIn S x y <;> rfl⟩
theorem atD_sh (ds : List D) (i : Int) (k : Nat) : atD (shL k ds) i = (atD ds i).map (D.sh k) := by
  unfold atD
  rw [shL_len]
  cases ixN ds.length i with
  | none => rfl
  | some j => exact shL_get ds j
theorem atm_sh (ds : List D) (i : Int) : (match atD (shL P.length ds) i with | some d => R.ok d (stSh P S) | none => .no) = R.sh P (match atD ds i with | some d => R.ok d S | none => .no) := by
  rw [atD_sh]
  cases atD ds i <;> rfl
instance : RP2 pix := ⟨fun P x y S => by
  cases y with
  | int i =>
    have g : (match seqOf (stSh P S) (x.sh P.length) with | some ds => (match atD ds i with | some d => R.ok d (stSh P S) | none => .no) | none => .no) = R.sh P (match seqOf S x with | some ds => (match atD ds i with | some d => R.ok d S | none => .no) | none => .no) := by
      rw [seq_sh]
      cases seqOf S x with
      | none => rfl
      | some ds => exact atm_sh ds i
    cases x with
    | tup ds => exact atm_sh ds i
    | str z =>
      refine if_sh ?_ rfl
      cases atI z.cps.toList i <;> rfl
    | _ => exact g
  | _ => rfl⟩
instance : RPL ptup := ⟨fun P x S => by
  show (if (shL P.length x).length ≤ 16777216 then R.ok (D.tup (shL P.length x)) (stSh P S) else .no) = R.sh P (if x.length ≤ 16777216 then R.ok (D.tup x) S else .no)
  rw [shL_len]
  exact if_sh rfl rfl⟩
instance (nw : Bool) : RPL (plst nw) := ⟨fun P x S => by
  show (if (shL P.length x).length ≤ 16777216 then mkL nw (shL P.length x) (stSh P S) else .no) = R.sh P (if x.length ≤ 16777216 then mkL nw x S else .no)
  rw [shL_len]
  exact if_sh (mkL_sh nw x) rfl⟩
/-- built-ins of one argument -/
theorem one_sh {p : List D → Sto → R D} {q : D → Sto → R D} (h1 : ∀ x S, p [x] S = q x S) (h0 : ∀ S, p [] S = .no) (h2 : ∀ x y r S, p (x :: y :: r) S = .no) (hq : ∀ (P S : Sto) (x : D), q (x.sh P.length) (stSh P S) = (q x S).sh P) : RPL p := ⟨fun P ds S => by
  match ds with
  | [] => rw [shL, h0, h0]; rfl
  | [x] => rw [shL, shL, h1, h1]; exact hq P S x
  | x :: y :: r => rw [shL, shL, h2, h2]; rfl⟩
theorem sq_sh (f f' : List D → R D) (h : ∀ ds, f' (shL P.length ds) = (f ds).sh P) (x : D) : (match seqOf (stSh P S) (x.sh P.length) with | some ds => f' ds | none => .no) = R.sh P (match seqOf S x with | some ds => f ds | none => .no) := by
  rw [seq_sh]
  cases seqOf S x with
  | none => rfl
  | some ds => exact h ds
instance : RPL plen := one_sh (q := fun x S => plen [x] S) (fun _ _ => rfl) (fun _ => rfl) (fun x y r S => by cases x <;> rfl) fun P S x => by
  have g := sq_sh (P := P) (S := S) (fun ds => .ok (.int ds.length) S) (fun ds => .ok (.int ds.length) (stSh P S)) (fun ds => by rw [shL_len]; rfl) x
  cases x with
  | str z => exact if_sh rfl rfl
  | tup ds => show R.ok (D.int ((shL P.length ds).length : Nat)) _ = R.ok (D.int (ds.length : Nat)) _; rw [shL_len]
  | _ => exact g
instance : RPL pabs := one_sh (q := fun x S => pabs [x] S) (fun _ _ => rfl) (fun _ => rfl) (fun x y r S => by cases x <;> rfl) fun P S x => by cases x <;> rfl
instance : RPL pint := one_sh (q := fun x S => pint [x] S) (fun _ _ => rfl) (fun _ => rfl) (fun x y r S => by cases x <;> rfl) fun P S x => by
  cases x with
  | str z =>
    show (match intText? z with | some n => if z.length ≤ 640 then R.ok (D.int n) (stSh P S) else .no | none => .no) = R.sh P (match intText? z with | some n => if z.length ≤ 640 then R.ok (D.int n) S else .no | none => .no)
    cases intText? z with
    | none => rfl
    | some n => exact if_sh rfl rfl
  | _ => rfl
instance : RPL pstr := one_sh (q := fun x S => pstr [x] S) (fun _ _ => rfl) (fun _ => rfl) (fun x y r S => by cases x <;> rfl) fun P S x => by
  cases x with
  | int z => exact if_sh rfl rfl
  | _ => rfl
theorem asBs_sh (k : Nat) : ∀ ds : List D, asBs (shL k ds) = asBs ds
  | [] => rfl
  | d :: ds => by cases d <;> first | rfl | (show (asBs (shL k ds)).map _ = _; rw [asBs_sh k ds]; rfl)
theorem asIs_sh (k : Nat) : ∀ ds : List D, asIs (shL k ds) = asIs ds
  | [] => rfl
  | d :: ds => by cases d <;> first | rfl | (show (asIs (shL k ds)).map _ = _; rw [asIs_sh k ds]; rfl)
theorem asSs_sh (k : Nat) : ∀ ds : List D, asSs (shL k ds) = asSs ds
  | [] => rfl
  | d :: ds => by cases d <;> first | rfl | (show (asSs (shL k ds)).map _ = _; rw [asSs_sh k ds]; rfl)
theorem seqAs_sh {α : Type} {f : List D → Option (List α)} (h : ∀ k ds, f (shL k ds) = f ds) (x : D) : (seqOf (stSh P S) (x.sh P.length)).bind f = (seqOf S x).bind f := by
  rw [seq_sh]
  cases seqOf S x with
  | none => rfl
  | some ds => exact h _ ds
instance : RPL pall := one_sh (q := fun x S => pall [x] S) (fun _ _ => rfl) (fun _ => rfl) (fun x y r S => rfl) fun P S x => by
  show (match (seqOf (stSh P S) (x.sh P.length)).bind asBs with | some bs => R.ok (D.bl (bs.all fun b => b)) (stSh P S) | none => .no) = R.sh P (match (seqOf S x).bind asBs with | some bs => R.ok (D.bl (bs.all fun b => b)) S | none => .no)
  rw [seqAs_sh asBs_sh]
  cases (seqOf S x).bind asBs <;> rfl
instance : RPL pany := one_sh (q := fun x S => pany [x] S) (fun _ _ => rfl) (fun _ => rfl) (fun x y r S => rfl) fun P S x => by
  show (match (seqOf (stSh P S) (x.sh P.length)).bind asBs with | some bs => R.ok (D.bl (bs.any fun b => b)) (stSh P S) | none => .no) = R.sh P (match (seqOf S x).bind asBs with | some bs => R.ok (D.bl (bs.any fun b => b)) S | none => .no)
  rw [seqAs_sh asBs_sh]
  cases (seqOf S x).bind asBs <;> rfl
instance : RPL psum := one_sh (q := fun x S => psum [x] S) (fun _ _ => rfl) (fun _ => rfl) (fun x y r S => rfl) fun P S x => by
  show (match (seqOf (stSh P S) (x.sh P.length)).bind asIs with | some bs => R.ok (D.int bs.sum) (stSh P S) | none => .no) = R.sh P (match (seqOf S x).bind asIs with | some bs => R.ok (D.int bs.sum) S | none => .no)
  rw [seqAs_sh asIs_sh]
  cases (seqOf S x).bind asIs <;> rfl
instance : RPL ptuple := one_sh (q := fun x S => ptuple [x] S) (fun _ _ => rfl) (fun _ => rfl) (fun x y r S => by cases x <;> rfl) fun P S x => by
  have g := sq_sh (P := P) (S := S) (fun ds => .ok (.tup ds) S) (fun ds => .ok (.tup ds) (stSh P S)) (fun ds => rfl) x
  cases x with
  | tup ds => rfl
  | _ => exact g
instance (nw : Bool) : RPL (plist nw) := one_sh (q := fun x S => plist nw [x] S) (fun _ _ => rfl) (fun _ => rfl) (fun x y r S => by cases x <;> rfl) fun P S x => by
  have g := sq_sh (P := P) (S := S) (fun ds => mkL nw ds S) (fun ds => mkL nw ds (stSh P S)) (fun ds => mkL_sh nw ds) x
  cases x with
  | tup ds => exact mkL_sh nw ds
  | _ => exact g
theorem two_sh {p : List D → Sto → R D} {q : D → D → Sto → R D} (h2 : ∀ x y S, p [x, y] S = q x y S) (h0 : ∀ S, p [] S = .no) (h1 : ∀ x S, p [x] S = .no) (h3 : ∀ x y z r S, p (x :: y :: z :: r) S = .no) (hq : ∀ (P S : Sto) (x y : D), q (x.sh P.length) (y.sh P.length) (stSh P S) = (q x y S).sh P) : RPL p := ⟨fun P ds S => by
  match ds with
  | [] => rw [shL, h0, h0]; rfl
  | [x] => rw [shL, shL, h1, h1]; rfl
  | [x, y] => rw [shL, shL, shL, h2, h2]; exact hq P S x y
  | x :: y :: z :: r => rw [shL, shL, shL, h3, h3]; rfl⟩
instance : RPL pmax2 := two_sh (q := fun x y S => pmax2 [x, y] S) (fun _ _ _ => rfl) (fun _ => rfl) (fun x S => by cases x <;> rfl) (fun x y z r S => by cases x <;> first | rfl | (cases y <;> rfl)) fun P S x y => by cases x <;> first | rfl | (cases y <;> rfl)
instance : RPL pmin2 := two_sh (q := fun x y S => pmin2 [x, y] S) (fun _ _ _ => rfl) (fun _ => rfl) (fun x S => by cases x <;> rfl) (fun x y z r S => by cases x <;> first | rfl | (cases y <;> rfl)) fun P S x y => by cases x <;> first | rfl | (cases y <;> rfl)
instance : RPL pgcd := two_sh (q := fun x y S => pgcd [x, y] S) (fun _ _ _ => rfl) (fun _ => rfl) (fun x S => by cases x <;> rfl) (fun x y z r S => by cases x <;> first | rfl | (cases y <;> rfl)) fun P S x y => by cases x <;> first | rfl | (cases y <;> rfl)
instance : RPL pdivmod := two_sh (q := fun x y S => pdivmod [x, y] S) (fun _ _ _ => rfl) (fun _ => rfl) (fun x S => by cases x <;> rfl) (fun x y z r S => by cases x <;> first | rfl | (cases y <;> rfl)) fun P S x y => by
  cases x <;> first | rfl | (cases y <;> first | rfl | exact if_sh rfl rfl)
instance : RPL prng2 := two_sh (q := fun x y S => prng2 [x, y] S) (fun _ _ _ => rfl) (fun _ => rfl) (fun x S => by cases x <;> rfl) (fun x y z r S => by cases x <;> first | rfl | (cases y <;> rfl)) fun P S x y => by cases x <;> first | rfl | (cases y <;> rfl)
instance : RPL prng1 := one_sh (q := fun x S => prng1 [x] S) (fun _ _ => rfl) (fun _ => rfl) (fun x y r S => by cases x <;> rfl) fun P S x => by cases x <;> rfl
theorem kind_sh (d : D) : kindOf (stSh P S) (d.sh P.length) = kindOf S d := by
  cases d with
  | ref n =>
    show (match (stSh P S)[n + P.length]? with | some (.lst _) => some Ki.lst | _ => none) = _
    rw [st_get]
    show _ = (match S[n]? with | some (.lst _) => some Ki.lst | _ => none)
    cases S[n]? with
    | none => rfl
    | some c => cases c <;> rfl
  | _ => rfl
theorem kis_sh (k : Nat) : ∀ ds : List D, kisOf (shL k ds) = kisOf ds
  | [] => rfl
  | d :: ds => by
    cases d with
    | ty n =>
      show (match kiN n, kisOf (shL k ds) with | some t, some ts => some (t :: ts) | _, _ => none) = _
      rw [kis_sh k ds]
      rfl
    | _ => rfl
instance : RPL pisi := two_sh (q := fun x y S => pisi [x, y] S) (fun _ _ _ => rfl) (fun _ => rfl) (fun x S => rfl) (fun x y z r S => by cases y <;> rfl) fun P S x y => by
  cases y with
  | ty n =>
    show (match kindOf (stSh P S) (x.sh P.length), kiN n with | some k, some t => R.ok (D.bl (k.isA t)) (stSh P S) | _, _ => .no) = R.sh P (match kindOf S x, kiN n with | some k, some t => R.ok (D.bl (k.isA t)) S | _, _ => .no)
    rw [kind_sh]
    cases kindOf S x with
    | none => rfl
    | some k => cases kiN n <;> rfl
  | tup ts =>
    show (match kindOf (stSh P S) (x.sh P.length) with | some k => (match kisOf (shL P.length ts) with | some ks => R.ok (D.bl (ks.any fun t => k.isA t)) (stSh P S) | none => .no) | none => .no) = R.sh P (match kindOf S x with | some k => (match kisOf ts with | some ks => R.ok (D.bl (ks.any fun t => k.isA t)) S | none => .no) | none => .no)
    rw [kind_sh, kis_sh]
    cases kindOf S x with
    | none => rfl
    | some k => cases kisOf ts <;> rfl
  | _ => rfl
theorem zip_sh (k : Nat) : ∀ (ds : List D) (es : List PyData), (shL k ds).zip es = (ds.zip es).map fun p => (p.1.sh k, p.2)
  | [], _ => rfl
  | _ :: _, [] => rfl
  | d :: ds, e :: es => by rw [shL, List.zip_cons_cons, List.zip_cons_cons, List.map_cons, zip_sh k ds es]
theorem sortD_sh (ds : List D) : sortD (stSh P S) (shL P.length ds) = (sortD S ds).map (shL P.length) := by
  unfold sortD
  rw [shL_len]
  split
  · rfl
  · rw [pyL_sh (fun d => py_sh deep d)]
    cases pyL (py deep S) ds with
    | none => rfl
    | some es =>
      show (if (alikeB es && sortB es) = true then _ else _) = Option.map _ (if (alikeB es && sortB es) = true then _ else _)
      split
      · rw [zip_sh, ← isort_map (le := leD) (fun p : D × PyData => (p.1.sh P.length, p.2)) fun a _ b _ => rfl, List.map_map]
        show some _ = some _
        congr 1
        rw [shL_map, List.map_map]
        rfl
      · rfl
instance (nw : Bool) : RPL (psorted nw) := one_sh (q := fun x S => psorted nw [x] S) (fun _ _ => rfl) (fun _ => rfl) (fun x y r S => rfl) fun P S x =>
  sq_sh (P := P) (S := S) (fun ds => match sortD S ds with | some zs => if zs.length ≤ 16777216 then mkL nw zs S else .no | none => .no) (fun ds => match sortD (stSh P S) ds with | some zs => if zs.length ≤ 16777216 then mkL nw zs (stSh P S) else .no | none => .no) (fun ds => by
    rw [sortD_sh]
    cases sortD S ds with
    | none => rfl
    | some zs =>
      simp only [Option.map_some]
      rw [shL_len]
      exact if_sh (mkL_sh nw zs) rfl) x
theorem pd_sh (k : Nat) : ∀ (n : Nat) (d : D), pd' n (d.sh k) = pd' n d
  | 0, _ => rfl
  | n + 1, d => by
    have ih : ∀ ds : List D, (shL k ds).all (pd' n) = ds.all (pd' n) := fun ds => by
      rw [shL_map, List.all_map]
      congr 1
      funext d
      exact pd_sh k n d
    cases d with
    | tup ds => exact ih ds
    | lst ds => exact ih ds
    | _ => rfl
theorem best_sh (lt : PyData → PyData → Bool) (k : Nat) : ∀ (l : List (D × PyData)) (a : D × PyData), bestD lt (a.1.sh k, a.2) (l.map fun p => (p.1.sh k, p.2)) = ((bestD lt a l).1.sh k, (bestD lt a l).2)
  | [], _ => rfl
  | b :: l, a => by
    show bestD lt (if lt b.2 a.2 = true then (b.1.sh k, b.2) else (a.1.sh k, a.2)) (l.map _) = ((bestD lt (if lt b.2 a.2 = true then b else a) l).1.sh k, (bestD lt (if lt b.2 a.2 = true then b else a) l).2)
    split
    · exact best_sh lt k l b
    · exact best_sh lt k l a
theorem pbest_sh (lt : PyData → PyData → Bool) : RPL (pbest lt) := one_sh (q := fun x S => pbest lt [x] S) (fun _ _ => rfl) (fun _ => rfl) (fun x y r S => rfl) fun P S x => by
  show (match seqT (stSh P S) (x.sh P.length) with
    | some ds => (match pyL (py deep (stSh P S)) ds with
      | some es => if (alikeB es && !es.any noneB && ds.all (pd' deep)) = true then (match ds.zip es with
        | a :: r => R.ok (bestD lt a r).1 (stSh P S)
        | [] => .no) else .no
      | none => .no)
    | none => .no) = R.sh P (match seqT S x with
    | some ds => (match pyL (py deep S) ds with
      | some es => if (alikeB es && !es.any noneB && ds.all (pd' deep)) = true then (match ds.zip es with
        | a :: r => R.ok (bestD lt a r).1 S
        | [] => .no) else .no
      | none => .no)
    | none => .no)
  rw [seqT_sh]
  cases seqT S x with
  | none => rfl
  | some ds =>
    simp only [Option.map_some]
    rw [pyL_sh (fun d => py_sh deep d)]
    cases pyL (py deep S) ds with
    | none => rfl
    | some es =>
      have e : (shL P.length ds).all (pd' deep) = ds.all (pd' deep) := by
        rw [shL_map, List.all_map]
        congr 1
        funext d
        exact pd_sh _ _ d
      simp only []
      rw [e]
      refine if_sh ?_ rfl
      rw [zip_sh]
      cases ds.zip es with
      | nil => rfl
      | cons a r =>
        show R.ok (bestD lt (a.1.sh P.length, a.2) (r.map _)).1 _ = R.ok _ _
        rw [best_sh]
        rfl
instance : RPL pmin1 := pbest_sh _
instance : RPL pmax1 := pbest_sh _
instance : RP1 plenset := ⟨fun P x S => by
  unfold plenset
  rw [seqAs_sh asIs_sh]
  cases (seqOf S x).bind asIs with
  | none => rfl
  | some ns => exact if_sh rfl rfl⟩
theorem listR_sh (nw : Bool) (i j : Int) : (if RgM i j then mkL nw (rangeD i (j - i).toNat) (stSh P S) else .no) = R.sh P (if RgM i j then mkL nw (rangeD i (j - i).toNat) S else .no) := by
  refine if_sh ?_ rfl
  have := mkL_sh (P := P) (S := S) nw (rangeD i (j - i).toNat)
  rwa [rangeD_sh] at this
theorem listR0_sh (nw : Bool) (j : Int) : (if RgM 0 j then mkL nw (rangeD 0 j.toNat) (stSh P S) else .no) = R.sh P (if RgM 0 j then mkL nw (rangeD 0 j.toNat) S else .no) := by
  refine if_sh ?_ rfl
  have := mkL_sh (P := P) (S := S) nw (rangeD 0 j.toNat)
  rwa [rangeD_sh] at this
instance (nw : Bool) : RPL (plistR nw) := ⟨fun P ds S => by
  match ds with
  | [] => rfl
  | [x] => cases x <;> first | rfl | exact listR0_sh nw _
  | [x, y] => cases x <;> first | rfl | (cases y <;> first | rfl | exact listR_sh nw _ _)
  | x :: y :: z :: r => cases x <;> first | rfl | (cases y <;> rfl)⟩
instance : RPL ptupleR := ⟨fun P ds S => by
  match ds with
  | [] => rfl
  | [x] => cases x <;> first | rfl | (refine if_sh ?_ rfl; show R.ok (D.tup _) _ = R.ok (D.tup (shL _ _)) _; rw [rangeD_sh])
  | [x, y] => cases x <;> first | rfl | (cases y <;> first | rfl | (refine if_sh ?_ rfl; show R.ok (D.tup _) _ = R.ok (D.tup (shL _ _)) _; rw [rangeD_sh]))
  | x :: y :: z :: r => cases x <;> first | rfl | (cases y <;> rfl)⟩
instance (nw : Bool) : RP1 (prev nw) := ⟨fun P x S => by
  have r : ∀ ds : List D, (shL P.length ds).reverse = shL P.length ds.reverse := fun ds => by rw [shL_map, shL_map, List.map_reverse]
  have g := sq_sh (P := P) (S := S) (fun ds => mkL nw ds.reverse S) (fun ds => mkL nw ds.reverse (stSh P S)) (fun ds => by rw [r]; exact mkL_sh nw _) x
  cases x with
  | tup ds => show R.ok (D.tup _) _ = R.ok (D.tup _) _; rw [r]
  | _ => exact g⟩
instance : RPL prepr := one_sh (q := fun x S => prepr [x] S) (fun _ _ => rfl) (fun _ => rfl) (fun x y r S => rfl) fun P S x => by
  show (match py deep (stSh P S) (x.sh P.length) with | some d => if (d.showable && decide (d.shown.length ≤ 16777216)) = true then R.ok (D.str d.shown) (stSh P S) else .no | none => .no) = R.sh P (match py deep S x with | some d => if (d.showable && decide (d.shown.length ≤ 16777216)) = true then R.ok (D.str d.shown) S else .no | none => .no)
  rw [py_sh]
  cases py deep S x with
  | none => rfl
  | some d => exact if_sh rfl rfl
/-! ### methods -/
theorem seqX_sh (d : D) : seqX (stSh P S) (d.sh P.length) = (seqX S d).map (shL P.length) := by
  cases d with
  | tup ds => rfl
  | ref n => exact seqM_sh (.ref n)
  | lst ds => rfl
  | rol ds => rfl
  | _ => rfl
theorem cellm_sh (n : Nat) (f f' : List D → R D) (h : ∀ ds, f' (shL P.length ds) = (f ds).sh P) : (match (stSh P S)[n + P.length]? with | some (.lst ds) => f' ds | _ => .no) = R.sh P (match S[n]? with | some (.lst ds) => f ds | _ => .no) := by
  rw [st_get]
  cases S[n]? with
  | none => rfl
  | some c =>
    cases c with
    | lst ds => exact h ds
    | dead => rfl
instance : RPM pappend := ⟨fun P x ys S => by
  cases x with
  | ref n =>
    match ys with
    | [] => rfl
    | [y] =>
      refine cellm_sh (P := P) (S := S) n (fun ds => if ds.length < 16777216 then .ok .non (S.set n (.lst (ds ++ [y]))) else .no) (fun ds => if ds.length < 16777216 then .ok .non ((stSh P S).set (n + P.length) (.lst (ds ++ [y.sh P.length]))) else .no) fun ds => ?_
      rw [shL_len]
      refine if_sh ?_ rfl
      show R.ok D.non _ = R.ok D.non _
      rw [← st_set]
      show _ = R.ok D.non ((stSh P S).set (n + P.length) (Cell.lst (shL P.length (ds ++ [y]))))
      rw [shL_app]
      rfl
    | _ :: _ :: _ => rfl
  | _ => rfl⟩
instance : RPM pextend := ⟨fun P x ys S => by
  cases x with
  | ref n =>
    match ys with
    | [] => rfl
    | [y] =>
      show (match (stSh P S)[n + P.length]?, seqX (stSh P S) (y.sh P.length) with
        | some (.lst ds), some es => if ds.length + es.length ≤ 16777216 then R.ok D.non ((stSh P S).set (n + P.length) (.lst (ds ++ es))) else .no
        | _, _ => .no) = R.sh P (match S[n]?, seqX S y with
        | some (.lst ds), some es => if ds.length + es.length ≤ 16777216 then R.ok D.non (S.set n (.lst (ds ++ es))) else .no
        | _, _ => .no)
      rw [st_get, seqX_sh]
      cases S[n]? with
      | none => rfl
      | some c =>
        cases c with
        | dead => rfl
        | lst ds =>
          cases seqX S y with
          | none => rfl
          | some es =>
            simp only [Option.map_some, Cell.sh]
            rw [shL_len, shL_len, ← shL_app]
            refine if_sh ?_ rfl
            show R.ok D.non _ = R.ok D.non _
            rw [← st_set]
            rfl
    | _ :: _ :: _ => rfl
  | _ => rfl⟩
instance : RPM ppop := ⟨fun P x ys S => by
  cases x with
  | ref n =>
    match ys with
    | [] =>
      refine cellm_sh (P := P) (S := S) n (fun ds => match ds.getLast? with | some y => .ok y (S.set n (.lst ds.dropLast)) | none => .no) (fun ds => match ds.getLast? with | some y => .ok y ((stSh P S).set (n + P.length) (.lst ds.dropLast)) | none => .no) fun ds => ?_
      have e1 : (shL P.length ds).getLast? = ds.getLast?.map (D.sh P.length) := by rw [shL_map, List.getLast?_map]
      have e2 : (shL P.length ds).dropLast = shL P.length ds.dropLast := by rw [shL_map, shL_map, List.map_dropLast]
      rw [e1, e2]
      cases ds.getLast? with
      | none => rfl
      | some y =>
        show R.ok _ _ = R.ok _ _
        rw [← st_set]
        rfl
    | _ :: _ => rfl
  | _ => rfl⟩
instance : RPM pindex := ⟨fun P x ys S => by
  match ys with
  | [] => rfl
  | [y] =>
    show (match py deep (stSh P S) (x.sh P.length), py deep (stSh P S) (y.sh P.length) with
      | some (.list ds), some d => (match firstAt (fun z => PyData.eqv z d) ds 0 with | some n => R.ok (D.int n) (stSh P S) | none => .no)
      | _, _ => .no) = R.sh P (match py deep S x, py deep S y with
      | some (.list ds), some d => (match firstAt (fun z => PyData.eqv z d) ds 0 with | some n => R.ok (D.int n) S | none => .no)
      | _, _ => .no)
    rw [py_sh, py_sh]
    cases py deep S x with
    | none => rfl
    | some a =>
      cases py deep S y with
      | none => cases a <;> rfl
      | some b =>
        cases a with
        | list ds =>
          simp only []
          cases firstAt (fun z => PyData.eqv z b) ds 0 <;> rfl
        | _ => rfl
  | _ :: _ :: _ => rfl⟩
instance : RPM pjoin := ⟨fun P x ys S => by
  cases x with
  | str a =>
    match ys with
    | [] => rfl
    | [y] =>
      have g : (match (seqOf (stSh P S) (y.sh P.length)).bind asSs with
        | some zs => if (zs.map (·.length)).sum + zs.length * a.length ≤ 16777216 then R.ok (D.str (Txt.join a zs)) (stSh P S) else .no
        | none => .no) = R.sh P (match (seqOf S y).bind asSs with
        | some zs => if (zs.map (·.length)).sum + zs.length * a.length ≤ 16777216 then R.ok (D.str (Txt.join a zs)) S else .no
        | none => .no) := by
        rw [seqAs_sh asSs_sh]
        cases (seqOf S y).bind asSs with
        | none => rfl
        | some zs => exact if_sh rfl rfl
      cases y with
      | tup ds =>
        show (match asSs (shL P.length ds) with
          | some zs => if (zs.map (·.length)).sum + zs.length * a.length ≤ 16777216 then R.ok (D.str (Txt.join a zs)) (stSh P S) else .no
          | none => .no) = R.sh P (match asSs ds with
          | some zs => if (zs.map (·.length)).sum + zs.length * a.length ≤ 16777216 then R.ok (D.str (Txt.join a zs)) S else .no
          | none => .no)
        rw [asSs_sh]
        cases asSs ds with
        | none => rfl
        | some zs => exact if_sh rfl rfl
      | _ => exact g
    | y :: _ :: _ => cases y <;> rfl
  | _ => rfl⟩
theorem strs_sh (k : Nat) (l : List Str) : shL k (l.map D.str) = l.map D.str := by
  rw [shL_map, List.map_map]
  rfl
instance (nw : Bool) : RPM (psplit nw) := ⟨fun P x ys S => by
  have q : ∀ l : List Str, mkL nw (l.map D.str) (stSh P S) = (mkL nw (l.map D.str) S).sh P := fun l => by
    have := mkL_sh (P := P) (S := S) nw (l.map D.str)
    rwa [strs_sh] at this
  cases x with
  | str a =>
    match ys with
    | [] => rfl
    | [y] => cases y <;> first | rfl | exact if_sh (q _) rfl
    | [y, z] => cases y <;> first | rfl | (cases z <;> first | rfl | exact if_sh (q _) rfl)
    | y :: z :: _ :: _ => cases y <;> first | rfl | (cases z <;> rfl)
  | _ => rfl⟩
instance : RPM pupper := ⟨fun P x ys S => by
  cases x with
  | str a =>
    match ys with
    | [] => exact if_sh rfl rfl
    | _ :: _ => rfl
  | _ => rfl⟩
end
end ML


set_option Elab.async false
set_option linter.all false
set_option maxRecDepth 100000
set_option autoImplicit false
set_option maxHeartbeats 4000000
/-! plain Lean about mirrors: relocation used, comprehensions and loops over plain lists -/
namespace ML
open PySem PySem.Spec PyProof.Rows L2
section
variable {P S : Sto}
theorem setAt_sh (ev : Ev) (d x y : D) : setAt (HSh.sh P.length ev) (d.sh P.length) (x.sh P.length) (y.sh P.length) (stSh P S) = (setAt ev d x y S).sh P := by
  cases x with
  | ref n =>
    cases y with
    | int k =>
      show (match (stSh P S)[n + P.length]? with | some (.lst ds) => (match ixN ds.length k with | some j => R.ok (HSh.sh P.length ev : Ev) ((stSh P S).set (n + P.length) (.lst (ds.set j (d.sh P.length)))) | none => .no) | _ => .no) =
        R.sh P (match S[n]? with | some (.lst ds) => (match ixN ds.length k with | some j => R.ok ev (S.set n (.lst (ds.set j d))) | none => .no) | _ => .no)
      rw [st_get]
      cases S[n]? with
      | none => rfl
      | some c =>
        cases c with
        | dead => rfl
        | lst ds =>
          simp only [Option.map_some, Cell.sh]
          rw [shL_len]
          cases ixN ds.length k with
          | none => rfl
          | some j =>
            show R.ok _ _ = R.ok _ _
            rw [← st_set]
            show _ = R.ok _ ((stSh P S).set (n + P.length) (Cell.lst (shL P.length (ds.set j d))))
            rw [shL_map, shL_map, List.map_set]
    | _ => rfl
  | _ => rfl
instance rl_chain (p q : P2) (a b c : M D) [hp : RP2 p] [hq : RP2 q] [ha : RL a] [hb : RL b] [hc : RL c] : RL (mChain p q a b c) := ⟨fun P ev S => by
  unfold mChain
  refine bind_sh (ha.rl P ev S) fun x S1 => bind_sh (hb.rl P ev S1) fun y S2 => ?_
  first
    | exact bind_sh (hp.rl P x y S2) fun d S3 => by
        cases d with
        | bl t =>
          cases t
          · rfl
          · exact bind_sh (hc.rl P ev S3) fun z S4 => hq.rl P y z S4
        | _ => rfl
    | (unfold chain2
       exact bind_sh (hp.rl P x y S2) fun d S3 => by
        cases d with
        | bl t =>
          cases t
          · rfl
          · exact bind_sh (hc.rl P ev S3) fun z S4 => hq.rl P y z S4
        | _ => rfl)⟩
instance : RL mkNil := rl_mkNil
instance (a : M D) (l : M (List D)) [ha : RL a] [hl : RL l] : RL (mkCons a l) := rl_mkCons a l
instance rt_sub (a b : M D) [ha : RL a] [hb : RL b] : RTg (tgSub a b) := ⟨fun P d ev S => bind_sh (ha.rl P ev S) fun x S1 => bind_sh (hb.rl P ev S1) fun y S2 => setAt_sh ev d x y⟩
end
/-! ### data without places -/
mutual
def D.flat : D → Bool
  | .ref _ => false
  | .tup ds => flatL ds
  | .lst ds => flatL ds
  | .rol ds => flatL ds
  | .xo _ _ ds => flatL ds
  | .dct _ ds => flatL ds
  | _ => true
def flatL : List D → Bool
  | [] => true
  | d :: ds => d.flat && flatL ds
end
mutual
theorem sh_flat (k : Nat) : ∀ {d : D}, d.flat = true → d.sh k = d
  | .non, _ => rfl
  | .bl _, _ => rfl
  | .int _, _ => rfl
  | .str _, _ => rfl
  | .ty _, _ => rfl
  | .gl _, _ => rfl
  | .dc0, _ => rfl
  | .rng _ _, _ => rfl
  | .ref _, h => by cases h
  | .tup ds, h => by show D.tup (shL k ds) = _; rw [shL_flat k (ds := ds) h]
  | .lst ds, h => by show D.lst (shL k ds) = _; rw [shL_flat k (ds := ds) h]
  | .rol ds, h => by show D.rol (shL k ds) = _; rw [shL_flat k (ds := ds) h]
  | .xo _ _ ds, h => by show D.xo _ _ (shL k ds) = _; rw [shL_flat k (ds := ds) h]
  | .dct _ ds, h => by show D.dct _ (shL k ds) = _; rw [shL_flat k (ds := ds) h]
theorem shL_flat (k : Nat) : ∀ {ds : List D}, flatL ds = true → shL k ds = ds
  | [], _ => rfl
  | d :: ds, h => by
    simp only [flatL, Bool.and_eq_true] at h
    rw [shL, sh_flat k h.1, shL_flat k h.2]
end
/-- what comes of nothing but the arguments comes behind any store -/
theorem lift0 {m : List D → Sto → R D} [hm : RPL m] {args : List D} {d : D} {T : Sto} (h : m args [] = .ok d T) (ha : flatL args = true) (S : Sto) : m args S = .ok (d.sh S.length) (stSh S T) := by
  have q := hm.rl S args []
  rw [h, shL_flat _ ha] at q
  have e : stSh S [] = S := by unfold stSh; simp
  rw [e] at q
  exact q
theorem lift1 {m : List D → Sto → R D} [hm : RPL m] {args : List D} {d : D} {T : Sto} (h : m args [] = .ok d T) (ha : flatL args = true) (hd : d.flat = true) (S : Sto) : ∃ T', m args S = .ok d (S ++ T') := by
  refine ⟨T.map (Cell.sh S.length), ?_⟩
  have q := lift0 h ha S
  rw [sh_flat _ hd] at q
  exact q
/-- the list that a place of the small store holds -/
theorem lift_ref {m : List D → Sto → R D} [hm : RPL m] {args : List D} {n : Nat} {ds : List D} {T : Sto} (h : m args [] = .ok (.ref n) T) (ha : flatL args = true) (hn : T[n]? = some (.lst ds)) (hd : flatL ds = true) (S : Sto) :
    ∃ k T', m args S = .ok (.ref k) (S ++ T') ∧ (S ++ T')[k]? = some (.lst ds) ∧ S.length ≤ k := by
  refine ⟨n + S.length, T.map (Cell.sh S.length), lift0 h ha S, ?_, by omega⟩
  have q := st_get (P := S) (S := T) n
  rw [hn] at q
  show (stSh S T)[n + S.length]? = _
  rw [q]
  show some (Cell.lst (shL S.length ds)) = _
  rw [shL_flat _ hd]
/-! ### comprehensions -/
section
variable {α : Type} {nw : Bool} {own : List Nat} {fe : Ev → Ev} {mi : M Src} {tg : D → M Ev} {cond : M Bool} {el : M D} {ev : Ev} {S S1 : Sto} {deps : List (Nat × List D)}
theorem lcL_fm {c : Src} {ev : Ev} (enc : α → D) (f : α → Option D) (hl : c.live S = true) : ∀ (xs : List α) (acc : List D), (∀ x ∈ xs, ∃ ev2, tg (enc x) ev S = .ok ev2 S ∧ cond ev2 S = .ok (f x).isSome S ∧ ∀ y, f x = some y → el ev2 S = .ok y S) → acc.length + xs.length ≤ 16777216 →
    lcL tg cond el ev c (xs.map enc) acc S = .ok (acc ++ xs.filterMap f) S
  | [], acc, _, _ => by show (if c.live S = true then _ else _) = _; rw [if_pos hl, List.filterMap_nil, List.append_nil]
  | x :: xs, acc, h, hz => by
    obtain ⟨ev2, e1, e2, e3⟩ := h x List.mem_cons_self
    have hz' : acc.length + (xs.length + 1) ≤ 16777216 := by simpa using hz
    rw [List.map_cons]
    unfold lcL
    rw [if_pos hl, e1, bind_ok, e2, bind_ok]
    cases q : f x with
    | none =>
      rw [List.filterMap_cons_none q]
      exact lcL_fm enc f hl xs acc (fun y hy => h y (List.mem_cons_of_mem _ hy)) (by omega)
    | some y =>
      rw [List.filterMap_cons_some q]
      show (el ev2 S).bind _ = _
      rw [e3 y q, bind_ok, if_pos (by omega), lcL_fm enc f hl xs (acc ++ [y]) (fun y hy => h y (List.mem_cons_of_mem _ hy)) (by rw [List.length_append, List.length_singleton]; omega), List.append_assoc]
      rfl
theorem lc_fm (xs : List α) (enc : α → D) (f : α → Option D) (hmi : mi ev S = .ok ⟨xs.map enc, deps⟩ S1) (hl : Src.live ⟨xs.map enc, deps⟩ S1 = true) (hz : xs.length ≤ 16777216)
    (h : ∀ x ∈ xs, ∃ ev2, tg (enc x) (evWipe (fe ev) own) S1 = .ok ev2 S1 ∧ cond ev2 S1 = .ok (f x).isSome S1 ∧ ∀ y, f x = some y → el ev2 S1 = .ok y S1) : mLc nw own fe mi tg cond el ev S = mkL nw (xs.filterMap f) S1 := by
  unfold mLc
  rw [hmi, bind_ok]
  show (noEx (lcL tg cond el (evWipe (fe ev) own) ⟨xs.map enc, deps⟩ (xs.map enc) [] S1)).bind _ = _
  rw [lcL_fm enc f hl xs [] h (by simpa using hz)]
  rfl
theorem fm_some {β : Type} (g : α → β) : ∀ xs : List α, xs.filterMap (fun x => some (g x)) = xs.map g
  | [] => rfl
  | x :: xs => by
    show (g x) :: xs.filterMap (fun x => some (g x)) = _
    rw [fm_some g xs, List.map_cons]
theorem lc_mp (xs : List α) (enc : α → D) (g : α → D) (hmi : mi ev S = .ok ⟨xs.map enc, deps⟩ S1) (hl : Src.live ⟨xs.map enc, deps⟩ S1 = true) (hz : xs.length ≤ 16777216)
    (h : ∀ x ∈ xs, ∃ ev2, tg (enc x) (evWipe (fe ev) own) S1 = .ok ev2 S1 ∧ cond ev2 S1 = .ok true S1 ∧ el ev2 S1 = .ok (g x) S1) : mLc nw own fe mi tg cond el ev S = mkL nw (xs.map g) S1 := by
  rw [lc_fm xs enc (fun x => some (g x)) hmi hl hz (fun x hx => by
    obtain ⟨ev2, e1, e2, e3⟩ := h x hx
    exact ⟨ev2, e1, e2, fun y hy => by cases hy; exact e3⟩), fm_some]
theorem fm_ite {β : Type} (p : α → Bool) (g : α → β) : ∀ xs : List α, xs.filterMap (fun x => if p x = true then some (g x) else none) = (xs.filter p).map g
  | [] => rfl
  | x :: xs => by
    by_cases h : p x = true
    · rw [List.filterMap_cons_some (b := g x) (by rw [if_pos h]), List.filter_cons_of_pos h, List.map_cons, fm_ite p g xs]
    · rw [List.filterMap_cons_none (by rw [if_neg h]), List.filter_cons_of_neg h, fm_ite p g xs]
/-- .. with a test -/
theorem lc_if (xs : List α) (enc : α → D) (p : α → Bool) (g : α → D) (hmi : mi ev S = .ok ⟨xs.map enc, deps⟩ S1) (hl : Src.live ⟨xs.map enc, deps⟩ S1 = true) (hz : xs.length ≤ 16777216)
    (h : ∀ x ∈ xs, ∃ ev2, tg (enc x) (evWipe (fe ev) own) S1 = .ok ev2 S1 ∧ cond ev2 S1 = .ok (p x) S1 ∧ (p x = true → el ev2 S1 = .ok (g x) S1)) : mLc nw own fe mi tg cond el ev S = mkL nw ((xs.filter p).map g) S1 := by
  rw [lc_fm xs enc (fun x => if p x = true then some (g x) else none) hmi hl hz (fun x hx => by
    obtain ⟨ev2, e1, e2, e3⟩ := h x hx
    refine ⟨ev2, e1, ?_, fun y hy => ?_⟩
    · rw [e2]; cases p x <;> rfl
    · cases q : p x with
      | true => rw [q] at hy; cases hy; exact e3 q
      | false => rw [q] at hy; cases hy), fm_ite]
end
/-! ### all, any of truths -/
theorem asBs_bl : ∀ l : List Bool, asBs (l.map D.bl) = some l
  | [] => rfl
  | b :: l => by show (asBs (l.map D.bl)).map (b :: ·) = _; rw [asBs_bl l]; rfl
theorem pall_bl (l : List Bool) (S : Sto) : pall [.lst (l.map D.bl)] S = .ok (.bl (l.all fun b => b)) S := by
  show (match asBs (l.map D.bl) with | some bs => R.ok (D.bl (bs.all fun b => b)) S | none => .no) = _
  rw [asBs_bl]
theorem pany_bl (l : List Bool) (S : Sto) : pany [.lst (l.map D.bl)] S = .ok (.bl (l.any fun b => b)) S := by
  show (match asBs (l.map D.bl) with | some bs => R.ok (D.bl (bs.any fun b => b)) S | none => .no) = _
  rw [asBs_bl]
section
variable {α : Type} {ev : Ev} {S S1 : Sto} {m : M D}
/-- all([.. for ..]), any([..]) -/
theorem all_ok {xs : List α} {p : α → Bool} (h : m ev S = .ok (.lst (xs.map fun x => D.bl (p x))) S1) : mL pall (mCons m mNil) ev S = .ok (.bl (xs.all p)) S1 := by
  unfold mL mCons mNil
  rw [h]
  show pall [.lst _] S1 = _
  have e : (xs.map fun x => D.bl (p x)) = (xs.map p).map D.bl := by rw [List.map_map]; rfl
  rw [e, pall_bl, List.all_map]
  rfl
theorem any_ok {xs : List α} {p : α → Bool} (h : m ev S = .ok (.lst (xs.map fun x => D.bl (p x))) S1) : mL pany (mCons m mNil) ev S = .ok (.bl (xs.any p)) S1 := by
  unfold mL mCons mNil
  rw [h]
  show pany [.lst _] S1 = _
  have e : (xs.map fun x => D.bl (p x)) = (xs.map p).map D.bl := by rw [List.map_map]; rfl
  rw [e, pany_bl, List.any_map]
  rfl
end
/-! ### loops -/
section
variable {α : Type} {mi : M Src} {tg : D → M Ev} {body : MS} {ev : Ev} {S S1 : Sto} {c : Src}
theorem sFor_eq (hmi : mi ev S = .ok c S1) : sFor mi tg body ev S = forL tg body c c.items ev S1 := by
  unfold sFor
  rw [hmi]
  rfl
/-- a loop that goes through -/
theorem for_nx (enc : α → D) (I : Nat → Ev → Sto → Prop) (hl : ∀ i ev S, I i ev S → c.live S = true) : ∀ (xs : List α) (i : Nat) (ev : Ev) (S : Sto),
    (∀ j x, xs[j]? = some x → ∀ ev S, I (i + j) ev S → ∃ ev2 ev3 S3, tg (enc x) ev S = .ok ev2 S ∧ (body ev2 S = .ok .nx ev3 S3 ∨ body ev2 S = .ok .ct ev3 S3) ∧ I (i + j + 1) ev3 S3) → I i ev S →
    ∃ ev' S', forL tg body c (xs.map enc) ev S = .ok .nx ev' S' ∧ I (i + xs.length) ev' S'
  | [], i, ev, S, _, hI => ⟨ev, S, by show (if c.live S = true then _ else _) = _; rw [if_pos (hl i ev S hI)], hI⟩
  | x :: xs, i, ev, S, h, hI => by
    obtain ⟨ev2, ev3, S3, e1, e2, hI3⟩ := h 0 x rfl ev S hI
    obtain ⟨ev', S', q1, q2⟩ := for_nx enc I hl xs (i + 1) ev3 S3 (fun j y hy ev S hI => by
      have e : i + 1 + j = i + (j + 1) := by omega
      rw [e] at hI ⊢
      exact h (j + 1) y (by simpa using hy) ev S hI) hI3
    refine ⟨ev', S', ?_, by rw [List.length_cons]; have e : i + (xs.length + 1) = i + 1 + xs.length := by omega
                            rw [e]; exact q2⟩
    rw [List.map_cons]
    show (if c.live S = true then loopS (bindS (noEx (tg (enc x) ev S)) ev fun ev2 S2 => body ev2 S2) (forL tg body c (xs.map enc)) else .no) = _
    rw [if_pos (hl i ev S hI), e1]
    show loopS (body ev2 S) _ = _
    rcases e2 with e2 | e2 <;> rw [e2] <;> exact q1
/-- a loop that hands back at the first item with p -/
theorem for_find (enc : α → D) (p : α → Bool) (r : α → D) (I : Ev → Sto → Prop) (hl : ∀ ev S, I ev S → c.live S = true) : ∀ (xs : List α) (ev : Ev) (S : Sto),
    (∀ x ∈ xs, ∀ ev S, I ev S → ∃ ev2 ev3 S3, tg (enc x) ev S = .ok ev2 S ∧ (if p x = true then body ev2 S = .ok (.rt (r x)) ev3 S3 else (body ev2 S = .ok .nx ev3 S3 ∨ body ev2 S = .ok .ct ev3 S3)) ∧ I ev3 S3) → I ev S →
    ∃ ev' S', forL tg body c (xs.map enc) ev S = .ok (match xs.find? p with | some x => .rt (r x) | none => .nx) ev' S' ∧ I ev' S'
  | [], ev, S, _, hI => ⟨ev, S, by show (if c.live S = true then _ else _) = _; rw [if_pos (hl ev S hI)]; rfl, hI⟩
  | x :: xs, ev, S, h, hI => by
    obtain ⟨ev2, ev3, S3, e1, e2, hI3⟩ := h x List.mem_cons_self ev S hI
    have e0 : forL tg body c ((x :: xs).map enc) ev S = loopS (body ev2 S) (forL tg body c (xs.map enc)) := by
      rw [List.map_cons]
      show (if c.live S = true then loopS (bindS (noEx (tg (enc x) ev S)) ev fun ev2 S2 => body ev2 S2) (forL tg body c (xs.map enc)) else .no) = _
      rw [if_pos (hl ev S hI), e1]
      rfl
    rw [e0, List.find?_cons]
    cases q : p x with
    | true =>
      rw [q, if_pos rfl] at e2
      exact ⟨ev3, S3, by rw [e2]; rfl, hI3⟩
    | false =>
      rw [q, if_neg Bool.false_ne_true] at e2
      obtain ⟨ev', S', k1, k2⟩ := for_find enc p r I hl xs ev3 S3 (fun y hy => h y (List.mem_cons_of_mem _ hy)) hI3
      refine ⟨ev', S', ?_, k2⟩
      rcases e2 with e2 | e2 <;> rw [e2] <;> exact k1
end
/-- .. and what stands then -/
theorem for_find2 {α : Type} {tg : D → M Ev} {body : MS} {c : Src} (enc : α → D) (p : α → Bool) (r : α → D) (I : Ev → Sto → Prop) (J : α → Sto → Prop) (hl : ∀ ev S, I ev S → c.live S = true) : ∀ (xs : List α) (ev : Ev) (S : Sto),
    (∀ x ∈ xs, ∀ ev S, I ev S → ∃ ev2, tg (enc x) ev S = .ok ev2 S ∧ (if p x = true then ∃ ev3 S3, body ev2 S = .ok (.rt (r x)) ev3 S3 ∧ J x S3 else ∃ ev3 S3, (body ev2 S = .ok .nx ev3 S3 ∨ body ev2 S = .ok .ct ev3 S3) ∧ I ev3 S3)) → I ev S →
    match xs.find? p with
    | some x => ∃ ev' S', forL tg body c (xs.map enc) ev S = .ok (.rt (r x)) ev' S' ∧ J x S'
    | none => ∃ ev' S', forL tg body c (xs.map enc) ev S = .ok .nx ev' S' ∧ I ev' S'
  | [], ev, S, _, hI => ⟨ev, S, by show (if c.live S = true then _ else _) = _; rw [if_pos (hl ev S hI)], hI⟩
  | x :: xs, ev, S, h, hI => by
    obtain ⟨ev2, e1, e2⟩ := h x List.mem_cons_self ev S hI
    have e0 : forL tg body c ((x :: xs).map enc) ev S = loopS (body ev2 S) (forL tg body c (xs.map enc)) := by
      rw [List.map_cons]
      show (if c.live S = true then loopS (bindS (noEx (tg (enc x) ev S)) ev fun ev2 S2 => body ev2 S2) (forL tg body c (xs.map enc)) else .no) = _
      rw [if_pos (hl ev S hI), e1]
      rfl
    rw [List.find?_cons]
    cases q : p x with
    | true =>
      rw [q, if_pos rfl] at e2
      obtain ⟨ev3, S3, e2, e3⟩ := e2
      exact ⟨ev3, S3, by rw [e0, e2]; rfl, e3⟩
    | false =>
      rw [q, if_neg Bool.false_ne_true] at e2
      obtain ⟨ev3, S3, e2, hI3⟩ := e2
      have k := for_find2 enc p r I J hl xs ev3 S3 (fun y hy => h y (List.mem_cons_of_mem _ hy)) hI3
      have e4 : forL tg body c ((x :: xs).map enc) ev S = forL tg body c (xs.map enc) ev3 S3 := by
        rw [e0]
        rcases e2 with e2 | e2 <;> rw [e2] <;> rfl
      rw [e4]
      exact k
/-! ### sources -/
theorem rangeD0 (n : Nat) : rangeD 0 n = (List.range n).map fun (i : Nat) => D.int (i : Int) := by
  unfold rangeD
  refine List.map_congr_left fun i _ => ?_
  rw [Int.zero_add]
theorem rangeD_from (a n : Nat) : rangeD (a : Int) n = ((List.range n).map (a + ·)).map fun (i : Nat) => D.int (i : Int) := by
  unfold rangeD
  rw [List.map_map]
  refine List.map_congr_left fun i _ => ?_
  show D.int _ = D.int _
  congr 1
theorem inR_nat {n : Nat} (h : n ≤ 16777216) : inR (n : Int) := by
  unfold inR
  have : (16777216 : Int) < 2 ^ 62 := by decide
  have : -(2 ^ 62 : Int) ≤ 0 := by decide
  omega
theorem src_range1 {ml : M (List D)} {ev : Ev} {S S1 : Sto} {n : Nat} (h : ml ev S = .ok [.int (n : Int)] S1) (hn : n ≤ 16777216) : mRange1 ml ev S = .ok ⟨(List.range n).map fun (i : Nat) => D.int (i : Int), []⟩ S1 := by
  unfold mRange1
  rw [h, bind_ok]
  show (if inR (n : Int) then R.ok (Src.mk (rangeD 0 (n : Int).toNat) []) S1 else .no) = _
  rw [if_pos (inR_nat hn), Int.toNat_natCast, rangeD0]
theorem src_range2 {ml : M (List D)} {ev : Ev} {S S1 : Sto} {a b : Nat} (h : ml ev S = .ok [.int (a : Int), .int (b : Int)] S1) (ha : a ≤ 16777216) (hb : b ≤ 16777216) : mRange2 ml ev S = .ok ⟨((List.range (b - a)).map (a + ·)).map fun (i : Nat) => D.int (i : Int), []⟩ S1 := by
  unfold mRange2
  rw [h, bind_ok]
  show (if inR (a : Int) ∧ inR (b : Int) then R.ok (Src.mk (rangeD (a : Int) ((b : Int) - (a : Int)).toNat) []) S1 else .no) = _
  rw [if_pos ⟨inR_nat ha, inR_nat hb⟩]
  have e : ((b : Int) - (a : Int)).toNat = b - a := by omega
  rw [e, rangeD_from]
theorem src_rng {m : M D} {ev : Ev} {S S1 : Sto} {n : Nat} (h : m ev S = .ok (.rng 0 (n : Int)) S1) (hn : n ≤ 16777216) : mRng m ev S = .ok ⟨(List.range n).map fun (i : Nat) => D.int (i : Int), []⟩ S1 := by
  unfold mRng
  rw [h, bind_ok]
  show (if inR 0 ∧ inR (n : Int) then R.ok (Src.mk (rangeD 0 ((n : Int) - 0).toNat) []) S1 else .no) = _
  rw [if_pos ⟨inR_nat (n := 0) (by decide), inR_nat hn⟩, Int.sub_zero, Int.toNat_natCast, rangeD0]
theorem src_seq {m : M D} {ev : Ev} {S S1 : Sto} {d : D} {c : Src} (h : m ev S = .ok d S1) (hd : drawn S1 d = some c) : mSrc m ev S = .ok c S1 := by
  unfold mSrc
  rw [h, bind_ok]
  unfold asSrc
  rw [hd]
theorem live_nil {items : List D} {S : Sto} : Src.live ⟨items, []⟩ S = true := rfl
end ML


set_option Elab.async false
set_option linter.all false
set_option maxRecDepth 100000
set_option autoImplicit false
set_option maxHeartbeats 4000000
/-! plain Lean: repr of small data, sorted ints, sets of ints -/
namespace ML
open PySem PySem.Spec PyProof.Rows L2
/-! ### repr -/
mutual
def wP : PyData → Nat
  | .none => 4
  | .bool _ => 5
  | .int _ => 21
  | .str x => (reprText x).length
  | .list xs => wPL xs + 3
  | .tuple xs => wPL xs + 3
  | .dict _ => 0
def wPL : List PyData → Nat
  | [] => 0
  | x :: xs => wP x + 2 + wPL xs
end
mutual
def okP : PyData → Bool
  | .int i => decide (0 ≤ i ∧ i < 10 ^ 18) || decide (-9 ≤ i ∧ i < 0)
  | .list xs => okPL xs
  | .tuple xs => okPL xs
  | .dict _ => false
  | _ => true
def okPL : List PyData → Bool
  | [] => true
  | x :: xs => okP x && okPL xs
end
theorem neg9 : ∀ k : Fin 9, (((PyData.int (-((k.val : Nat) : Int) - 1)).shown).length ≤ 21 ∧ (PyData.int (-((k.val : Nat) : Int) - 1)).showable = true) := by decide +kernel
theorem int_shown {i : Int} (h : okP (.int i) = true) : (PyData.int i).showable = true ∧ ((PyData.int i).shown).length ≤ 21 := by
  simp only [okP, Bool.or_eq_true, decide_eq_true_eq] at h
  rcases h with ⟨h0, h1⟩ | ⟨h0, h1⟩
  · obtain ⟨n, rfl⟩ : ∃ n : Nat, i = (n : Int) := ⟨i.toNat, by omega⟩
    have hn : n < 10 ^ 18 := by omega
    refine ⟨?_, ?_⟩
    · have e : ((n : Nat) : Int).natAbs.log2 < 1920 := by
        have h2 : n < 2 ^ 60 := Nat.lt_trans hn (by decide)
        have : ((n : Nat) : Int).natAbs = n := Int.natAbs_natCast n
        rw [this]
        rcases Nat.eq_zero_or_pos n with z | z
        · subst z; first | decide | rfl
        · have := (Nat.log2_lt (by omega)).mpr h2
          omega
      simpa [PyData.showable] using e
    · have e : (PyData.int (n : Int)).shown = Str.ofString (toString ((n : Nat) : Int)) := by first | (simp [PyData.shown]; done) | (simp [PyData.shown]; rfl)
      rw [e]
      have q : (Str.ofString (toString ((n : Nat) : Int))).length = (TL.numL n).length := by rw [← TL.tl_num]; exact TL.len_tl _
      rw [q]
      have := TL.numL_len (k := 18) (n := n) (by decide) hn
      omega
  · obtain ⟨k, hk⟩ : ∃ k : Fin 9, i = -((k.val : Nat) : Int) - 1 := ⟨⟨(-i - 1).toNat, by omega⟩, by show i = -(((-i - 1).toNat : Nat) : Int) - 1; omega⟩
    subst hk
    exact ⟨(neg9 k).2, (neg9 k).1⟩
mutual
theorem shown_le : ∀ x : PyData, okP x = true → x.showable = true ∧ x.shown.length ≤ wP x
  | .none, _ => ⟨by simp [PyData.showable], by decide +kernel⟩
  | .bool b, _ => ⟨by simp [PyData.showable], by cases b <;> decide +kernel⟩
  | .int i, h => int_shown h
  | .str x, _ => ⟨by simp [PyData.showable], by simp [PyData.shown, wP]⟩
  | .list xs, h => by
    obtain ⟨h1, h2⟩ := shownL_le xs (by simpa [okP] using h)
    refine ⟨by simpa [PyData.showable] using h1, ?_⟩
    have t := listText_len_le (PyData.shownAll xs)
    show (listText (PyData.shownAll xs)).length ≤ wPL xs + 3
    omega
  | .tuple xs, h => by
    obtain ⟨h1, h2⟩ := shownL_le xs (by simpa [okP] using h)
    refine ⟨by simpa [PyData.showable] using h1, ?_⟩
    have t := tupleText_len_le (PyData.shownAll xs)
    show (tupleText (PyData.shownAll xs)).length ≤ wPL xs + 3
    omega
  | .dict _, h => by simp [okP] at h
theorem shownL_le : ∀ xs : List PyData, okPL xs = true → PyData.showableAll xs = true ∧ ((PyData.shownAll xs).map (·.length)).sum + 2 * (PyData.shownAll xs).length ≤ wPL xs
  | [], _ => ⟨by simp [PyData.showableAll], by simp [PyData.shownAll, wPL]⟩
  | x :: xs, h => by
    simp only [okPL, Bool.and_eq_true] at h
    obtain ⟨a1, a2⟩ := shown_le x h.1
    obtain ⟨b1, b2⟩ := shownL_le xs h.2
    refine ⟨by simp [PyData.showableAll, a1, b1], ?_⟩
    simp only [PyData.shownAll, List.map_cons, List.sum_cons, List.length_cons, wPL]
    omega
end
theorem prepr_ok {S : Sto} {x : D} {d : PyData} (h : py deep S x = some d) (ho : okP d = true) (hw : wP d ≤ 16777216) : prepr [x] S = .ok (.str d.shown) S := by
  obtain ⟨h1, h2⟩ := shown_le d ho
  show (match py deep S x with | some d => if (d.showable && decide (d.shown.length ≤ 16777216)) = true then R.ok (D.str d.shown) S else .no | none => .no) = _
  rw [h]
  show (if (d.showable && decide (d.shown.length ≤ 16777216)) = true then R.ok (D.str d.shown) S else .no) = _
  rw [h1, if_pos (by simp; omega)]
/-! ### sorted ints -/
def leI (a b : Int) : Bool := decide (a ≤ b)
def sortI (l : List Int) : List Int := isort leI l
theorem pyL_map {α : Type} {n : Nat} {S : Sto} (enc : α → D) (e : α → PyData) : ∀ xs : List α, (∀ x ∈ xs, py n S (enc x) = some (e x)) → pyL (py n S) (xs.map enc) = some (xs.map e)
  | [], _ => rfl
  | x :: xs, h => by
    rw [List.map_cons, pyL, h x List.mem_cons_self, pyL_map enc e xs fun y hy => h y (List.mem_cons_of_mem _ hy)]
    rfl
theorem py_int (n : Nat) (S : Sto) (i : Int) : py (n + 1) S (.int i) = some (.int i) := rfl
theorem zip_map2 {α β γ : Type} (f : α → β) (g : α → γ) : ∀ xs : List α, (xs.map f).zip (xs.map g) = xs.map fun x => (f x, g x)
  | [] => rfl
  | x :: xs => by rw [List.map_cons, List.map_cons, List.zip_cons_cons, List.map_cons, zip_map2 f g xs]
theorem isort_len {α : Type} {le : α → α → Bool} : ∀ l : List α, (isort le l).length = l.length
  | [] => rfl
  | x :: l => by
    have ins : ∀ m : List α, (insS le x m).length = m.length + 1 := by
      intro m
      induction m with
      | nil => rfl
      | cons y m ih =>
        unfold insS
        split
        · rfl
        · rw [List.length_cons, ih, List.length_cons]
    show (insS le x (isort le l)).length = _
    rw [ins, isort_len l, List.length_cons]
theorem isort_one {α : Type} {le : α → α → Bool} {l : List α} (h : l.length ≤ 1) : isort le l = l := by
  match l, h with
  | [], _ => rfl
  | [x], _ => rfl
/-- sorted, by any key by which the data stand in order -/
theorem sortD_map {α : Type} {S : Sto} (enc : α → D) (e : α → PyData) (le : α → α → Bool) (xs : List α) (h : ∀ x ∈ xs, py deep S (enc x) = some (e x)) (hal : alikeB (xs.map e) = true) (hso : sortB (xs.map e) = true)
    (hle : ∀ a ∈ xs, ∀ b ∈ xs, le a b = !PySem.W.dataLt (e b) (e a)) : sortD S (xs.map enc) = some ((isort le xs).map enc) := by
  unfold sortD
  rw [List.length_map]
  split
  · rename_i q
    rw [isort_one q]
  · rw [pyL_map enc e xs h]
    simp only []
    rw [hal, hso, zip_map2]
    show some _ = some _
    congr 1
    rw [← isort_map (le := le) (s := leD) (fun x => (enc x, e x)) hle, List.map_map]
    rfl
theorem alike_ints (l : List Int) : alikeB (l.map PyData.int) = true := by
  unfold alikeB
  rw [List.all_eq_true]
  intro a ha
  rw [List.all_eq_true]
  intro b hb
  obtain ⟨i, _, rfl⟩ := List.mem_map.mp ha
  obtain ⟨j, _, rfl⟩ := List.mem_map.mp hb
  rfl
theorem sortB_ints (l : List Int) : sortB (l.map PyData.int) = true := by
  unfold sortB
  rw [Bool.or_eq_true]
  right
  rw [List.all_eq_true]
  intro a ha
  obtain ⟨i, _, rfl⟩ := List.mem_map.mp ha
  rfl
theorem psorted_ints (nw : Bool) (l : List Int) (S : Sto) (hz : l.length ≤ 16777216) : psorted nw [.lst (l.map D.int)] S = mkL nw ((sortI l).map D.int) S := by
  show (match sortD S (l.map D.int) with | some zs => if zs.length ≤ 16777216 then mkL nw zs S else .no | none => .no) = _
  rw [sortD_map (le := leI) D.int PyData.int l (fun _ _ => rfl) (alike_ints l) (sortB_ints l) fun a _ b _ => by
    rw [PySem.W.dataLt_int]
    unfold leI
    rw [Bool.eq_iff_iff]
    simp]
  simp only []
  rw [if_pos (by rw [List.length_map, isort_len]; exact hz)]
  rfl
/-! ### the best of a list -/
theorem best_head {lt : PyData → PyData → Bool} {a : D × PyData} : ∀ {l : List (D × PyData)}, (∀ y ∈ l, lt y.2 a.2 = false) → bestD lt a l = a
  | [], _ => rfl
  | y :: l, h => by
    show bestD lt (if lt y.2 a.2 = true then y else a) l = a
    rw [h y List.mem_cons_self, if_neg Bool.false_ne_true]
    exact best_head fun z hz => h z (List.mem_cons_of_mem _ hz)
/-- the first one, where none is ahead of it in order -/
theorem pmin1_head {α : Type} (enc : α → D) (e : α → PyData) (x : α) (xs : List α) (S : Sto) (h : ∀ y ∈ x :: xs, py deep S (enc y) = some (e y)) (hal : alikeB ((x :: xs).map e) = true) (hno : ((x :: xs).map e).any noneB = false) (hpd : ((x :: xs).map enc).all (pd' deep) = true)
    (hlt : ∀ y ∈ xs, PySem.W.dataLt (e y) (e x) = false) : pmin1 [.lst ((x :: xs).map enc)] S = .ok (enc x) S := by
  show (match seqT S (.lst ((x :: xs).map enc)) with
    | some ds => (match pyL (py deep S) ds with
      | some es => if (alikeB es && !es.any noneB && ds.all (pd' deep)) = true then (match ds.zip es with
        | a :: r => R.ok (bestD PySem.W.dataLt a r).1 S
        | [] => .no) else .no
      | none => .no)
    | none => .no) = _
  show (match pyL (py deep S) ((x :: xs).map enc) with
      | some es => if (alikeB es && !es.any noneB && ((x :: xs).map enc).all (pd' deep)) = true then (match ((x :: xs).map enc).zip es with
        | a :: r => R.ok (bestD PySem.W.dataLt a r).1 S
        | [] => .no) else .no
      | none => .no) = _
  rw [pyL_map enc e _ h]
  show (if (alikeB ((x :: xs).map e) && !((x :: xs).map e).any noneB && ((x :: xs).map enc).all (pd' deep)) = true then (match ((x :: xs).map enc).zip ((x :: xs).map e) with
        | a :: r => R.ok (bestD PySem.W.dataLt a r).1 S
        | [] => .no) else .no) = _
  rw [hal, hno, hpd, zip_map2]
  show R.ok (bestD PySem.W.dataLt (enc x, e x) (xs.map fun y => (enc y, e y))).1 S = _
  rw [best_head fun y hy => by
    obtain ⟨z, hz, rfl⟩ := List.mem_map.mp hy
    exact hlt z hz]
theorem best_int (lt : PyData → PyData → Bool) (f : Int → Int → Bool) (h : ∀ a b, lt (.int a) (.int b) = f a b) : ∀ (l : List Int) (a : Int), bestD lt (.int a, .int a) (l.map fun i => (D.int i, PyData.int i)) = (.int (l.foldl (fun a y => if f y a = true then y else a) a), .int (l.foldl (fun a y => if f y a = true then y else a) a))
  | [], _ => rfl
  | b :: l, a => by
    show bestD lt (if lt (.int b) (.int a) = true then (D.int b, PyData.int b) else (.int a, .int a)) (l.map _) = _
    rw [h]
    by_cases q : f b a = true
    · rw [if_pos q, best_int lt f h l b, List.foldl_cons, if_pos q]
    · rw [if_neg q, best_int lt f h l a, List.foldl_cons, if_neg q]
theorem pbest_ints (lt : PyData → PyData → Bool) (f : Int → Int → Bool) (h : ∀ a b, lt (.int a) (.int b) = f a b) (x : Int) (xs : List Int) (S : Sto) : pbest lt [.lst ((x :: xs).map D.int)] S = .ok (.int (xs.foldl (fun a y => if f y a = true then y else a) x)) S := by
  have hno : ∀ l : List Int, (l.map PyData.int).any noneB = false := fun l => by
    induction l with
    | nil => rfl
    | cons a l ih => rw [List.map_cons, List.any_cons, ih]; rfl
  have hpd : ∀ l : List Int, (l.map D.int).all (pd' deep) = true := fun l => by
    induction l with
    | nil => rfl
    | cons a l ih => rw [List.map_cons, List.all_cons, ih]; rfl
  show (match pyL (py deep S) ((x :: xs).map D.int) with
      | some es => if (alikeB es && !es.any noneB && ((x :: xs).map D.int).all (pd' deep)) = true then (match ((x :: xs).map D.int).zip es with
        | a :: r => R.ok (bestD lt a r).1 S
        | [] => .no) else .no
      | none => .no) = _
  rw [pyL_map D.int PyData.int _ fun _ _ => rfl]
  show (if (alikeB ((x :: xs).map PyData.int) && !((x :: xs).map PyData.int).any noneB && ((x :: xs).map D.int).all (pd' deep)) = true then (match ((x :: xs).map D.int).zip ((x :: xs).map PyData.int) with
        | a :: r => R.ok (bestD lt a r).1 S
        | [] => .no) else .no) = _
  rw [alike_ints, hno, hpd, zip_map2]
  show R.ok (bestD lt (.int x, .int x) (xs.map fun i => (D.int i, PyData.int i))).1 S = _
  rw [best_int lt f h]
theorem fold_max : ∀ (l : List Int) (a : Int), (∀ x ∈ a :: l, x ≤ l.foldl (fun a y => if decide (a < y) = true then y else a) a) ∧ l.foldl (fun a y => if decide (a < y) = true then y else a) a ∈ a :: l
  | [], a => ⟨fun x hx => by simp at hx; simp [hx], by simp⟩
  | b :: l, a => by
    rw [List.foldl_cons]
    by_cases q : a < b
    · have e : decide (a < b) = true := decide_eq_true q
      rw [if_pos e]
      obtain ⟨h1, h2⟩ := fold_max l b
      refine ⟨fun x hx => ?_, List.mem_cons_of_mem _ h2⟩
      rcases List.mem_cons.mp hx with rfl | hx
      · have := h1 b List.mem_cons_self
        omega
      · exact h1 x hx
    · have e : ¬ decide (a < b) = true := by simpa using q
      rw [if_neg e]
      obtain ⟨h1, h2⟩ := fold_max l a
      refine ⟨fun x hx => ?_, ?_⟩
      · rcases List.mem_cons.mp hx with rfl | hx
        · exact h1 x List.mem_cons_self
        · rcases List.mem_cons.mp hx with rfl | hx
          · have := h1 a List.mem_cons_self
            omega
          · exact h1 x (List.mem_cons_of_mem _ hx)
      · rcases List.mem_cons.mp h2 with h | h
        · rw [h]; simp
        · exact List.mem_cons_of_mem _ (List.mem_cons_of_mem _ h)
theorem fold_min : ∀ (l : List Int) (a : Int), (∀ x ∈ a :: l, l.foldl (fun a y => if decide (y < a) = true then y else a) a ≤ x) ∧ l.foldl (fun a y => if decide (y < a) = true then y else a) a ∈ a :: l
  | [], a => ⟨fun x hx => by simp at hx; simp [hx], by simp⟩
  | b :: l, a => by
    rw [List.foldl_cons]
    by_cases q : b < a
    · have e : decide (b < a) = true := decide_eq_true q
      rw [if_pos e]
      obtain ⟨h1, h2⟩ := fold_min l b
      refine ⟨fun x hx => ?_, List.mem_cons_of_mem _ h2⟩
      rcases List.mem_cons.mp hx with rfl | hx
      · have := h1 b List.mem_cons_self
        omega
      · exact h1 x hx
    · have e : ¬ decide (b < a) = true := by simpa using q
      rw [if_neg e]
      obtain ⟨h1, h2⟩ := fold_min l a
      refine ⟨fun x hx => ?_, ?_⟩
      · rcases List.mem_cons.mp hx with rfl | hx
        · exact h1 x List.mem_cons_self
        · rcases List.mem_cons.mp hx with rfl | hx
          · have := h1 a List.mem_cons_self
            omega
          · exact h1 x (List.mem_cons_of_mem _ hx)
      · rcases List.mem_cons.mp h2 with h | h
        · rw [h]; simp
        · exact List.mem_cons_of_mem _ (List.mem_cons_of_mem _ h)
theorem pmax1_is {l : List Int} {m : Int} (hm : m ∈ l) (hle : ∀ x ∈ l, x ≤ m) (S : Sto) : pmax1 [.lst (l.map D.int)] S = .ok (.int m) S := by
  cases l with
  | nil => cases hm
  | cons x xs =>
    have q := pbest_ints (fun a b => PySem.W.dataLt b a) (fun a b => decide (b < a)) (fun a b => PySem.W.dataLt_int b a) x xs S
    obtain ⟨h1, h2⟩ := fold_max xs x
    have e : xs.foldl (fun a y => if decide (a < y) = true then y else a) x = m := Int.le_antisymm (hle _ h2) (h1 m hm)
    rw [e] at q
    exact q
theorem pmin1_is {l : List Int} {m : Int} (hm : m ∈ l) (hle : ∀ x ∈ l, m ≤ x) (S : Sto) : pmin1 [.lst (l.map D.int)] S = .ok (.int m) S := by
  cases l with
  | nil => cases hm
  | cons x xs =>
    have q := pbest_ints PySem.W.dataLt (fun a b => decide (a < b)) PySem.W.dataLt_int x xs S
    obtain ⟨h1, h2⟩ := fold_min xs x
    have e : xs.foldl (fun a y => if decide (y < a) = true then y else a) x = m := Int.le_antisymm (h1 m hm) (hle _ h2)
    rw [e] at q
    exact q
/-! ### how many unlike ints -/
theorem ded_le : ∀ (l acc : List Int), (l.foldl PyProof.Rows.step_dedup acc).length ≤ acc.length + l.length
  | [], acc => by simp
  | x :: l, acc => by
    rw [List.foldl_cons]
    have := ded_le l (PyProof.Rows.step_dedup acc x)
    have h2 : (PyProof.Rows.step_dedup acc x).length ≤ acc.length + 1 := by
      unfold PyProof.Rows.step_dedup
      split
      · omega
      · rw [List.length_append]; simp
    rw [List.length_cons]
    omega
theorem ded_full : ∀ (l acc : List Int), acc.Nodup → ((l.foldl PyProof.Rows.step_dedup acc).length = acc.length + l.length ↔ (acc ++ l).Nodup)
  | [], acc, h => by simp [h]
  | x :: l, acc, h => by
    rw [List.foldl_cons]
    by_cases hx : x ∈ acc
    · have e : PyProof.Rows.step_dedup acc x = acc := by
        unfold PyProof.Rows.step_dedup
        rw [if_pos (List.any_eq_true.mpr ⟨x, hx, by simp⟩)]
      rw [e]
      have := ded_le l acc
      constructor
      · intro q; rw [List.length_cons] at q; omega
      · intro q
        exact absurd rfl ((List.nodup_append.mp q).2.2 x hx x List.mem_cons_self)
    · have e : PyProof.Rows.step_dedup acc x = acc ++ [x] := by
        unfold PyProof.Rows.step_dedup
        rw [if_neg]
        intro q
        obtain ⟨y, hy, ey⟩ := List.any_eq_true.mp q
        have : y = x := by simpa using ey
        subst this
        exact hx hy
      rw [e]
      have hn : (acc ++ [x]).Nodup := by
        rw [List.nodup_append]
        refine ⟨h, by simp, fun a ha b hb => ?_⟩
        have : b = x := by simpa using hb
        subst this
        intro q
        subst q
        exact hx ha
      have := ded_full l (acc ++ [x]) hn
      rw [List.length_append, List.length_singleton, List.append_assoc] at this
      rw [List.length_cons]
      have e2 : acc.length + (l.length + 1) = acc.length + 1 + l.length := by omega
      rw [e2]
      exact this
theorem dedI_full (l : List Int) : (dedI l).length = l.length ↔ l.Nodup := by
  have := ded_full l [] List.nodup_nil
  rw [List.length_nil, Nat.zero_add, List.nil_append] at this
  exact this
theorem plenset_ok {S : Sto} {x : D} {l : List Int} (h : seqOf S x = some (l.map D.int)) (hz : l.length ≤ 1000) : plenset x S = .ok (.int (dedI l).length) S := by
  unfold plenset
  rw [h]
  show (match asIs (l.map D.int) with | some ns => if ns.length ≤ 1000 then R.ok (D.int (dedI ns).length) S else .no | none => .no) = _
  rw [asIs_map]
  exact if_pos hz
/-! ### calls with what is known of their arguments -/
theorem cons_ok {ma : M D} {ml : M (List D)} {ev : Ev} {S S1 S2 : Sto} {d : D} {ds : List D} (h : ma ev S = .ok d S1) (k : ml ev S1 = .ok ds S2) : mCons ma ml ev S = .ok (d :: ds) S2 := by
  unfold mCons
  rw [h, bind_ok, k, bind_ok]
theorem nil_ok {ev : Ev} {S : Sto} : mNil ev S = .ok [] S := rfl
theorem mL_eq {p : List D → Sto → R D} {ml : M (List D)} {ev : Ev} {S S1 : Sto} {ds : List D} (h : ml ev S = .ok ds S1) : mL p ml ev S = p ds S1 := by
  unfold mL
  rw [h, bind_ok]
theorem call_eq {n : Nat} {m : List D → Sto → R D} {ml : M (List D)} {ev : Ev} {S S1 : Sto} {ds : List D} (h : ml ev S = .ok ds S1) (hn : ds.length = n) : mCall n m ml ev S = m ds S1 := by
  unfold mCall
  rw [h, bind_ok, if_pos hn]
theorem m2_eq {p : P2} {ma mb : M D} {ev : Ev} {S S1 S2 : Sto} {x y : D} (h : ma ev S = .ok x S1) (k : mb ev S1 = .ok y S2) : m2 p ma mb ev S = p x y S2 := by
  unfold m2
  rw [h, bind_ok, k, bind_ok]
theorem m1_eq {p : P1} {ma : M D} {ev : Ev} {S S1 : Sto} {x : D} (h : ma ev S = .ok x S1) : m1 p ma ev S = p x S1 := by
  unfold m1
  rw [h, bind_ok]
theorem ret_eq {ma : M D} {ev : Ev} {S S1 : Sto} {d : D} (h : ma ev S = .ok d S1) : sRet ma ev S = .ok (.rt d) ev S1 := by
  unfold sRet
  rw [h]
  rfl
theorem set_eq {i : Nat} {ma : M D} {ev : Ev} {S S1 : Sto} {d : D} (h : ma ev S = .ok d S1) : sSet i ma ev S = .ok .nx (ev.set i (some d)) S1 := by
  unfold sSet
  rw [h]
  rfl
theorem cons_nx {a b : MS} {ev ev1 : Ev} {S S1 : Sto} {r : RS} (h : a ev S = .ok .nx ev1 S1) (k : b ev1 S1 = r) : sCons a b ev S = r := by
  unfold sCons
  rw [h]
  exact k
theorem cons_rt {a b : MS} {ev ev1 : Ev} {S S1 : Sto} {d : D} (h : a ev S = .ok (.rt d) ev1 S1) : sCons a b ev S = .ok (.rt d) ev1 S1 := by
  unfold sCons
  rw [h]
  rfl
theorem def_rt {n : Nat} {b : MS} {ds : List D} {S S1 : Sto} {ev1 : Ev} {d : D} (h : b (startD n ds) S = .ok (.rt d) ev1 S1) : mDef n b ds S = .ok d S1 := by
  unfold mDef
  rw [h]
  rfl
theorem def_nx {n : Nat} {b : MS} {ds : List D} {S S1 : Sto} {ev1 : Ev} (h : b (startD n ds) S = .ok .nx ev1 S1) : mDef n b ds S = .ok .non S1 := by
  unfold mDef
  rw [h]
  rfl
theorem if_yes {c : M Bool} {a b : MS} {ev : Ev} {S S1 : Sto} (h : c ev S = .ok true S1) : sIf c a b ev S = a ev S1 := by
  unfold sIf
  rw [h]
  rfl
theorem if_no {c : M Bool} {a b : MS} {ev : Ev} {S S1 : Sto} (h : c ev S = .ok false S1) : sIf c a b ev S = b ev S1 := by
  unfold sIf
  rw [h]
  rfl
theorem tr_bl {m : M D} {ev : Ev} {S S1 : Sto} {b : Bool} (h : m ev S = .ok (.bl b) S1) : mTr m ev S = .ok b S1 := by
  unfold mTr
  rw [h]
  rfl
theorem mT_bl {m : M D} {ev : Ev} {S S1 : Sto} {b : Bool} (h : m ev S = .ok (.bl b) S1) : mT m ev S = .ok b S1 := by
  unfold mT
  rw [h]
  rfl
theorem not_ok {m : M Bool} {ev : Ev} {S S1 : Sto} {b : Bool} (h : m ev S = .ok b S1) : tNotM m ev S = .ok (!b) S1 := by
  unfold tNotM
  rw [h]
  rfl
theorem expr_nx {m : M D} {ev : Ev} {S S1 : Sto} {d : D} (h : m ev S = .ok d S1) : sExpr m ev S = .ok .nx ev S1 := by
  unfold sExpr
  rw [h]
  rfl
theorem and_t {a b : M D} {ev : Ev} {S S1 : Sto} (h : a ev S = .ok (.bl true) S1) : mAnd a b ev S = b ev S1 := by
  unfold mAnd
  rw [h]
  rfl
theorem and_f {a b : M D} {ev : Ev} {S S1 : Sto} (h : a ev S = .ok (.bl false) S1) : mAnd a b ev S = .ok (.bl false) S1 := by
  unfold mAnd
  rw [h]
  rfl
theorem or_t {a b : M D} {ev : Ev} {S S1 : Sto} (h : a ev S = .ok (.bl true) S1) : mOr a b ev S = .ok (.bl true) S1 := by
  unfold mOr
  rw [h]
  rfl
theorem or_f {a b : M D} {ev : Ev} {S S1 : Sto} (h : a ev S = .ok (.bl false) S1) : mOr a b ev S = b ev S1 := by
  unfold mOr
  rw [h]
  rfl
theorem tand_t {a b : M Bool} {ev : Ev} {S S1 : Sto} (h : a ev S = .ok true S1) : tAndM a b ev S = b ev S1 := by
  unfold tAndM
  rw [h]
  rfl
theorem tand_f {a b : M Bool} {ev : Ev} {S S1 : Sto} (h : a ev S = .ok false S1) : tAndM a b ev S = .ok false S1 := by
  unfold tAndM
  rw [h]
  rfl
theorem tor_t {a b : M Bool} {ev : Ev} {S S1 : Sto} (h : a ev S = .ok true S1) : tOrM a b ev S = .ok true S1 := by
  unfold tOrM
  rw [h]
  rfl
theorem tor_f {a b : M Bool} {ev : Ev} {S S1 : Sto} (h : a ev S = .ok false S1) : tOrM a b ev S = b ev S1 := by
  unfold tOrM
  rw [h]
  rfl
theorem ife_t {α : Type} {c : M Bool} {a b : M α} {ev : Ev} {S S1 : Sto} (h : c ev S = .ok true S1) : mIf c a b ev S = a ev S1 := by
  unfold mIf
  rw [h]
  rfl
theorem ife_f {α : Type} {c : M Bool} {a b : M α} {ev : Ev} {S S1 : Sto} (h : c ev S = .ok false S1) : mIf c a b ev S = b ev S1 := by
  unfold mIf
  rw [h]
  rfl
theorem callK_eq {a b : Nat} {q : List Nat} {m : List D → Sto → R D} {ml mk : M (List D)} {ev : Ev} {S S1 S2 : Sto} {ds zs : List D} (h : ml ev S = .ok ds S1) (k : mk ev S1 = .ok zs S2) (h1 : ds.length = a) (h2 : zs.length = b) : mCallK a b q m ml mk ev S = m (permL q (ds ++ zs)) S2 := by
  unfold mCallK
  rw [h, bind_ok, k, bind_ok, if_pos ⟨h1, h2⟩]
end ML


set_option Elab.async false
set_option linter.all false
set_option maxRecDepth 100000
set_option autoImplicit false
set_option maxHeartbeats 4000000
/-! plain Lean: tables as data; shortest distances; trees that are grown -/
namespace ML
open PySem PySem.Spec PyProof.Rows L2
/-- the rows of a table of n towns -/
def rowF (M : Nat → Nat → Int) (t : Nat) : D := .tup ((List.range (t + 1)).map fun j => D.int (M (t + 1) j))
def tblF (n : Nat) (M : Nat → Nat → Int) : D := .tup [.str "table", .tup ((List.range (n - 1)).map (rowF M))]
theorem atD_nat {ds : List D} {k : Nat} {d : D} (h : ds[k]? = some d) : atD ds (k : Int) = some d := by
  have hk : k < ds.length := (List.getElem?_eq_some_iff.mp h).1
  unfold atD ixN
  rw [if_pos (by omega), if_pos (by omega)]
  show ds[(k : Int).toNat]? = _
  rw [Int.toNat_natCast, h]
theorem atD_map {f : Nat → D} {n k : Nat} (h : k < n) : atD ((List.range n).map f) (k : Int) = some (f k) := by
  refine atD_nat ?_
  rw [List.getElem?_map, List.getElem?_range h]
  rfl
/-- distances: the same either way round, 0 of a town from itself -/
structure Far (n : Nat) (M : Nat → Nat → Int) : Prop where
  sym : ∀ i j, i < n → j < n → M i j = M j i
  diag : ∀ i, i < n → M i i = 0
  pos : ∀ i j, i < n → j < n → 0 ≤ M i j
  le : ∀ i j, i < n → j < n → M i j ≤ 999
/-- a metric -/
structure Met (n : Nat) (M : Nat → Nat → Int) : Prop extends Far n M where
  tri : ∀ i j k, i < n → j < n → k < n → M i k ≤ M i j + M j k
/-! ### shortest distances, town by town -/
def fw1 (k : Nat) (M : Nat → Nat → Int) : Nat → Nat → Int := fun i j => min (M i j) (M i k + M k j)
def fwN (M : Nat → Nat → Int) : Nat → Nat → Nat → Int
  | 0 => M
  | k + 1 => fw1 k (fwN M k)
structure FwI (n s : Nat) (M : Nat → Nat → Int) : Prop extends Far n M where
  tri : ∀ i j k, i < n → j < n → k < n → j < s → M i k ≤ M i j + M j k
theorem fw1_far {n k : Nat} {M : Nat → Nat → Int} (h : Far n M) (hk : k < n) : Far n (fw1 k M) := by
  refine ⟨fun i j hi hj => ?_, fun i hi => ?_, fun i j hi hj => ?_, fun i j hi hj => ?_⟩
  · unfold fw1
    rw [h.sym i j hi hj, h.sym i k hi hk, h.sym k j hk hj, Int.add_comm]
  · unfold fw1
    have := h.diag i hi
    have := h.pos i k hi hk
    have := h.pos k i hk hi
    omega
  · unfold fw1
    have := h.pos i j hi hj
    have := h.pos i k hi hk
    have := h.pos k j hk hj
    omega
  · unfold fw1
    have := h.le i j hi hj
    omega
theorem fw1_row {n k : Nat} {M : Nat → Nat → Int} (h : Far n M) (hk : k < n) (j : Nat) (hj : j < n) : fw1 k M k j = M k j := by
  unfold fw1
  have := h.diag k hk
  omega
theorem fw1_col {n k : Nat} {M : Nat → Nat → Int} (h : Far n M) (hk : k < n) (j : Nat) (hj : j < n) : fw1 k M j k = M j k := by
  unfold fw1
  have := h.diag k hk
  omega
theorem fw1_step {n k : Nat} {M : Nat → Nat → Int} (h : FwI n k M) (hk : k < n) : FwI n (k + 1) (fw1 k M) := by
  refine ⟨fw1_far h.toFar hk, fun i j l hi hj hl hs => ?_⟩
  rcases Nat.lt_or_ge j k with q | q
  · have t1 := h.tri i j l hi hj hl q
    have t2 := h.tri k j l hk hj hl q
    have t3 := h.tri i j k hi hj hk q
    have p1 := h.pos k j hk hj
    have p2 := h.pos j k hj hk
    unfold fw1
    omega
  · have e : j = k := by omega
    subst e
    rw [fw1_col h.toFar hk i hi, fw1_row h.toFar hk l hl]
    unfold fw1
    omega
theorem fwN_inv {n : Nat} {M : Nat → Nat → Int} (h : Far n M) : ∀ k, k ≤ n → FwI n k (fwN M k)
  | 0, _ => ⟨h, fun _ _ _ _ _ _ q => absurd q (by omega)⟩
  | k + 1, hk => fw1_step (fwN_inv h k (by omega)) (by omega)
theorem fwN_met {n : Nat} {M : Nat → Nat → Int} (h : Far n M) : Met n (fwN M n) := by
  have q := fwN_inv h n (Nat.le_refl n)
  exact ⟨q.toFar, fun i j k hi hj hk => q.tri i j k hi hj hk hj⟩
/-! ### a tree that is grown town by town -/
/-- of any four towns, the same ones perhaps, no sum of two distances is above both others -/
def Four (n : Nat) (M : Nat → Nat → Int) : Prop := ∀ x y z w, x < n → y < n → z < n → w < n → M x y + M z w ≤ max (M x z + M y w) (M x w + M y z)
structure Tree (n : Nat) (b : Int) (M : Nat → Nat → Int) : Prop where
  sym : ∀ i j, i < n → j < n → M i j = M j i
  diag : ∀ i, i < n → M i i = 0
  four : Four n M
  le : ∀ i j, i < n → j < n → M i j ≤ b
theorem Tree.pos {n : Nat} {b : Int} {M : Nat → Nat → Int} (h : Tree n b M) (i j : Nat) (hi : i < n) (hj : j < n) : 0 ≤ M i j := by
  have q := h.four i i j j hi hi hj hj
  rw [h.diag i hi, h.diag j hj] at q
  omega
theorem Tree.tri {n : Nat} {b : Int} {M : Nat → Nat → Int} (h : Tree n b M) (i j k : Nat) (hi : i < n) (hj : j < n) (hk : k < n) : M i k ≤ M i j + M j k := by
  have q := h.four i k j j hi hk hj hj
  rw [h.diag j hj, h.sym k j hk hj] at q
  omega
/-- one town more, at a stem from a spot between two -/
def grow (n : Nat) (M : Nat → Nat → Int) (r : Nat → Int) : Nat → Nat → Int := fun i j => if i = n then (if j = n then 0 else r j) else if j = n then r i else M i j
theorem grow_tree {n : Nat} {b : Int} {M : Nat → Nat → Int} (h : Tree n b M) (o p : Nat) (ho : o < n) (hp : p < n) (a st : Int) (ha : 0 ≤ a) (ha2 : a ≤ M p o) (hs : 0 ≤ st) (c : Int) (hc : st ≤ c) (r : Nat → Int)
    (hr : ∀ x, x < n → r x = st + max (M x o - a) (M x p - (M p o - a))) : Tree (n + 1) (b + c) (grow n M r) := by
  have f1 : ∀ x y z, x < n → y < n → z < n → r x + M y z ≤ max (r y + M x z) (r z + M x y) := by
    intro x y z hx hy hz
    have q1 := h.four x o y z hx ho hy hz
    have q2 := h.four x p y z hx hp hy hz
    rw [h.sym o z ho hz, h.sym o y ho hy] at q1
    rw [h.sym p z hp hz, h.sym p y hp hy] at q2
    rw [hr x hx, hr y hy, hr z hz]
    omega
  have f2 : ∀ y z, y < n → z < n → M y z ≤ r y + r z := by
    intro y z hy hz
    have q1 := h.four y z p o hy hz hp ho
    rw [hr y hy, hr z hz]
    omega
  have f0 : ∀ y, y < n → 0 ≤ r y := fun y hy => by
    have := f2 y y hy hy
    rw [h.diag y hy] at this
    omega
  have g1 : ∀ i j, i < n → j < n → grow n M r i j = M i j := fun i j hi hj => by
    unfold grow; rw [if_neg (by omega), if_neg (by omega)]
  have g2 : ∀ j, j < n → grow n M r n j = r j := fun j hj => by
    unfold grow; rw [if_pos rfl, if_neg (by omega)]
  have g3 : ∀ j, j < n → grow n M r j n = r j := fun j hj => by
    unfold grow; rw [if_neg (by omega), if_pos rfl]
  have g4 : grow n M r n n = 0 := by unfold grow; rw [if_pos rfl, if_pos rfl]
  have sy := h.sym
  have dg := h.diag
  refine ⟨fun i j hi hj => ?_, fun i hi => ?_, fun x y z w hx hy hz hw => ?_, fun i j hi hj => ?_⟩
  · rcases Nat.lt_or_ge i n with q | q <;> rcases Nat.lt_or_ge j n with q' | q'
    · rw [g1 i j q q', g1 j i q' q, sy i j q q']
    · have e : j = n := by omega
      subst e; rw [g3 i q, g2 i q]
    · have e : i = n := by omega
      subst e; rw [g3 j q', g2 j q']
    · have e : i = n := by omega
      have e' : j = n := by omega
      subst e; subst e'; rfl
  · rcases Nat.lt_or_ge i n with q | q
    · rw [g1 i i q q, dg i q]
    · have e : i = n := by omega
      subst e; exact g4
  · rcases Nat.lt_or_ge x n with qx | qx <;> rcases Nat.lt_or_ge y n with qy | qy <;> rcases Nat.lt_or_ge z n with qz | qz <;> rcases Nat.lt_or_ge w n with qw | qw
    · rw [g1 x y qx qy, g1 z w qz qw, g1 x z qx qz, g1 y w qy qw, g1 x w qx qw, g1 y z qy qz]
      exact h.four x y z w qx qy qz qw
    · obtain rfl : w = n := by omega
      rw [g1 x y qx qy, g3 z qz, g1 x z qx qz, g3 y qy, g3 x qx, g1 y z qy qz]
      have := f1 z x y qz qx qy
      rw [sy z y qz qy, sy z x qz qx] at this
      omega
    · obtain rfl : z = n := by omega
      rw [g1 x y qx qy, g2 w qw, g3 x qx, g1 y w qy qw, g1 x w qx qw, g3 y qy]
      have := f1 w x y qw qx qy
      rw [sy w y qw qy, sy w x qw qx] at this
      omega
    · obtain rfl : z = n := by omega
      obtain rfl : w = z := by omega
      rw [g1 x y qx qy, g4, g3 x qx, g3 y qy]
      have := f2 x y qx qy
      omega
    · obtain rfl : y = n := by omega
      rw [g3 x qx, g1 z w qz qw, g1 x z qx qz, g2 w qw, g1 x w qx qw, g2 z qz]
      have := f1 x z w qx qz qw
      omega
    · obtain rfl : y = n := by omega
      obtain rfl : w = y := by omega
      rw [g3 x qx, g3 z qz, g1 x z qx qz, g4, g2 z qz]
      omega
    · obtain rfl : y = n := by omega
      obtain rfl : z = y := by omega
      rw [g3 x qx, g2 w qw, g4, g1 x w qx qw]
      omega
    · obtain rfl : y = n := by omega
      obtain rfl : z = y := by omega
      obtain rfl : w = z := by omega
      rw [g3 x qx, g4]
      omega
    · obtain rfl : x = n := by omega
      rw [g2 y qy, g1 z w qz qw, g2 z qz, g1 y w qy qw, g2 w qw, g1 y z qy qz]
      have := f1 y z w qy qz qw
      omega
    · obtain rfl : x = n := by omega
      obtain rfl : w = x := by omega
      rw [g2 y qy, g3 z qz, g4, g1 y z qy qz, g2 z qz, g3 y qy]
      omega
    · obtain rfl : x = n := by omega
      obtain rfl : z = x := by omega
      rw [g2 y qy, g2 w qw, g4, g1 y w qy qw, g3 y qy]
      omega
    · obtain rfl : x = n := by omega
      obtain rfl : z = x := by omega
      obtain rfl : w = z := by omega
      rw [g2 y qy, g4, g3 y qy]
      omega
    · obtain rfl : x = n := by omega
      obtain rfl : y = x := by omega
      rw [g4, g1 z w qz qw, g2 z qz, g2 w qw]
      have := f2 z w qz qw
      omega
    · obtain rfl : x = n := by omega
      obtain rfl : y = x := by omega
      obtain rfl : w = y := by omega
      rw [g4, g3 z qz, g2 z qz]
      omega
    · obtain rfl : x = n := by omega
      obtain rfl : y = x := by omega
      obtain rfl : z = y := by omega
      rw [g4, g2 w qw]
      omega
    · obtain rfl : x = n := by omega
      obtain rfl : y = x := by omega
      obtain rfl : z = y := by omega
      obtain rfl : w = z := by omega
      rw [g4]
      omega
  · have hb : 0 ≤ c := by omega
    have rb : ∀ y, y < n → r y ≤ b + c := fun y hy => by
      have := h.le y o hy ho
      have := h.le y p hy hp
      rw [hr y hy]
      omega
    rcases Nat.lt_or_ge i n with q | q <;> rcases Nat.lt_or_ge j n with q' | q'
    · rw [g1 i j q q']
      have := h.le i j q q'
      omega
    · obtain rfl : j = n := by omega
      rw [g3 i q]
      exact rb i q
    · obtain rfl : i = n := by omega
      rw [g2 j q']
      exact rb j q'
    · obtain rfl : i = n := by omega
      obtain rfl : j = i := by omega
      rw [g4]
      have := rb o ho
      have := f0 o ho
      omega
end ML


set_option Elab.async false
set_option linter.all false
set_option maxRecDepth 100000
set_option autoImplicit false
set_option maxHeartbeats 4000000
/-! plain Lean: lists and tuples, wherever they are held; the same data, wherever they are held -/
namespace ML
open PySem PySem.Spec PyProof.Rows L2
/-! ### a list or a tuple of these -/
inductive Sq (S : Sto) : D → List D → Prop
  | tup (ds : List D) : Sq S (.tup ds) ds
  | lst (ds : List D) : Sq S (.lst ds) ds
  | ref {n : Nat} {ds : List D} (h : S[n]? = some (.lst ds)) : Sq S (.ref n) ds
theorem get_app {S : Sto} {n : Nat} {c : Cell} (h : S[n]? = some c) (T : Sto) : (S ++ T)[n]? = some c := by
  rw [List.getElem?_append_left (List.getElem?_eq_some_iff.mp h).1, h]
theorem Sq.app {S : Sto} {V : D} {ds : List D} (h : Sq S V ds) (T : Sto) : Sq (S ++ T) V ds := by
  cases h with
  | tup => exact .tup _
  | lst => exact .lst _
  | ref h => exact .ref (get_app h T)
theorem Sq.drawn {S : Sto} {V : D} {ds : List D} (h : Sq S V ds) : ∃ deps, drawn S V = some ⟨ds, deps⟩ := by
  cases h with
  | tup => exact ⟨_, rfl⟩
  | lst => exact ⟨_, rfl⟩
  | @ref n ds h =>
    refine ⟨[(n, ds)], ?_⟩
    simp only [ML.drawn, h]
def depsOf (V : D) (ds : List D) : List (Nat × List D) := match V with
  | .ref n => [(n, ds)]
  | _ => []
theorem Sq.dr {S : Sto} {V : D} {ds : List D} (h : Sq S V ds) : ML.drawn S V = some ⟨ds, depsOf V ds⟩ := by
  cases h with
  | tup => rfl
  | lst => rfl
  | ref h => simp only [ML.drawn, h, depsOf]
theorem Sq.live {S : Sto} {V : D} {ds : List D} (h : Sq S V ds) (c : List D) : Src.live ⟨c, depsOf V ds⟩ S = true := by
  have q := drawn_live h.dr
  unfold Src.live at q ⊢
  exact q
theorem Sq.av {S S' : Sto} {V : D} {ds : List D} (h : Sq S V ds) : asVal (some (some V)) S' = .ok V S' := by
  cases h <;> rfl
theorem Sq.isi {S : Sto} {V : D} {ds : List D} (h : Sq S V ds) : pisi [V, .tup [.ty "list", .ty "tuple"]] S = .ok (.bl true) S := by
  cases h with
  | tup => rfl
  | lst => rfl
  | ref h =>
    show (match kindOf S (.ref _) with
      | some k => match kisOf [.ty "list", .ty "tuple"] with
        | some ks => R.ok (D.bl (ks.any fun t => k.isA t)) S
        | none => .no
      | none => .no) = _
    simp only [kindOf, h]
    rfl
theorem Sq.isi2 {S : Sto} {V : D} {ds : List D} (h : Sq S V ds) : pisi [V, .tup [.ty "tuple", .ty "list"]] S = .ok (.bl true) S := by
  cases h with
  | tup => rfl
  | lst => rfl
  | ref h =>
    show (match kindOf S (.ref _) with
      | some k => match kisOf [.ty "tuple", .ty "list"] with
        | some ks => R.ok (D.bl (ks.any fun t => k.isA t)) S
        | none => .no
      | none => .no) = _
    simp only [kindOf, h]
    rfl
theorem Sq.len {S : Sto} {V : D} {ds : List D} (h : Sq S V ds) : plen [V] S = .ok (.int ds.length) S := by
  cases h with
  | tup => rfl
  | lst => rfl
  | ref h =>
    show (match seqOf S (.ref _) with | some ds => R.ok (D.int ds.length) S | none => .no) = _
    simp only [seqOf, h]
theorem Sq.py {S : Sto} {V : D} {ds : List D} (h : Sq S V ds) {n : Nat} {es : List PyData} (he : pyL (py n S) ds = some es) : ∃ x, py (n + 1) S V = some x ∧ (x = .tuple es ∨ x = .list es) := by
  cases h with
  | tup =>
    refine ⟨.tuple es, ?_, .inl rfl⟩
    show (match pyL (ML.py n S) ds with | some xs => some (PyData.tuple xs) | none => none) = _
    rw [he]
  | lst =>
    refine ⟨.list es, ?_, .inr rfl⟩
    show (match pyL (ML.py n S) ds with | some xs => some (PyData.list xs) | none => none) = _
    rw [he]
  | ref h =>
    refine ⟨.list es, ?_, .inr rfl⟩
    simp only [ML.py, h, he]
theorem cut_one (ds : List D) : ML.cutD ds (some 1) none = ds.tail := by
  unfold ML.cutD
  have h : HT.sIx ds.length 0 (some 1) = min 1 ds.length := HT.sIx_nat ds.length 0 1
  rw [h, HT.sIx_none]
  cases ds with
  | nil => rfl
  | cons a l =>
    rw [List.length_cons, Nat.min_eq_left (by omega)]
    show l.take (l.length + 1 - 1) = l
    rw [Nat.add_sub_cancel, List.take_length]
/-- a list from its second item on -/
theorem Sq.tail {S : Sto} {V : D} {ds : List D} (h : Sq S V ds) {ev : Ev} {i : Nat} (hi : ev[i]? = some (some V)) : ∃ V', mSl false (mVar i) (oSome (mC (.int 1))) oNone ev S = .ok V' S ∧ Sq S V' ds.tail := by
  cases h with
  | tup =>
    refine ⟨.tup ds.tail, ?_, .tup _⟩
    rw [← cut_one]
    simp [mSl, mVar, hi, asV_tup, R.bind, oNone, oSome, mC, pslice, asI]
  | lst =>
    refine ⟨.lst ds.tail, ?_, .lst _⟩
    rw [← cut_one]
    simp [mSl, mVar, hi, asV_lst, R.bind, oNone, oSome, mC, pslice, asI, seqOf, mkL]
  | ref h =>
    refine ⟨.lst ds.tail, ?_, .lst _⟩
    rw [← cut_one]
    simp [mSl, mVar, hi, asV_ref, R.bind, oNone, oSome, mC, pslice, asI, seqOf, mkL, h]
theorem zipD_is : ∀ as bs : List D, zipD as bs = (as.zip bs).map fun p => D.tup [p.1, p.2]
  | [], _ => by simp [zipD]
  | _ :: _, [] => by simp [zipD]
  | a :: as, b :: bs => by show .tup [a, b] :: zipD as bs = _; rw [zipD_is as bs]; rfl
theorem live_app {S : Sto} {a b : List D} {d1 d2 : List (Nat × List D)} (h1 : Src.live ⟨a, d1⟩ S = true) (h2 : Src.live ⟨b, d2⟩ S = true) (c : List D) : Src.live ⟨c, d1 ++ d2⟩ S = true := by
  unfold Src.live at *
  rw [List.all_append, h1, h2]
  rfl
theorem src_zip {ma mb : M D} {ev : Ev} {S : Sto} {x y : D} {as bs : List D} (h : ma ev S = .ok x S) (k : mb ev S = .ok y S) (hx : Sq S x as) (hy : Sq S y bs) : ∃ deps, mZip (mCons ma (mCons mb mNil)) ev S = .ok ⟨(as.zip bs).map (fun p => D.tup [p.1, p.2]), deps⟩ S ∧ ∀ c, Src.live ⟨c, deps⟩ S = true := by
  obtain ⟨d1, e1⟩ := hx.drawn
  obtain ⟨d2, e2⟩ := hy.drawn
  refine ⟨d1 ++ d2, ?_, live_app (drawn_live e1) (drawn_live e2)⟩
  unfold mZip
  rw [cons_ok h (cons_ok k nil_ok)]
  show (match ML.drawn S x, ML.drawn S y with
    | some c1, some c2 => R.ok (Src.mk (zipD c1.items c2.items) (c1.deps ++ c2.deps)) S
    | _, _ => .no) = _
  rw [e1, e2]
  simp only []
  rw [zipD_is]
theorem Sq.src {S : Sto} {V : D} {ds : List D} (h : Sq S V ds) {ev : Ev} {i : Nat} (hi : ev[i]? = some (some V)) : ∃ deps, mSrc (mVar i) ev S = .ok ⟨ds, deps⟩ S ∧ ∀ c, Src.live ⟨c, deps⟩ S = true := by
  obtain ⟨deps, e⟩ := h.drawn
  have lv : ∀ c, Src.live ⟨c, deps⟩ S = true := fun c => by
    have q := drawn_live e
    unfold Src.live at q ⊢
    exact q
  refine ⟨deps, src_seq ?_ e, lv⟩
  unfold mVar
  rw [hi]
  exact h.av
/-! ### the same -/
def sameR : Nat → Sto → D → D → Bool
  | 0, _, _, _ => false
  | n + 1, S, a, b => match a, b with
    | .non, .non => true
    | .bl x, .bl y => x == y
    | .int x, .int y => decide (x = y)
    | .str x, .str y => decide (x = y)
    | .tup xs, .tup ys => decide (xs.length = ys.length) && decide (xs.length ≤ 16777216) && (xs.zip ys).all fun p => sameR n S p.1 p.2
    | a, b => match seqM S a, seqM S b with
      | some xs, some ys => decide (xs.length = ys.length) && decide (xs.length ≤ 16777216) && (xs.zip ys).all fun p => sameR n S p.1 p.2
      | _, _ => false
theorem seqM_sq {S : Sto} {d : D} {ds : List D} (h : seqM S d = some ds) : Sq S d ds := by
  cases d with
  | lst es => simp only [seqM, Option.some.injEq] at h; subst h; exact .lst _
  | ref n =>
    simp only [seqM] at h
    split at h
    · rename_i q
      rw [Option.some.inj h] at q
      exact .ref q
    · cases h
  | _ => simp [seqM] at h
theorem seqM_kind {S : Sto} {d : D} {ds : List D} (h : seqM S d = some ds) : kindOf S d = some .lst := by
  cases d with
  | lst es => rfl
  | ref n =>
    simp only [seqM] at h
    split at h
    · rename_i q
      simp only [kindOf, q]
    · cases h
  | _ => simp [seqM] at h
theorem kind_isi {S : Sto} {d : D} (h : kindOf S d = some .lst) : pisi [d, .ty "int"] S = .ok (.bl false) S ∧ pisi [d, .ty "bool"] S = .ok (.bl false) S ∧ pisi [d, .ty "str"] S = .ok (.bl false) S ∧ pisi [d, .ty "tuple"] S = .ok (.bl false) S ∧ pisi [d, .ty "list"] S = .ok (.bl true) S := by
  have e : ∀ n t, kiN n = some t → pisi [d, .ty n] S = .ok (.bl (Ki.lst.isA t)) S := fun n t q => by
    show (match kindOf S d, kiN n with
      | some k, some t => R.ok (D.bl (k.isA t)) S
      | _, _ => .no) = _
    rw [h, q]
  exact ⟨e "int" .int rfl, e "bool" .bool rfl, e "str" .str rfl, e "tuple" .tup rfl, e "list" .lst rfl⟩
theorem sq_not_non {S : Sto} {d : D} {ds : List D} (h : Sq S d ds) (S' : Sto) : pisN d S' = .ok (.bl false) S' := by
  cases h <;> rfl
theorem same_r : ∀ (n : Nat) (a b : D) (S : Sto), sameR n S a b = true → rSame n [a, b] S = .ok (.bl true) S
  | 0, _, _, _, h => by cases h
  | n + 1, a, b, S, h => by
    have ih := fun a b S => same_r n a b S
    have nx : ∀ a b, sameR n S a b = true → asVal (some (some a)) S = .ok a S ∧ asVal (some (some b)) S = .ok b S := by
      intro a b h
      cases n with
      | zero => cases h
      | succ n =>
        cases a <;> cases b <;> first | exact ⟨rfl, rfl⟩ | (simp [sameR, seqM] at h)
    have loop : ∀ (x y : D) (xs ys : List D), Sq S x xs → Sq S y ys → (xs.length = ys.length ∧ xs.length ≤ 16777216) ∧ (∀ p ∈ xs.zip ys, sameR n S p.1 p.2 = true) →
        mL pall (mCons (mLc false (([("near", 2), ("far", 3)] : List (Str × Nat)).map (·.2)) id (mZip (mCons (mVar 0) (mCons (mVar 1) (mNil)))) (tgT 2 (tgCons (tgN 2) (tgCons (tgN 3) (tgNil)))) (mYes) (mCall 2 (rSame n) (mCons (mVar 2) (mCons (mVar 3) (mNil))))) mNil) [some x, some y, none, none] S = .ok (.bl true) S := by
      intro x y xs ys hx hy hp
      have e0 : mVar 0 [some x, some y, none, none] S = .ok x S := hx.av
      have e1 : mVar 1 [some x, some y, none, none] S = .ok y S := hy.av
      obtain ⟨deps, z1, z2⟩ := src_zip e0 e1 hx hy
      have hc := lc_mp (nw := false) (own := ([("near", 2), ("far", 3)] : List (Str × Nat)).map (·.2)) (fe := id) (tg := tgT 2 (tgCons (tgN 2) (tgCons (tgN 3) tgNil))) (cond := mYes) (el := mCall 2 (rSame n) (mCons (mVar 2) (mCons (mVar 3) mNil))) (xs.zip ys) (fun p => D.tup [p.1, p.2]) (fun p => D.bl ((fun _ => true) p)) z1 (z2 _) (by rw [List.length_zip]; omega) (fun p hpm => by
        obtain ⟨a1, a2⟩ := nx _ _ (hp.2 p hpm)
        refine ⟨[some x, some y, some p.1, some p.2], rfl, rfl, ?_⟩
        refine (call_eq (cons_ok (S1 := S) (d := p.1) ?_ (cons_ok (S1 := S) (d := p.2) ?_ nil_ok)) rfl).trans (ih _ _ S (hp.2 p hpm))
        · exact a1
        · exact a2)
      refine (all_ok hc).trans ?_
      rw [List.all_eq_true.mpr fun _ _ => rfl]
    have lists : ∀ (x y : D) (xs ys : List D), seqM S x = some xs → seqM S y = some ys → (xs.length = ys.length ∧ xs.length ≤ 16777216) ∧ (∀ p ∈ xs.zip ys, sameR n S p.1 p.2 = true) → rSame (n + 1) [x, y] S = .ok (.bl true) S := by
      intro x y xs ys ex ey hp
      have hx := seqM_sq ex
      have hy := seqM_sq ey
      have kx := kind_isi (seqM_kind ex)
      have ky := kind_isi (seqM_kind ey)
      have l := loop x y xs ys hx hy hp
      have e0 : mVar 0 [some x, some y, none, none] S = .ok x S := hx.av
      have e1 : mVar 1 [some x, some y, none, none] S = .ok y S := hy.av
      have tyv : ∀ (m : M D) (d : D) (t : String) (b : Bool), m [some x, some y, none, none] S = .ok d S → pisi [d, .ty t] S = .ok (.bl b) S → mTr (mL pisi (mCons m (mCons (mC (.ty t)) mNil))) [some x, some y, none, none] S = .ok b S := fun m d t b h1 h2 => tr_bl ((mL_eq (cons_ok h1 (cons_ok rfl nil_ok))).trans h2)
      unfold rSame sameB
      refine def_rt (ev1 := [some x, some y, none, none]) ?_
      refine cons_nx (if_no (mT_bl ((m1_eq e1).trans (sq_not_non hy S)))) ?_
      refine cons_nx (if_no (tyv _ _ _ _ e1 ky.2.1)) ?_
      refine cons_nx (if_no (tyv _ _ _ _ e1 ky.2.2.1)) ?_
      refine cons_nx (if_no (tyv _ _ _ _ e1 ky.1)) ?_
      refine cons_nx (if_no (tyv _ _ _ _ e1 ky.2.2.2.1)) ?_
      refine cons_rt ?_
      refine (if_yes (tyv _ _ _ _ e1 ky.2.2.2.2)).trans ?_
      refine cons_nx (if_no ((tor_f (not_ok (tyv _ _ _ _ e0 kx.2.2.2.2))).trans ?_)) (ret_eq l)
      refine mT_bl ((m2_eq ((mL_eq (cons_ok e0 nil_ok)).trans hx.len) ((mL_eq (cons_ok e1 nil_ok)).trans hy.len)).trans ?_)
      show R.ok (D.bl (!decide ((xs.length : Int) = (ys.length : Int)))) S = _
      rw [hp.1.1]
      simp
    cases a with
    | non => cases b <;> first | exact same_ok (n + 1) _ S rfl | (simp [sameR, seqM] at h)
    | bl x =>
      cases b with
      | bl y =>
        have : x = y := by simpa [sameR] using h
        subst this
        exact same_ok (n + 1) _ S rfl
      | _ => simp [sameR, seqM] at h
    | int x =>
      cases b with
      | int y =>
        have : x = y := by simpa [sameR] using h
        subst this
        exact same_ok (n + 1) _ S rfl
      | _ => simp [sameR, seqM] at h
    | str x =>
      cases b with
      | str y =>
        have : x = y := by simpa [sameR] using h
        subst this
        exact same_ok (n + 1) _ S rfl
      | _ => simp [sameR, seqM] at h
    | tup xs =>
      cases b with
      | tup ys =>
        have hp : (xs.length = ys.length ∧ xs.length ≤ 16777216) ∧ ∀ p ∈ xs.zip ys, sameR n S p.1 p.2 = true := by
          simp only [sameR, Bool.and_eq_true, decide_eq_true_eq, List.all_eq_true] at h
          exact h
        have l := loop _ _ xs ys (.tup xs) (.tup ys) hp
        have e0 : mVar 0 [some (D.tup xs), some (D.tup ys), none, none] S = .ok (.tup xs) S := rfl
        have e1 : mVar 1 [some (D.tup xs), some (D.tup ys), none, none] S = .ok (.tup ys) S := rfl
        have tyv : ∀ (m : M D) (d : D) (t : String) (b : Bool), m [some (D.tup xs), some (D.tup ys), none, none] S = .ok d S → pisi [d, .ty t] S = .ok (.bl b) S → mTr (mL pisi (mCons m (mCons (mC (.ty t)) mNil))) [some (D.tup xs), some (D.tup ys), none, none] S = .ok b S := fun m d t b h1 h2 => tr_bl ((mL_eq (cons_ok h1 (cons_ok rfl nil_ok))).trans h2)
        unfold rSame sameB
        refine def_rt (ev1 := [some (D.tup xs), some (D.tup ys), none, none]) ?_
        refine cons_nx (if_no (mT_bl (S1 := S) (b := false) rfl)) ?_
        refine cons_nx (if_no (tyv _ _ _ _ e1 (isi_tup ys S).2.1)) ?_
        refine cons_nx (if_no (tyv _ _ _ _ e1 (isi_tup ys S).2.2.1)) ?_
        refine cons_nx (if_no (tyv _ _ _ _ e1 (isi_tup ys S).1)) ?_
        refine cons_rt ?_
        refine (if_yes (tyv _ _ _ _ e1 (isi_tup ys S).2.2.2.1)).trans ?_
        refine cons_nx (if_no ((tor_f (not_ok (tyv _ _ _ _ e0 (isi_tup xs S).2.2.2.1))).trans ?_)) (ret_eq l)
        refine mT_bl ((m2_eq ((mL_eq (cons_ok e0 nil_ok)).trans (Sq.tup xs).len) ((mL_eq (cons_ok e1 nil_ok)).trans (Sq.tup ys).len)).trans ?_)
        show R.ok (D.bl (!decide ((xs.length : Int) = (ys.length : Int)))) S = _
        rw [hp.1.1]
        simp
      | _ => simp [sameR, seqM] at h
    | lst xs =>
      have q : ∃ ys, seqM S b = some ys := by
        cases e : seqM S b with
        | some ys => exact ⟨ys, rfl⟩
        | none => cases b <;> simp [sameR, seqM] at h e <;> first | (rw [e] at h; cases h) | skip
                  all_goals (split at h <;> simp_all)
      obtain ⟨ys, e⟩ := q
      have hs : sameR (n + 1) S (.lst xs) b = (match seqM S (.lst xs), seqM S b with
        | some xs, some ys => decide (xs.length = ys.length) && decide (xs.length ≤ 16777216) && (xs.zip ys).all fun p => sameR n S p.1 p.2
        | _, _ => false) := by cases b <;> rfl
      rw [hs, e] at h
      simp only [seqM, Bool.and_eq_true, decide_eq_true_eq, List.all_eq_true] at h
      exact lists _ _ xs ys rfl e h
    | ref k =>
      have hs : sameR (n + 1) S (.ref k) b = (match seqM S (.ref k), seqM S b with
        | some xs, some ys => decide (xs.length = ys.length) && decide (xs.length ≤ 16777216) && (xs.zip ys).all fun p => sameR n S p.1 p.2
        | _, _ => false) := by cases b <;> rfl
      rw [hs] at h
      cases ea : seqM S (.ref k) with
      | none => rw [ea] at h; cases h
      | some xs =>
        cases eb : seqM S b with
        | none => rw [ea, eb] at h; cases h
        | some ys =>
          rw [ea, eb] at h
          simp only [Bool.and_eq_true, decide_eq_true_eq, List.all_eq_true] at h
          exact lists _ _ xs ys ea eb h
    | _ => cases b <;> simp [sameR, seqM] at h
end ML


set_option Elab.async false
set_option linter.all false
set_option maxRecDepth 100000
set_option autoImplicit false
set_option maxHeartbeats 4000000
/-! plain Lean: drawn tables, as more than one law of this program draws them: grown trees with wrong measures, shortest distances -/
namespace ML
open PySem PySem.Spec PyProof.Rows L2
def bLfar : MS := sRet (mIf (mT (m2 peq (mVar 1) (mVar 2))) (mC (.int 0)) (m2 pix (m2 pix (m2 pix (mVar 0) (mC (.int 1))) (m2 psub (mL pmax2 (mCons (mVar 1) (mCons (mVar 2) (mNil)))) (mC (.int 1)))) (mL pmin2 (mCons (mVar 1) (mCons (mVar 2) (mNil))))))
def mLfar : List D → Sto → R D := mDef (["table", "one", "other"] : List Str).length bLfar
def c1Ltable : M D := mLc false (([("row", 1)] : List (Str × Nat)).map (·.2)) id (mSrc (mVar 0)) (tgN 1) (mYes) (mL ptuple (mCons (mVar 1) (mNil)))
def bLtable : MS := sRet (mL ptup (mCons (mC (.str "table")) (mCons (mL ptuple (mCons (c1Ltable) (mNil))) (mNil))))
def mLtable : List D → Sto → R D := mDef (["rows", "row"] : List Str).length bLtable
def c1Lclosed : M D := mLc false (([("other", 6)] : List (Str × Nat)).map (·.2)) id (mRange1 (mCons (mVar 1) (mNil))) (tgN 6) (mYes) (mIf (mT (m2 peq (mVar 4) (mVar 6))) (mC (.int 0)) (m2 pix (m2 pix (mVar 0) (m2 psub (mL pmax2 (mCons (mVar 4) (mCons (mVar 6) (mNil)))) (mC (.int 1)))) (mL pmin2 (mCons (mVar 4) (mCons (mVar 6) (mNil))))))
def c2Lclosed : M D := mLc true (([("one", 4)] : List (Str × Nat)).map (·.2)) id (mRange1 (mCons (mVar 1) (mNil))) (tgN 4) (mYes) (c1Lclosed)
def c3Lclosed : M D := mLc false (([("other", 6)] : List (Str × Nat)).map (·.2)) id (mRange1 (mCons (mVar 1) (mNil))) (tgN 6) (mYes) (mL pmin2 (mCons (m2 pix (m2 pix (mVar 2) (mVar 4)) (mVar 6)) (mCons (m2 (padd false) (m2 pix (m2 pix (mVar 2) (mVar 4)) (mVar 3)) (m2 pix (m2 pix (mVar 2) (mVar 3)) (mVar 6))) (mNil))))
def w1Lclosed : MS := sAsg (tgSub (mVar 2) (mVar 4)) (c3Lclosed)
def l1Lclosed : MS := sFor (mRange1 (mCons (mVar 1) (mNil))) (tgN 4) (w1Lclosed)
def w2Lclosed : MS := l1Lclosed
def l2Lclosed : MS := sFor (mRange1 (mCons (mVar 1) (mNil))) (tgN 3) (w2Lclosed)
def c4Lclosed : M D := mLc false (([("town", 5)] : List (Str × Nat)).map (·.2)) id (mRange2 (mCons (mC (.int 1)) (mCons (mVar 1) (mNil)))) (tgN 5) (mYes) (mSl false (m2 pix (mVar 2) (mVar 5)) (oNone) (oSome (mVar 5)))
def bLclosed : MS := sCons (sSet 1 (m2 (padd false) (mL plen (mCons (mVar 0) (mNil))) (mC (.int 1)))) (sCons (sSet 2 (c2Lclosed)) (sCons (l2Lclosed) (sRet (c4Lclosed))))
def mLclosed : List D → Sto → R D := mDef (["rows", "many", "told", "stop", "one", "town", "other"] : List Str).length bLclosed
def w1Ltree_rows : MS := sCons (sSet 11 (mIf (mT (m2 peq (mVar 10) (mVar 4))) (mC (.int 0)) (m2 pix (m2 pix (mVar 2) (m2 psub (mL pmax2 (mCons (mVar 10) (mCons (mVar 4) (mNil)))) (mC (.int 1)))) (mL pmin2 (mCons (mVar 10) (mCons (mVar 4) (mNil))))))) (sCons (sSet 12 (mIf (mT (m2 peq (mVar 10) (mVar 5))) (mC (.int 0)) (m2 pix (m2 pix (mVar 2) (m2 psub (mL pmax2 (mCons (mVar 10) (mCons (mVar 5) (mNil)))) (mC (.int 1)))) (mL pmin2 (mCons (mVar 10) (mCons (mVar 5) (mNil))))))) (sExpr (mMe isSeq pappend (mVar 9) (mCons (m2 (padd false) (mVar 8) (mL pmax2 (mCons (m2 psub (mVar 11) (mVar 7)) (mCons (m2 psub (mVar 12) (m2 psub (mVar 6) (mVar 7))) (mNil))))) (mNil)))))
def l1Ltree_rows : MS := sFor (mRange1 (mCons (mVar 3) (mNil))) (tgN 10) (w1Ltree_rows)
def w2Ltree_rows : MS := sCons (sSet 4 (mCall 2 mDraw (mCons (mVar 0) (mCons (m2 psub (mVar 3) (mC (.int 1))) (mNil))))) (sCons (sSet 5 (m2 (padd false) (m2 (padd false) (mVar 4) (mC (.int 1))) (mCall 2 mDraw (mCons (mVar 0) (mCons (m2 psub (m2 psub (mVar 3) (mC (.int 1))) (mVar 4)) (mNil)))))) (sCons (sSet 6 (m2 pix (m2 pix (mVar 2) (m2 psub (mVar 5) (mC (.int 1)))) (mVar 4))) (sCons (sPar 7 8 (mCons (mCall 2 mDraw (mCons (mVar 0) (mCons (m2 (padd false) (mVar 6) (mC (.int 1))) (mNil)))) (mCons (mCall 2 mDraw (mCons (mVar 0) (mCons (mC (.int 7)) (mNil)))) (mNil)))) (sCons (sSet 9 (mL (plst true) (mNil))) (sCons (l1Ltree_rows) (sExpr (mMe isSeq pappend (mVar 2) (mCons (mVar 9) (mNil)))))))))
def l2Ltree_rows : MS := sFor (mRange2 (mCons (mC (.int 2)) (mCons (mVar 1) (mNil)))) (tgN 3) (w2Ltree_rows)
def bLtree_rows : MS := sCons (sSet 2 (mL (plst true) (mCons (mL (plst true) (mCons (m2 (padd false) (mC (.int 1)) (mCall 2 mDraw (mCons (mVar 0) (mCons (mC (.int 9)) (mNil))))) (mNil))) (mNil)))) (sCons (l2Ltree_rows) (sRet (mVar 2)))
def mLtree_rows : List D → Sto → R D := mDef (["pot", "many", "rows", "town", "one", "other", "much", "along", "stem", "row", "near", "first", "second"] : List Str).length bLtree_rows
def w1Lmetric : MS := sCons (sSet 6 (m2 (padd false) (mC (.int 1)) (mCall 2 mDraw (mCons (mVar 0) (mCons (m2 psub (mVar 3) (mC (.int 1))) (mNil)))))) (sCons (sSet 7 (mCall 2 mDraw (mCons (mVar 0) (mCons (mVar 6) (mNil))))) (sAsg (tgSub (m2 pix (mVar 4) (m2 psub (mVar 6) (mC (.int 1)))) (mVar 7)) (m2 (padd false) (mC (.int 1)) (mCall 2 mDraw (mCons (mVar 0) (mCons (mC (.int 20)) (mNil)))))))
def l1Lmetric : MS := sFor (mRange1 (mCons (mCall 2 mDraw (mCons (mVar 0) (mCons (m2 (padd false) (mVar 2) (mC (.int 1))) (mNil)))) (mNil))) (tgN 5) (w1Lmetric)
def bLmetric : MS := sCons (sSet 3 (m2 (padd false) (mC (.int 2)) (mCall 2 mDraw (mCons (mVar 0) (mCons (m2 psub (mVar 1) (mC (.int 1))) (mNil)))))) (sCons (sSet 4 (mCall 2 mLtree_rows (mCons (mVar 0) (mCons (mVar 3) (mNil))))) (sCons (l1Lmetric) (sRet (mCall 1 mLtable (mCons (mCall 1 mLclosed (mCons (mVar 4) (mNil))) (mNil))))))
def mLmetric : List D → Sto → R D := mDef (["pot", "most", "wrong", "many", "rows", "step", "town", "near"] : List Str).length bLmetric
/-! ### what is kept -/
structure Kp (p : Nat) (S S' : Sto) : Prop where
  len : S.length ≤ S'.length
  pot : Pot S' p
  keep : ∀ i, i < S.length → i ≠ p → S'[i]? = S[i]?
theorem Kp.refl {p : Nat} {S : Sto} (h : Pot S p) : Kp p S S := ⟨Nat.le_refl _, h, fun _ _ _ => rfl⟩
theorem Kp.trans {p : Nat} {S S' S'' : Sto} (h : Kp p S S') (k : Kp p S' S'') : Kp p S S'' := ⟨Nat.le_trans h.len k.len, k.pot, fun i hi hp => by rw [k.keep i (Nat.lt_of_lt_of_le hi h.len) hp, h.keep i hi hp]⟩
theorem Pot.app {p : Nat} {S : Sto} (h : Pot S p) (T : Sto) : Pot (S ++ T) p := by
  obtain ⟨a, b, ha, e⟩ := h
  exact ⟨a, b, ha, get_app e T⟩
theorem Kp.app {p : Nat} {S S' : Sto} (h : Kp p S S') (T : Sto) : Kp p S (S' ++ T) := ⟨by rw [List.length_append]; have := h.len; omega, h.pot.app T, fun i hi hp => by rw [List.getElem?_append_left (Nat.lt_of_lt_of_le hi h.len), h.keep i hi hp]⟩
theorem Kp.chg {p : Nat} {S S' S'' : Sto} (h : Kp p S S') (c : Chg p S' S'') : Kp p S S'' := ⟨by rw [c.len]; exact h.len, c.pot h.pot, fun i hi hp => by rw [c.other hp, h.keep i hi hp]⟩
theorem Kp.set {p k : Nat} {S S' : Sto} (h : Kp p S S') (hp : p < S.length) (hk : S.length ≤ k) (c : Cell) : Kp p S (S'.set k c) := by
  refine ⟨by rw [List.length_set]; exact h.len, ?_, fun i hi hp => ?_⟩
  · obtain ⟨a, b, ha, e⟩ := h.pot
    exact ⟨a, b, ha, by rw [List.getElem?_set_ne (by omega)]; exact e⟩
  · rw [List.getElem?_set_ne (by omega), h.keep i hi hp]
/-! ### rows -/
def rowL (M : Nat → Nat → Int) (t : Nat) : List D := (List.range (t + 1)).map fun j => D.int (M (t + 1) j)
structure Rws (S : Sto) (lo r n : Nat) (M : Nat → Nat → Int) (ks : List Nat) : Prop where
  len : ks.length + 1 = n
  head : S[r]? = some (Cell.lst (ks.map D.ref))
  nd : ks.Nodup
  out : r ∉ ks
  low : lo ≤ r
  lows : ∀ k ∈ ks, lo ≤ k
  row : ∀ t k, ks[t]? = some k → S[k]? = some (Cell.lst (rowL M t))
theorem Rws.keep {S S' : Sto} {lo r n : Nat} {M : Nat → Nat → Int} {ks : List Nat} (h : Rws S lo r n M ks) (hk : ∀ i, lo ≤ i → i < S.length → S'[i]? = S[i]?) : Rws S' lo r n M ks := by
  refine ⟨h.len, ?_, h.nd, h.out, h.low, h.lows, fun t k e => ?_⟩
  · rw [hk r h.low (List.getElem?_eq_some_iff.mp h.head).1, h.head]
  · have q := h.row t k e
    rw [hk k (h.lows k (List.mem_of_getElem? e)) (List.getElem?_eq_some_iff.mp q).1, q]
theorem Rws.app {S : Sto} {lo r n : Nat} {M : Nat → Nat → Int} {ks : List Nat} (h : Rws S lo r n M ks) (T : Sto) : Rws (S ++ T) lo r n M ks := h.keep fun i _ hi => by rw [List.getElem?_append_left hi]
theorem Rws.chg {S S' : Sto} {p lo r n : Nat} {M : Nat → Nat → Int} {ks : List Nat} (h : Rws S lo r n M ks) (c : Chg p S S') (hp : p < lo) : Rws S' lo r n M ks := h.keep fun i hi _ => c.other (by omega)
theorem atD_get {ds : List D} {t : Nat} {d : D} (h : ds[t]? = some d) : atD ds (t : Int) = some d := atD_nat h
theorem pix_ref {S : Sto} {r t : Nat} {ds : List D} {d : D} (h : S[r]? = some (.lst ds)) (k : ds[t]? = some d) : pix (.ref r) (.int (t : Int)) S = .ok d S := by
  have e := atD_nat k
  simp [pix, seqOf, h, e]
theorem pix_lst {S : Sto} {t : Nat} {ds : List D} {d : D} (k : ds[t]? = some d) : pix (.lst ds) (.int (t : Int)) S = .ok d S := by
  have e := atD_nat k
  simp [pix, seqOf, e]
theorem rowL_get (M : Nat → Nat → Int) {t j : Nat} (h : j ≤ t) : (rowL M t)[j]? = some (.int (M (t + 1) j)) := by
  unfold rowL
  rw [List.getElem?_map, List.getElem?_range (by omega)]
  rfl
theorem Rws.ix {S : Sto} {lo r n : Nat} {M : Nat → Nat → Int} {ks : List Nat} (h : Rws S lo r n M ks) {t : Nat} (ht : t + 1 < n) : ∃ k, ks[t]? = some k ∧ pix (.ref r) (.int (t : Int)) S = .ok (.ref k) S ∧ ∀ j, j ≤ t → pix (.ref k) (.int (j : Int)) S = .ok (.int (M (t + 1) j)) S := by
  have hl := h.len
  have e : ks[t]? = some (ks[t]'(by omega)) := List.getElem?_eq_getElem (by omega)
  refine ⟨_, e, pix_ref h.head (by rw [List.getElem?_map, e]; rfl), fun j hj => pix_ref (h.row t _ e) (rowL_get M hj)⟩
def rfarE (x a b : Nat) : ML.M D := mIf (mT (m2 peq (mVar a) (mVar b))) (mC (.int 0)) (m2 pix (m2 pix (mVar x) (m2 psub (mL pmax2 (mCons (mVar a) (mCons (mVar b) (mNil)))) (mC (.int 1)))) (mL pmin2 (mCons (mVar a) (mCons (mVar b) (mNil)))))
theorem rfar_ok {S : Sto} {lo r n : Nat} {M : Nat → Nat → Int} {ks : List Nat} (h : Rws S lo r n M ks) {i j : Nat} (hi : i < n) (hj : j < n) (sy : M i j = M j i) (dg : M i i = 0) {ev : Ev} {x a b : Nat} (hx : ev[x]? = some (some (.ref r))) (ha : ev[a]? = some (some (.int (i : Int)))) (hb : ev[b]? = some (some (.int (j : Int)))) :
    rfarE x a b ev S = .ok (.int (M i j)) S := by
  have vx : mVar x ev S = .ok (.ref r) S := by unfold mVar; rw [hx]; rfl
  have va : mVar a ev S = .ok (.int (i : Int)) S := by unfold mVar; rw [ha]; rfl
  have vb : mVar b ev S = .ok (.int (j : Int)) S := by unfold mVar; rw [hb]; rfl
  have hc : mT (m2 peq (mVar a) (mVar b)) ev S = .ok (decide ((i : Int) = (j : Int))) S := mT_bl ((m2_eq va vb).trans rfl)
  have mx : mL pmax2 (mCons (mVar a) (mCons (mVar b) (mNil))) ev S = .ok (.int ((max i j : Nat) : Int)) S := by
    refine (mL_eq (cons_ok va (cons_ok vb nil_ok))).trans ?_
    show R.ok (D.int (if (j : Int) > (i : Int) then (j : Int) else (i : Int))) S = _
    congr 2
    split <;> omega
  have mn : mL pmin2 (mCons (mVar a) (mCons (mVar b) (mNil))) ev S = .ok (.int ((min i j : Nat) : Int)) S := by
    refine (mL_eq (cons_ok va (cons_ok vb nil_ok))).trans ?_
    show R.ok (D.int (if (j : Int) < (i : Int) then (j : Int) else (i : Int))) S = _
    congr 2
    split <;> omega
  unfold rfarE
  by_cases e : i = j
  · subst e
    rw [ife_t (S1 := S) (hc.trans (by simp))]
    rw [dg]
    rfl
  · rw [ife_f (S1 := S) (hc.trans (by congr 1; simp; omega))]
    obtain ⟨k, _, k1, k2⟩ := h.ix (t := max i j - 1) (by omega)
    have m1 : m2 psub (mL pmax2 (mCons (mVar a) (mCons (mVar b) (mNil)))) (mC (.int 1)) ev S = .ok (.int ((max i j - 1 : Nat) : Int)) S := by
      refine (m2_eq mx rfl).trans ?_
      show R.ok (D.int (((max i j : Nat) : Int) - 1)) S = _
      congr 2
      omega
    refine (m2_eq ((m2_eq vx m1).trans k1) mn).trans ?_
    rw [k2 (min i j) (by omega)]
    have e2 : max i j - 1 + 1 = max i j := by omega
    rw [e2]
    rcases Nat.lt_or_ge i j with q | q
    · have a1 : max i j = j := by omega
      have a2 : min i j = i := by omega
      rw [a1, a2, sy]
    · have a1 : max i j = i := by omega
      have a2 : min i j = j := by omega
      rw [a1, a2]
/-! ### the shortest distances -/
def rowN (n : Nat) (M : Nat → Nat → Int) (i : Nat) : D := .lst ((List.range n).map fun j => D.int (M i j))
theorem asg_sub {a b : ML.M D} {m : ML.M D} {ev : Ev} {S S1 : Sto} {d : D} {k i : Nat} {ds : List D} (hm : m ev S = .ok d S1) (ha : a ev S1 = .ok (.ref k) S1) (hb : b ev S1 = .ok (.int (i : Int)) S1) (hk : S1[k]? = some (.lst ds)) (hi : i < ds.length) : sAsg (tgSub a b) m ev S = .ok .nx ev (S1.set k (.lst (ds.set i d))) := by
  have e : ixN ds.length (i : Int) = some i := by
    unfold ixN
    rw [if_pos (by omega), if_pos (by omega)]
    rfl
  unfold sAsg tgSub
  rw [hm, bindS_ok, ha, bind_ok, hb, bind_ok]
  simp [setAt, hk, e, noEx, bindS]
theorem range_set {α : Type} (f g : Nat → α) (n i : Nat) (h : i < n) : ((List.range n).map fun a => if a < i then f a else g a).set i (f i) = (List.range n).map fun a => if a < i + 1 then f a else g a := by
  apply List.ext_getElem?
  intro j
  rw [List.getElem?_set]
  rcases Nat.lt_or_ge j n with q | q
  · rw [List.getElem?_map, List.getElem?_map, List.getElem?_range q, List.length_map, List.length_range]
    by_cases e : i = j
    · subst e
      rw [if_pos rfl, if_pos h]
      show some (f i) = some (if i < i + 1 then f i else g i)
      rw [if_pos (by omega)]
    · rw [if_neg e]
      show some (if j < i then f j else g j) = some (if j < i + 1 then f j else g j)
      congr 1
      by_cases e2 : j < i
      · rw [if_pos e2, if_pos (by omega)]
      · rw [if_neg e2, if_neg (by omega)]
  · rw [if_neg (by omega), List.getElem?_eq_none (by rw [List.length_map, List.length_range]; omega), List.getElem?_eq_none (by rw [List.length_map, List.length_range]; omega)]
theorem rowN_get (n : Nat) (M : Nat → Nat → Int) (i : Nat) {j : Nat} (h : j < n) : ((List.range n).map fun j => D.int (M i j))[j]? = some (.int (M i j)) := by
  rw [List.getElem?_map, List.getElem?_range h]
  rfl
/-- one stop -/
theorem closed_stop {n s k r : Nat} {N : Nat → Nat → Int} (hN : Far n N) (hs : s < n) (hn : n ≤ 1000) (y z w : Option D) (S : Sto) (hk : k = S.length) :
    ∃ y', l1Lclosed [some (.ref r), some (.int (n : Int)), some (.ref k), some (.int (s : Int)), y, z, w] (S ++ [.lst ((List.range n).map (rowN n N))]) = .ok .nx [some (.ref r), some (.int (n : Int)), some (.ref k), some (.int (s : Int)), y', z, w] (S ++ [.lst ((List.range n).map (rowN n (fw1 s N)))]) := by
  subst hk
  have hsr : ∀ (y : Option D) (S' : Sto), mRange1 (mCons (mVar 1) mNil) [some (.ref r), some (.int (n : Int)), some (.ref S.length), some (.int (s : Int)), y, z, w] S' = .ok ⟨(List.range n).map fun (i : Nat) => D.int (i : Int), []⟩ S' := fun y S' => src_range1 (cons_ok rfl nil_ok) (by omega)
  obtain ⟨ev', S', q1, rfl, y', rfl⟩ := for_nx (tg := tgN 4) (body := w1Lclosed) (c := ⟨(List.range n).map fun (i : Nat) => D.int (i : Int), []⟩) (fun (i : Nat) => D.int (i : Int))
    (fun i ev S' => S' = S ++ [.lst ((List.range n).map fun a => if a < i then rowN n (fw1 s N) a else rowN n N a)] ∧ ∃ y, ev = [some (.ref r), some (.int (n : Int)), some (.ref S.length), some (.int (s : Int)), y, z, w])
    (fun _ _ _ _ => rfl) (List.range n) 0 [some (.ref r), some (.int (n : Int)), some (.ref S.length), some (.int (s : Int)), y, z, w] (S ++ [.lst ((List.range n).map (rowN n N))])
    (fun i x hx ev S' hI => by
      obtain ⟨rfl, y, rfl⟩ := hI
      rw [Nat.zero_add] at *
      have hin : i < n := by
        have := (List.getElem?_eq_some_iff.mp hx).1
        rwa [List.length_range] at this
      have hxi : x = i := by
        rw [List.getElem?_range hin] at hx
        exact (Option.some.inj hx).symm
      subst hxi
      generalize hrs : (List.range n).map (fun a => if a < x then rowN n (fw1 s N) a else rowN n N a) = rs
      have hg : (S ++ [Cell.lst rs])[S.length]? = some (.lst rs) := by rw [List.getElem?_append_right (Nat.le_refl _), Nat.sub_self]; rfl
      have rx : rs[x]? = some (rowN n N x) := by
        rw [← hrs, List.getElem?_map, List.getElem?_range hin]
        show some (if x < x then _ else _) = _
        rw [if_neg (by omega)]
      have rsr : rs[s]? = some (rowN n N s) := by
        rw [← hrs, List.getElem?_map, List.getElem?_range hs]
        show some (if s < x then rowN n (fw1 s N) s else rowN n N s) = _
        split
        · unfold rowN
          congr 2
          exact List.map_congr_left fun j hj => by rw [fw1_row hN hs j (List.mem_range.mp hj)]
        · rfl
      have hc : c3Lclosed [some (.ref r), some (.int (n : Int)), some (.ref S.length), some (.int (s : Int)), some (.int (x : Int)), z, w] (S ++ [.lst rs]) = .ok (rowN n (fw1 s N) x) (S ++ [.lst rs]) := by
        unfold c3Lclosed
        refine lc_mp (List.range n) (fun (i : Nat) => D.int (i : Int)) (fun j => .int (fw1 s N x j)) (hsr _ _) rfl (by rw [List.length_range]; omega) fun j hj => ?_
        have hj := List.mem_range.mp hj
        refine ⟨[some (.ref r), some (.int (n : Int)), some (.ref S.length), some (.int (s : Int)), some (.int (x : Int)), z, some (.int (j : Int))], rfl, rfl, ?_⟩
        have p1 : m2 pix (m2 pix (mVar 2) (mVar 4)) (mVar 6) [some (.ref r), some (.int (n : Int)), some (.ref S.length), some (.int (s : Int)), some (.int (x : Int)), z, some (.int (j : Int))] (S ++ [.lst rs]) = .ok (.int (N x j)) (S ++ [.lst rs]) := (m2_eq ((m2_eq rfl rfl).trans (pix_ref hg rx)) rfl).trans (pix_lst (rowN_get n N x hj))
        have p2 : m2 pix (m2 pix (mVar 2) (mVar 4)) (mVar 3) [some (.ref r), some (.int (n : Int)), some (.ref S.length), some (.int (s : Int)), some (.int (x : Int)), z, some (.int (j : Int))] (S ++ [.lst rs]) = .ok (.int (N x s)) (S ++ [.lst rs]) := (m2_eq ((m2_eq rfl rfl).trans (pix_ref hg rx)) rfl).trans (pix_lst (rowN_get n N x hs))
        have p3 : m2 pix (m2 pix (mVar 2) (mVar 3)) (mVar 6) [some (.ref r), some (.int (n : Int)), some (.ref S.length), some (.int (s : Int)), some (.int (x : Int)), z, some (.int (j : Int))] (S ++ [.lst rs]) = .ok (.int (N s j)) (S ++ [.lst rs]) := (m2_eq ((m2_eq rfl rfl).trans (pix_ref hg rsr)) rfl).trans (pix_lst (rowN_get n N s hj))
        have p4 : m2 (padd false) (m2 pix (m2 pix (mVar 2) (mVar 4)) (mVar 3)) (m2 pix (m2 pix (mVar 2) (mVar 3)) (mVar 6)) [some (.ref r), some (.int (n : Int)), some (.ref S.length), some (.int (s : Int)), some (.int (x : Int)), z, some (.int (j : Int))] (S ++ [.lst rs]) = .ok (.int (N x s + N s j)) (S ++ [.lst rs]) := (m2_eq p2 p3).trans rfl
        refine (mL_eq (cons_ok p1 (cons_ok p4 nil_ok))).trans ?_
        show R.ok (D.int (if N x s + N s j < N x j then N x s + N s j else N x j)) _ = _
        congr 2
        unfold fw1
        split <;> omega
      refine ⟨[some (.ref r), some (.int (n : Int)), some (.ref S.length), some (.int (s : Int)), some (.int (x : Int)), z, w], [some (.ref r), some (.int (n : Int)), some (.ref S.length), some (.int (s : Int)), some (.int (x : Int)), z, w], _, rfl, .inl (asg_sub hc rfl rfl hg (by rw [← hrs, List.length_map, List.length_range]; exact hin)), ?_, _, rfl⟩
      rw [List.set_append_right _ _ (Nat.le_refl _), Nat.sub_self, ← hrs, range_set _ _ n x hin]
      rfl) ⟨by
        congr 3, y, rfl⟩
  refine ⟨y', ?_⟩
  unfold l1Lclosed
  rw [sFor_eq (hsr y _), q1]
  congr 4
  exact List.map_congr_left fun a ha => by
    have := List.mem_range.mp ha
    rw [List.length_range, Nat.zero_add, if_pos this]
def subL (n : Nat) (M : Nat → Nat → Int) : List D := (List.range (n - 1)).map fun t => .lst (rowL M t)
theorem cut_to (l : List D) (k : Nat) : ML.cutD l none (some (k : Int)) = l.take k := by
  unfold ML.cutD
  have h : HT.sIx l.length l.length (some (k : Int)) = min k l.length := HT.sIx_nat l.length l.length k
  rw [h, HT.sIx_none, List.drop_zero, Nat.sub_zero]
  rcases Nat.le_total k l.length with q | q
  · rw [Nat.min_eq_left q]
  · rw [Nat.min_eq_right q, List.take_length, List.take_of_length_le q]
theorem closed_ok {S : Sto} {lo r n : Nat} {M : Nat → Nat → Int} {ks : List Nat} (h : Rws S lo r n M ks) (hM : Far n M) (h2 : 2 ≤ n) (hn : n ≤ 1000) : mLclosed [.ref r] S = .ok (.lst (subL n (fwN M n))) (S ++ [.lst ((List.range n).map (rowN n (fwN M n)))]) := by
  have hl := h.len
  have e1 : sSet 1 (m2 (padd false) (mL plen (mCons (mVar 0) (mNil))) (mC (.int 1))) [some (.ref r), none, none, none, none, none, none] S = .ok .nx [some (.ref r), some (.int (n : Int)), none, none, none, none, none] S := by
    refine set_eq ((m2_eq ((mL_eq (cons_ok rfl nil_ok)).trans (Sq.ref h.head).len) rfl).trans ?_)
    show R.ok (D.int (((ks.map D.ref).length : Int) + 1)) S = _
    rw [List.length_map]
    congr 2
    omega
  have e2 : sSet 2 c2Lclosed [some (.ref r), some (.int (n : Int)), none, none, none, none, none] S = .ok .nx [some (.ref r), some (.int (n : Int)), some (.ref S.length), none, none, none, none] (S ++ [.lst ((List.range n).map (rowN n M))]) := by
    refine set_eq ?_
    unfold c2Lclosed
    refine lc_mp (List.range n) (fun (i : Nat) => D.int (i : Int)) (rowN n M) (src_range1 (cons_ok rfl nil_ok) (by omega)) rfl (by rw [List.length_range]; omega) fun i hi => ?_
    have hi := List.mem_range.mp hi
    refine ⟨[some (.ref r), some (.int (n : Int)), none, none, some (.int (i : Int)), none, none], rfl, rfl, ?_⟩
    unfold c1Lclosed
    refine lc_mp (List.range n) (fun (i : Nat) => D.int (i : Int)) (fun j => .int (M i j)) (src_range1 (cons_ok rfl nil_ok) (by omega)) rfl (by rw [List.length_range]; omega) fun j hj => ?_
    have hj := List.mem_range.mp hj
    exact ⟨[some (.ref r), some (.int (n : Int)), none, none, some (.int (i : Int)), none, some (.int (j : Int))], rfl, rfl, rfar_ok h hi hj (hM.sym i j hi hj) (hM.diag i hi) rfl rfl rfl⟩
  obtain ⟨ev', S', q1, rfl, y, w, rfl⟩ := for_nx (tg := tgN 3) (body := w2Lclosed) (c := ⟨(List.range n).map fun (i : Nat) => D.int (i : Int), []⟩) (fun (i : Nat) => D.int (i : Int))
    (fun i ev S' => S' = S ++ [.lst ((List.range n).map (rowN n (fwN M i)))] ∧ ∃ x y, ev = [some (.ref r), some (.int (n : Int)), some (.ref S.length), x, y, none, none])
    (fun _ _ _ _ => rfl) (List.range n) 0 [some (.ref r), some (.int (n : Int)), some (.ref S.length), none, none, none, none] (S ++ [.lst ((List.range n).map (rowN n M))])
    (fun i x hx ev S' hI => by
      obtain ⟨rfl, x', y, rfl⟩ := hI
      rw [Nat.zero_add] at *
      have hin : i < n := by
        have := (List.getElem?_eq_some_iff.mp hx).1
        rwa [List.length_range] at this
      have hxi : x = i := by
        rw [List.getElem?_range hin] at hx
        exact (Option.some.inj hx).symm
      subst hxi
      obtain ⟨y', q⟩ := closed_stop (r := r) ((fwN_inv hM x (by omega)).toFar) hin hn y none none S rfl
      exact ⟨[some (.ref r), some (.int (n : Int)), some (.ref S.length), some (.int (x : Int)), y, none, none], _, _, rfl, .inl q, rfl, _, _, rfl⟩) ⟨rfl, none, none, rfl⟩
  rw [List.length_range, Nat.zero_add] at q1
  have e3 : l2Lclosed [some (.ref r), some (.int (n : Int)), some (.ref S.length), none, none, none, none] (S ++ [.lst ((List.range n).map (rowN n M))]) = .ok .nx [some (.ref r), some (.int (n : Int)), some (.ref S.length), y, w, none, none] (S ++ [.lst ((List.range n).map (rowN n (fwN M n)))]) := by
    unfold l2Lclosed
    rw [sFor_eq (src_range1 (n := n) (cons_ok rfl nil_ok) (by omega))]
    exact q1
  generalize hN : fwN M n = N at *
  have hg : (S ++ [Cell.lst ((List.range n).map (rowN n N))])[S.length]? = some (.lst ((List.range n).map (rowN n N))) := by rw [List.getElem?_append_right (Nat.le_refl _), Nat.sub_self]; rfl
  have e4 : c4Lclosed [some (.ref r), some (.int (n : Int)), some (.ref S.length), y, w, none, none] (S ++ [.lst ((List.range n).map (rowN n N))]) = .ok (.lst (subL n N)) (S ++ [.lst ((List.range n).map (rowN n N))]) := by
    unfold c4Lclosed
    have hc := lc_mp (nw := false) (own := ([("town", 5)] : List (Str × Nat)).map (·.2)) (fe := id) (tg := tgN 5) (cond := mYes) (el := mSl false (m2 pix (mVar 2) (mVar 5)) oNone (oSome (mVar 5))) ((List.range (n - 1)).map (1 + ·)) (fun (i : Nat) => D.int (i : Int)) (fun t => .lst (rowL N (t - 1)))
      (src_range2 (a := 1) (b := n) (ev := [some (.ref r), some (.int (n : Int)), some (.ref S.length), y, w, none, none]) (S := S ++ [.lst ((List.range n).map (rowN n N))]) (ml := mCons (mC (.int 1)) (mCons (mVar 1) mNil)) (cons_ok rfl (cons_ok rfl nil_ok)) (by omega) (by omega)) rfl (by rw [List.length_map, List.length_range]; omega) (fun t ht => by
        obtain ⟨t', ht', rfl⟩ := List.mem_map.mp ht
        have ht' := List.mem_range.mp ht'
        refine ⟨[some (.ref r), some (.int (n : Int)), some (.ref S.length), y, w, some (.int ((1 + t' : Nat) : Int)), none], rfl, rfl, ?_⟩
        have p1 : m2 pix (mVar 2) (mVar 5) [some (.ref r), some (.int (n : Int)), some (.ref S.length), y, w, some (.int ((1 + t' : Nat) : Int)), none] (S ++ [.lst ((List.range n).map (rowN n N))]) = .ok (rowN n N (1 + t')) (S ++ [.lst ((List.range n).map (rowN n N))]) := (m2_eq rfl rfl).trans (pix_ref hg (by rw [List.getElem?_map, List.getElem?_range (by omega)]; rfl))
        have p2 : mVar 5 [some (.ref r), some (.int (n : Int)), some (.ref S.length), y, w, some (.int ((1 + t' : Nat) : Int)), none] (S ++ [.lst ((List.range n).map (rowN n N))]) = .ok (.int ((1 + t' : Nat) : Int)) (S ++ [.lst ((List.range n).map (rowN n N))]) := rfl
        have p3 : rowL N (1 + t' - 1) = ((List.range n).map fun j => D.int (N (1 + t') j)).take (1 + t') := by
          unfold rowL
          rw [← List.map_take, List.take_range, Nat.min_eq_left (by omega)]
          have a1 : 1 + t' - 1 + 1 = 1 + t' := by omega
          rw [a1]
        rw [p3, ← cut_to]
        unfold mSl oNone oSome
        rw [p1, bind_ok, bind_ok, p2, bind_ok]
        unfold rowN
        simp [asI, R.bind, pslice, seqOf, mkL])
    refine hc.trans ?_
    have hsub : ((List.range (n - 1)).map (1 + ·)).map (fun t => D.lst (rowL N (t - 1))) = subL n N := ?_
    · show R.ok (D.lst (((List.range (n - 1)).map (1 + ·)).map fun t => D.lst (rowL N (t - 1)))) _ = _
      rw [hsub]
    unfold subL
    rw [List.map_map]
    exact List.map_congr_left fun t _ => by
      show D.lst (rowL N (1 + t - 1)) = _
      have : 1 + t - 1 = t := by omega
      rw [this]
  unfold mLclosed bLclosed
  exact def_rt (cons_nx e1 (cons_nx e2 (cons_nx e3 (ret_eq e4))))
theorem ltable_ok (n : Nat) (M : Nat → Nat → Int) (hn : n ≤ 1000) (S : Sto) : mLtable [.lst (subL n M)] S = .ok (tblF n M) S := by
  have hc : c1Ltable [some (.lst (subL n M)), none] S = .ok (.lst ((List.range (n - 1)).map (rowF M))) S := by
    unfold c1Ltable
    refine lc_mp (List.range (n - 1)) (fun t => .lst (rowL M t)) (rowF M) (deps := []) (S1 := S) rfl rfl (by rw [List.length_range]; omega) fun t ht => ?_
    exact ⟨[some (.lst (subL n M)), some (.lst (rowL M t))], rfl, rfl, rfl⟩
  unfold mLtable bLtable
  have ht : mL ptuple (mCons c1Ltable mNil) [some (.lst (subL n M)), none] S = .ok (.tup ((List.range (n - 1)).map (rowF M))) S := (mL_eq (cons_ok hc nil_ok)).trans rfl
  exact def_rt (ev1 := [some (.lst (subL n M)), none]) (ret_eq ((mL_eq (cons_ok rfl (cons_ok ht nil_ok))).trans rfl))
end ML


set_option Elab.async false
set_option linter.all false
set_option maxRecDepth 100000
set_option autoImplicit false
set_option maxHeartbeats 4000000
/-! plain Lean: grown trees, drawn -/
namespace ML
open PySem PySem.Spec PyProof.Rows L2
theorem par_eq {i j : Nat} {ml : ML.M (List D)} {ev : Ev} {S S1 : Sto} {a b : D} (h : ml ev S = .ok [a, b] S1) : sPar i j ml ev S = .ok .nx ((ev.set i (some a)).set j (some b)) S1 := by
  unfold sPar
  rw [h]
  rfl
theorem app_ok {ev : Ev} {S S1 : Sto} {k x : Nat} {ds : List D} {d : D} {m : ML.M D} (hx : ev[x]? = some (some (.ref k))) (hk : S[k]? = some (.lst ds)) (hm : m ev S = .ok d S1) (hk1 : S1[k]? = some (.lst ds)) (hz : ds.length < 16777216) : sExpr (mMe isSeq pappend (mVar x) (mCons m mNil)) ev S = .ok .nx ev (S1.set k (.lst (ds ++ [d]))) := by
  simp [sExpr, bindS, noEx, mMe, mVar, hx, asV_ref, R.bind, isSeq, seqOf, hk, mCons, mNil, hm, pappend, hk1, hz]
/-- one row more -/
theorem rowL_grow_old (n : Nat) (M : Nat → Nat → Int) (f : Nat → Int) {t : Nat} (h : t + 1 < n) : rowL (grow n M f) t = rowL M t := by
  unfold rowL
  refine List.map_congr_left fun j hj => ?_
  have hj := List.mem_range.mp hj
  unfold grow
  rw [if_neg (by omega), if_neg (by omega)]
theorem rowL_grow_new (n : Nat) (M : Nat → Nat → Int) (f : Nat → Int) (h : 1 ≤ n) : rowL (grow n M f) (n - 1) = (List.range n).map fun j => D.int (f j) := by
  unfold rowL
  have e : n - 1 + 1 = n := by omega
  rw [e]
  refine List.map_congr_left fun j hj => ?_
  have hj := List.mem_range.mp hj
  unfold grow
  rw [if_pos rfl, if_neg (by omega)]
theorem Rws.grow {S : Sto} {lo r n k : Nat} {M : Nat → Nat → Int} {ks : List Nat} (h : Rws S lo r n M ks) (f : Nat → Int) (hk : S[k]? = some (Cell.lst ((List.range n).map fun j => D.int (f j)))) (hlo : lo ≤ k) (hr : k ≠ r) (hn : k ∉ ks) :
    Rws (S.set r (.lst (ks.map D.ref ++ [D.ref k]))) lo r (n + 1) (ML.grow n M f) (ks ++ [k]) := by
  have hl := h.len
  have hrl : r < S.length := (List.getElem?_eq_some_iff.mp h.head).1
  refine ⟨by rw [List.length_append, List.length_singleton]; omega, ?_, ?_, ?_, h.low, ?_, ?_⟩
  · rw [List.getElem?_set_self hrl, List.map_append]
    rfl
  · rw [List.nodup_append]
    refine ⟨h.nd, by simp, fun a ha b hb => ?_⟩
    rw [List.mem_singleton.mp hb]
    rintro rfl
    exact hn ha
  · intro q
    rcases List.mem_append.mp q with q | q
    · exact h.out q
    · exact hr (List.mem_singleton.mp q).symm
  · intro a ha
    rcases List.mem_append.mp ha with q | q
    · exact h.lows a q
    · rw [List.mem_singleton.mp q]; exact hlo
  · intro t a e
    rcases Nat.lt_or_ge t ks.length with q | q
    · rw [List.getElem?_append_left q] at e
      have hne : a ≠ r := by rintro rfl; exact h.out (List.mem_of_getElem? e)
      rw [List.getElem?_set_ne (Ne.symm hne), h.row t a e, rowL_grow_old n M f (by omega)]
    · rw [List.getElem?_append_right q] at e
      have ht : t - ks.length = 0 := by
        have := (List.getElem?_eq_some_iff.mp e).1
        rw [List.length_singleton] at this
        omega
      rw [ht] at e
      have : k = a := by simpa using e
      subst this
      rw [List.getElem?_set_ne (Ne.symm hr), hk]
      have e3 : t = n - 1 := by omega
      rw [e3, rowL_grow_new n M f (by omega)]
theorem grow_far {n : Nat} {M : Nat → Nat → Int} (h : Far n M) (f : Nat → Int) (h0 : ∀ j, j < n → 0 ≤ f j ∧ f j ≤ 999) : Far (n + 1) (ML.grow n M f) := by
  have g1 : ∀ i j, i < n → j < n → ML.grow n M f i j = M i j := fun i j hi hj => by
    unfold ML.grow; rw [if_neg (by omega), if_neg (by omega)]
  have g2 : ∀ j, j < n → ML.grow n M f n j = f j := fun j hj => by
    unfold ML.grow; rw [if_pos rfl, if_neg (by omega)]
  have g3 : ∀ j, j < n → ML.grow n M f j n = f j := fun j hj => by
    unfold ML.grow; rw [if_neg (by omega), if_pos rfl]
  have g4 : ML.grow n M f n n = 0 := by unfold ML.grow; rw [if_pos rfl, if_pos rfl]
  refine ⟨fun i j hi hj => ?_, fun i hi => ?_, fun i j hi hj => ?_, fun i j hi hj => ?_⟩
  · rcases Nat.lt_or_ge i n with q | q <;> rcases Nat.lt_or_ge j n with q' | q'
    · rw [g1 i j q q', g1 j i q' q, h.sym i j q q']
    · obtain rfl : j = n := by omega
      rw [g3 i q, g2 i q]
    · obtain rfl : i = n := by omega
      rw [g3 j q', g2 j q']
    · obtain rfl : i = n := by omega
      obtain rfl : j = i := by omega
      rfl
  · rcases Nat.lt_or_ge i n with q | q
    · rw [g1 i i q q, h.diag i q]
    · obtain rfl : i = n := by omega
      exact g4
  · rcases Nat.lt_or_ge i n with q | q <;> rcases Nat.lt_or_ge j n with q' | q'
    · rw [g1 i j q q']; exact h.pos i j q q'
    · obtain rfl : j = n := by omega
      rw [g3 i q]; exact (h0 i q).1
    · obtain rfl : i = n := by omega
      rw [g2 j q']; exact (h0 j q').1
    · obtain rfl : i = n := by omega
      obtain rfl : j = i := by omega
      rw [g4]; omega
  · rcases Nat.lt_or_ge i n with q | q <;> rcases Nat.lt_or_ge j n with q' | q'
    · rw [g1 i j q q']; exact h.le i j q q'
    · obtain rfl : j = n := by omega
      rw [g3 i q]; exact (h0 i q).2
    · obtain rfl : i = n := by omega
      rw [g2 j q']; exact (h0 j q').2
    · obtain rfl : i = n := by omega
      obtain rfl : j = i := by omega
      rw [g4]; omega
theorem draw_ev {S : Sto} {p : Nat} {many : Int} (h : Pot S p) (h0 : 0 < many) (h1 : many < 1073741824) {ev : Ev} {m : ML.M D} (hp : ev[0]? = some (some (.ref p))) (hm : m ev S = .ok (.int many) S) : ∃ (d : Nat) (S' : Sto), mCall 2 mDraw (mCons (mVar 0) (mCons m mNil)) ev S = .ok (.int (d : Int)) S' ∧ Chg p S S' ∧ (d : Int) < many := by
  obtain ⟨d, S', e, c, h2, h3⟩ := draw_chg h h0 h1
  have v0 : mVar 0 ev S = .ok (.ref p) S := by unfold mVar; rw [hp]; rfl
  refine ⟨d.toNat, S', ?_, c, by omega⟩
  have : ((d.toNat : Nat) : Int) = d := by omega
  rw [this]
  exact (call_eq (cons_ok v0 (cons_ok hm nil_ok)) rfl).trans e
theorem rangeT (n i x : Nat) (h : ((List.range n))[i]? = some x) : x = i ∧ i < n := by
  have hin : i < n := by
    have := (List.getElem?_eq_some_iff.mp h).1
    rwa [List.length_range] at this
  rw [List.getElem?_range hin] at h
  exact ⟨(Option.some.inj h).symm, hin⟩
/-- the row of one town more -/
theorem tree_row {S : Sto} {lo r t k : Nat} {b : Int} {M : Nat → Nat → Int} {ks : List Nat} (h : Rws S lo r t M ks) (hM : Tree t b M) (ht : t ≤ 1000) {o q : Nat} (ho : o < t) (hq : q < t) {p : Nat} {n much a st : Int} (hk : k = S.length) (u v w : Option D) :
    ∃ x y z, l1Ltree_rows [some (.ref p), some (.int n), some (.ref r), some (.int (t : Int)), some (.int (o : Int)), some (.int (q : Int)), some (.int much), some (.int a), some (.int st), some (.ref k), u, v, w] (S ++ [.lst []]) =
      .ok .nx [some (.ref p), some (.int n), some (.ref r), some (.int (t : Int)), some (.int (o : Int)), some (.int (q : Int)), some (.int much), some (.int a), some (.int st), some (.ref k), x, y, z] (S ++ [.lst ((List.range t).map fun j => D.int (st + max (M j o - a) (M j q - (much - a))))]) := by
  subst hk
  obtain ⟨ev', S', q1, rfl, x, y, z, rfl⟩ := for_nx (tg := tgN 10) (body := w1Ltree_rows) (c := ⟨(List.range t).map fun (i : Nat) => D.int (i : Int), []⟩) (fun (i : Nat) => D.int (i : Int))
    (fun i ev S' => S' = S ++ [.lst ((List.range i).map fun j => D.int (st + max (M j o - a) (M j q - (much - a))))] ∧ ∃ x y z, ev = [some (.ref p), some (.int n), some (.ref r), some (.int (t : Int)), some (.int (o : Int)), some (.int (q : Int)), some (.int much), some (.int a), some (.int st), some (.ref S.length), x, y, z])
    (fun _ _ _ _ => rfl) (List.range t) 0 [some (.ref p), some (.int n), some (.ref r), some (.int (t : Int)), some (.int (o : Int)), some (.int (q : Int)), some (.int much), some (.int a), some (.int st), some (.ref S.length), u, v, w] (S ++ [.lst []])
    (fun i x hx ev S' hI => by
      obtain ⟨rfl, x', y, z, rfl⟩ := hI
      rw [Nat.zero_add] at *
      obtain ⟨rfl, hin⟩ := rangeT t i x hx
      have hh := h.app [.lst ((List.range x).map fun j => D.int (st + max (M j o - a) (M j q - (much - a))))]
      have hg : (S ++ [Cell.lst ((List.range x).map fun j => D.int (st + max (M j o - a) (M j q - (much - a))))])[S.length]? = some (.lst ((List.range x).map fun j => D.int (st + max (M j o - a) (M j q - (much - a))))) := by rw [List.getElem?_append_right (Nat.le_refl _), Nat.sub_self]; rfl
      have s1 := rfar_ok (ev := [some (.ref p), some (.int n), some (.ref r), some (.int (t : Int)), some (.int (o : Int)), some (.int (q : Int)), some (.int much), some (.int a), some (.int st), some (.ref S.length), some (.int (x : Int)), y, z]) (x := 2) (a := 10) (b := 4) hh hin ho (hM.sym x o hin ho) (hM.diag x hin) rfl rfl rfl
      have s2 := rfar_ok (ev := [some (.ref p), some (.int n), some (.ref r), some (.int (t : Int)), some (.int (o : Int)), some (.int (q : Int)), some (.int much), some (.int a), some (.int st), some (.ref S.length), some (.int (x : Int)), some (.int (M x o)), z]) (x := 2) (a := 10) (b := 5) hh hin hq (hM.sym x q hin hq) (hM.diag x hin) rfl rfl rfl
      refine ⟨_, [some (.ref p), some (.int n), some (.ref r), some (.int (t : Int)), some (.int (o : Int)), some (.int (q : Int)), some (.int much), some (.int a), some (.int st), some (.ref S.length), some (.int (x : Int)), some (.int (M x o)), some (.int (M x q))], _, rfl, .inl ?_, rfl, _, _, _, rfl⟩
      unfold w1Ltree_rows
      refine cons_nx (set_eq s1) (cons_nx (set_eq s2) ?_)
      have hv : m2 (padd false) (mVar 8) (mL pmax2 (mCons (m2 psub (mVar 11) (mVar 7)) (mCons (m2 psub (mVar 12) (m2 psub (mVar 6) (mVar 7))) (mNil)))) [some (.ref p), some (.int n), some (.ref r), some (.int (t : Int)), some (.int (o : Int)), some (.int (q : Int)), some (.int much), some (.int a), some (.int st), some (.ref S.length), some (.int (x : Int)), some (.int (M x o)), some (.int (M x q))] (S ++ [.lst ((List.range x).map fun j => D.int (st + max (M j o - a) (M j q - (much - a))))]) = .ok (.int (st + max (M x o - a) (M x q - (much - a)))) (S ++ [.lst ((List.range x).map fun j => D.int (st + max (M j o - a) (M j q - (much - a))))]) := by
        have e : (if M x q - (much - a) > M x o - a then M x q - (much - a) else M x o - a) = max (M x o - a) (M x q - (much - a)) := by split <;> omega
        refine (m2_eq (x := .int st) (S1 := S ++ [.lst ((List.range x).map fun j => D.int (st + max (M j o - a) (M j q - (much - a))))]) rfl ((mL_eq (cons_ok (d := .int (M x o - a)) rfl (cons_ok (d := .int (M x q - (much - a))) rfl nil_ok))).trans (show _ = R.ok (D.int (max (M x o - a) (M x q - (much - a)))) _ from ?_))).trans rfl
        rw [← e]
        rfl
      refine (app_ok rfl hg hv hg (by rw [List.length_map, List.length_range]; omega)).trans ?_
      rw [List.set_append_right _ _ (Nat.le_refl _), Nat.sub_self, List.range_succ, List.map_append]
      rfl) ⟨rfl, u, v, w, rfl⟩
  refine ⟨x, y, z, ?_⟩
  unfold l1Ltree_rows
  rw [sFor_eq (src_range1 (n := t) (cons_ok rfl nil_ok) (by omega)), q1, List.length_range, Nat.zero_add]
theorem get_end (S : Sto) (c : Cell) : (S ++ [c])[S.length]? = some c := by rw [List.getElem?_append_right (Nat.le_refl _), Nat.sub_self]; rfl
theorem Tree.low {n : Nat} {b c : Int} {M : Nat → Nat → Int} (h : Tree n b M) (e : b ≤ c) : Tree n c M := ⟨h.sym, h.diag, h.four, fun i j hi hj => Int.le_trans (h.le i j hi hj) e⟩
/-- one town more -/
theorem tree_turn {S S0 : Sto} {p r t : Nat} {n b : Int} {M : Nat → Nat → Int} {ks : List Nat} (hK : Kp p S0 S) (hp : p < S0.length) (h : Rws S S0.length r t M ks) (hM : Tree t b M) (h2 : 2 ≤ t) (ht : t ≤ 1000) (hb : b ≤ 1000) (x1 x2 x3 x4 x5 x6 x7 x8 x9 : Option D) :
    ∃ M' ks' S' y1 y2 y3 y4 y5 y6 y7 y8 y9, w2Ltree_rows [some (.ref p), some (.int n), some (.ref r), some (.int (t : Int)), x1, x2, x3, x4, x5, x6, x7, x8, x9] S = .ok .nx [some (.ref p), some (.int n), some (.ref r), some (.int (t : Int)), y1, y2, y3, y4, y5, y6, y7, y8, y9] S' ∧ Kp p S0 S' ∧ Rws S' S0.length r (t + 1) M' ks' ∧ Tree (t + 1) (b + 6) M' := by
  obtain ⟨o, S1, e1, c1, b1⟩ := draw_ev (many := (t : Int) - 1) (ev := [some (.ref p), some (.int n), some (.ref r), some (.int (t : Int)), x1, x2, x3, x4, x5, x6, x7, x8, x9]) (m := m2 psub (mVar 3) (mC (.int 1))) hK.pot (by omega) (by omega) rfl rfl
  have hK1 := hK.chg c1
  have h1 := h.chg c1 hp
  obtain ⟨d, S2, e2, c2, b2⟩ := draw_ev (many := (t : Int) - 1 - (o : Int)) (ev := [some (.ref p), some (.int n), some (.ref r), some (.int (t : Int)), some (.int (o : Int)), x2, x3, x4, x5, x6, x7, x8, x9]) (m := m2 psub (m2 psub (mVar 3) (mC (.int 1))) (mVar 4)) hK1.pot (by omega) (by omega) rfl rfl
  have hK2 := hK1.chg c2
  have h2' := h1.chg c2 hp
  obtain ⟨q, hq⟩ : ∃ q : Nat, q = o + 1 + d := ⟨_, rfl⟩
  have hqt : q < t := by omega
  have hot : o < q := by omega
  obtain ⟨kq, _, i1, i2⟩ := h2'.ix (t := q - 1) (by omega)
  have i3 := i2 o (by omega)
  have hq1 : q - 1 + 1 = q := by omega
  rw [hq1] at i3
  have pos := hM.pos q o hqt (by omega)
  have le := hM.le q o hqt (by omega)
  obtain ⟨a, S3, e3, c3, b3⟩ := draw_ev (many := M q o + 1) (ev := [some (.ref p), some (.int n), some (.ref r), some (.int (t : Int)), some (.int (o : Int)), some (.int (q : Int)), some (.int (M q o)), x4, x5, x6, x7, x8, x9]) (m := m2 (padd false) (mVar 6) (mC (.int 1))) hK2.pot (by omega) (by omega) rfl rfl
  have hK3 := hK2.chg c3
  obtain ⟨st, S4, e4, c4, b4⟩ := draw_ev (many := 7) (ev := [some (.ref p), some (.int n), some (.ref r), some (.int (t : Int)), some (.int (o : Int)), some (.int (q : Int)), some (.int (M q o)), x4, x5, x6, x7, x8, x9]) (m := mC (.int 7)) hK3.pot (by omega) (by omega) rfl rfl
  have hK4 := hK3.chg c4
  have h4 := (h2'.chg c3 hp).chg c4 hp
  obtain ⟨x, y, z, e5⟩ := tree_row (p := p) (n := n) (much := M q o) (a := (a : Int)) (st := (st : Int)) h4 hM ht (o := o) (q := q) (by omega) hqt (k := S4.length) rfl x7 x8 x9
  have hg := grow_tree hM o q (by omega) hqt (a : Int) (st : Int) (by omega) (by omega) (by omega) 6 (by omega) (fun j => (st : Int) + max (M j o - (a : Int)) (M j q - (M q o - (a : Int)))) fun _ _ => rfl
  have hrow := get_end S4 (.lst ((List.range t).map fun j => D.int ((st : Int) + max (M j o - (a : Int)) (M j q - (M q o - (a : Int))))))
  have hl0 := hK4.len
  have hin : ∀ k ∈ ks, k < S4.length := fun k hk => by
    obtain ⟨i, hi⟩ := List.getElem?_of_mem hk
    exact (List.getElem?_eq_some_iff.mp (h4.row i k hi)).1
  have hrl : r < S4.length := (List.getElem?_eq_some_iff.mp h4.head).1
  have h5 := (h4.app [.lst ((List.range t).map fun j => D.int ((st : Int) + max (M j o - (a : Int)) (M j q - (M q o - (a : Int)))))]).grow _ hrow hl0 (by omega) (fun hk => by have := hin _ hk; omega)
  have hhead := (h4.app [.lst ((List.range t).map fun j => D.int ((st : Int) + max (M j o - (a : Int)) (M j q - (M q o - (a : Int)))))]).head
  refine ⟨_, _, _, some (.int (o : Int)), some (.int (q : Int)), some (.int (M q o)), some (.int (a : Int)), some (.int (st : Int)), some (.ref S4.length), x, y, z, ?_, (hK4.app _).set hp h.low _, h5, hg⟩
  unfold w2Ltree_rows
  refine cons_nx (set_eq e1) (cons_nx (set_eq (d := .int (q : Int)) (S1 := S2) ?_) (cons_nx (set_eq (d := .int (M q o)) (S1 := S2) ?_) (cons_nx (par_eq (cons_ok e3 (cons_ok e4 nil_ok))) (cons_nx (set_eq (d := .ref S4.length) (S1 := S4 ++ [.lst []]) ?_) ?_))))
  all_goals simp only [List.set_cons_succ, List.set_cons_zero]
  rotate_right
  · have e6 := cons_nx (b := sExpr (mMe isSeq pappend (mVar 2) (mCons (mVar 9) (mNil)))) e5 rfl
    refine e6.trans ?_
    exact app_ok (d := .ref S4.length) rfl hhead rfl hhead (by rw [List.length_map]; have := h4.len; omega)
  · refine (m2_eq (x := .int ((o : Int) + 1)) rfl e2).trans ?_
    show R.ok (D.int ((o : Int) + 1 + (d : Int))) S2 = _
    rw [show (o : Int) + 1 + (d : Int) = (q : Int) by omega]
  · refine (m2_eq ((m2_eq (y := .int ((q - 1 : Nat) : Int)) rfl ?_).trans i1) rfl).trans i3
    show R.ok (D.int ((q : Int) - 1)) S2 = _
    rw [show (q : Int) - 1 = ((q - 1 : Nat) : Int) by omega]
  · simp [mDef, endS, startD, sCons, seqS, sRet, sRetN, sSet, sIf, sNil, sAsg, sExpr, sPar, par2, bindS, noEx, ML.R.bind, m1, m2, mT, mTr, asB, asTr, mC, mVar, asV_non, asV_bl, asV_int, asV_str, asV_tup, asV_lst, asV_rol, asV_ref, mL, mCons, mNil, mIf, mCall, tgN, tgSub, tgT, tgCons, tgNil, setAt, tNotM, tAndM, tOrM, mAnd, mOr, pnot, pix, pcmp, padd, psub, pmul, pfdiv, pmod, pint, plen, ptup, pisN, pnotN, seqOf, pneg, mSl, oNone, oSome, asI, mLc, mSrc, asSrc, drawn, mYes, evWipe, mkL, plst]
theorem two_tree (v : Int) (h0 : 0 ≤ v) (h9 : v ≤ 9) : Tree 2 9 (ML.grow 1 (fun _ _ => 0) fun _ => v) := by
  have z : Tree 1 0 (fun _ _ => (0 : Int)) := ⟨fun _ _ _ _ => rfl, fun _ _ => rfl, fun _ _ _ _ _ _ _ _ => by omega, fun _ _ _ _ => Int.le_refl _⟩
  have := grow_tree z 0 0 (by omega) (by omega) 0 v (by omega) (by omega) h0 9 h9 (fun _ => v) (fun x _ => by omega)
  exact this.low (by omega)
theorem tree_ok {S : Sto} {p n : Nat} (hP : Pot S p) (h2 : 2 ≤ n) (h8 : n ≤ 100) : ∃ r M ks S', mLtree_rows [.ref p, .int (n : Int)] S = .ok (.ref r) S' ∧ Kp p S S' ∧ Rws S' S.length r n M ks ∧ Tree n (6 * (n : Int)) M := by
  obtain ⟨d, S1, e1, c1, b1⟩ := draw_ev (many := 9) (ev := [some (.ref p), some (.int (n : Int)), none, none, none, none, none, none, none, none, none, none, none]) (m := mC (.int 9)) hP (by omega) (by omega) rfl rfl
  have hpl := hP.lt
  have hK1 := (Kp.refl hP).chg c1
  have hl1 := c1.len
  have tr := two_tree (1 + (d : Int)) (by omega) (by omega)
  have h0 : Rws (S1 ++ [.lst [.int (1 + (d : Int))]] ++ [.lst [.ref S1.length]]) S.length (S1.length + 1) 2 (ML.grow 1 (fun _ _ => 0) fun _ => 1 + (d : Int)) [S1.length] := by
    have hr : (S1 ++ [Cell.lst [.int (1 + (d : Int))]] ++ [.lst [.ref S1.length]])[S1.length + 1]? = some (.lst [.ref S1.length]) := by
      have q := get_end (S1 ++ [Cell.lst [.int (1 + (d : Int))]]) (.lst [.ref S1.length])
      rw [List.length_append, List.length_singleton] at q
      exact q
    refine ⟨rfl, hr, by simp, by simp, by omega, by simp; omega, fun t k e => ?_⟩
    have ht : t = 0 := by
      have := (List.getElem?_eq_some_iff.mp e).1
      rw [List.length_singleton] at this
      omega
    subst ht
    have : S1.length = k := by simpa using e
    subst this
    exact get_app (get_end S1 _) _
  have hs : sSet 2 (mL (plst true) (mCons (mL (plst true) (mCons (m2 (padd false) (mC (.int 1)) (mCall 2 mDraw (mCons (mVar 0) (mCons (mC (.int 9)) (mNil))))) (mNil))) (mNil))) [some (.ref p), some (.int (n : Int)), none, none, none, none, none, none, none, none, none, none, none] S = .ok .nx [some (.ref p), some (.int (n : Int)), some (.ref (S1.length + 1)), none, none, none, none, none, none, none, none, none, none] (S1 ++ [.lst [.int (1 + (d : Int))]] ++ [.lst [.ref S1.length]]) := by
    refine set_eq ?_
    have a1 : m2 (padd false) (mC (.int 1)) (mCall 2 mDraw (mCons (mVar 0) (mCons (mC (.int 9)) (mNil)))) [some (.ref p), some (.int (n : Int)), none, none, none, none, none, none, none, none, none, none, none] S = .ok (.int (1 + (d : Int))) S1 := (m2_eq rfl e1).trans rfl
    have a2 : mL (plst true) (mCons (m2 (padd false) (mC (.int 1)) (mCall 2 mDraw (mCons (mVar 0) (mCons (mC (.int 9)) (mNil))))) mNil) [some (.ref p), some (.int (n : Int)), none, none, none, none, none, none, none, none, none, none, none] S = .ok (.ref S1.length) (S1 ++ [.lst [.int (1 + (d : Int))]]) := (mL_eq (cons_ok a1 nil_ok)).trans (by simp [plst, mkL])
    refine (mL_eq (cons_ok a2 nil_ok)).trans ?_
    simp [plst, mkL]
  obtain ⟨ev', S', q1, M, ks, k1, k2, k3, x0, x1, x2, x3, x4, x5, x6, x7, x8, x9, rfl⟩ := for_nx (tg := tgN 3) (body := w2Ltree_rows) (c := ⟨((List.range (n - 2)).map (2 + ·)).map fun (i : Nat) => D.int (i : Int), []⟩) (fun (i : Nat) => D.int (i : Int))
    (fun i ev S' => ∃ M ks, Kp p S S' ∧ Rws S' S.length (S1.length + 1) (2 + i) M ks ∧ Tree (2 + i) (9 + 6 * (i : Int)) M ∧ ∃ x0 x1 x2 x3 x4 x5 x6 x7 x8 x9, ev = [some (.ref p), some (.int (n : Int)), some (.ref (S1.length + 1)), x0, x1, x2, x3, x4, x5, x6, x7, x8, x9])
    (fun _ _ _ _ => rfl) ((List.range (n - 2)).map (2 + ·)) 0 [some (.ref p), some (.int (n : Int)), some (.ref (S1.length + 1)), none, none, none, none, none, none, none, none, none, none] (S1 ++ [.lst [.int (1 + (d : Int))]] ++ [.lst [.ref S1.length]])
    (fun i x hx ev S' hI => by
      obtain ⟨M, ks, k1, k2, k3, x0, x1, x2, x3, x4, x5, x6, x7, x8, x9, rfl⟩ := hI
      rw [Nat.zero_add] at *
      have hxi : x = 2 + i ∧ i < n - 2 := by
        rw [List.getElem?_map] at hx
        cases e : (List.range (n - 2))[i]? with
        | none => rw [e] at hx; cases hx
        | some z =>
          rw [e] at hx
          obtain ⟨rfl, hz⟩ := rangeT _ _ _ e
          exact ⟨(Option.some.inj hx).symm, hz⟩
      obtain ⟨rfl, hin⟩ := hxi
      obtain ⟨M', ks', S'', y1, y2, y3, y4, y5, y6, y7, y8, y9, t1, t2, t3, t4⟩ := tree_turn (n := (n : Int)) k1 hpl k2 k3 (by omega) (by omega) (by omega) x1 x2 x3 x4 x5 x6 x7 x8 x9
      exact ⟨[some (.ref p), some (.int (n : Int)), some (.ref (S1.length + 1)), some (.int ((2 + i : Nat) : Int)), x1, x2, x3, x4, x5, x6, x7, x8, x9], _, S'', rfl, .inl t1, M', ks', t2, t3, t4.low (by omega), _, _, _, _, _, _, _, _, _, _, rfl⟩) ⟨_, _, (hK1.app _).app _, h0, tr.low (by omega), none, none, none, none, none, none, none, none, none, none, rfl⟩
  have e : 0 + ((List.range (n - 2)).map (2 + ·)).length = n - 2 := by rw [List.length_map, List.length_range]; omega
  rw [e] at k2 k3
  have e2 : 2 + (n - 2) = n := by omega
  rw [e2] at k2 k3
  refine ⟨_, M, ks, S', ?_, k1, k2, k3.low (by omega)⟩
  have hloop : l2Ltree_rows [some (.ref p), some (.int (n : Int)), some (.ref (S1.length + 1)), none, none, none, none, none, none, none, none, none, none] (S1 ++ [.lst [.int (1 + (d : Int))]] ++ [.lst [.ref S1.length]]) = .ok .nx [some (.ref p), some (.int (n : Int)), some (.ref (S1.length + 1)), x0, x1, x2, x3, x4, x5, x6, x7, x8, x9] S' := by
    unfold l2Ltree_rows
    rw [sFor_eq (src_range2 (a := 2) (b := n) (cons_ok rfl (cons_ok rfl nil_ok)) (by omega) (by omega))]
    exact q1
  unfold mLtree_rows bLtree_rows
  exact def_rt (cons_nx hs (cons_nx hloop (ret_eq rfl)))
end ML


set_option Elab.async false
set_option linter.all false
set_option maxRecDepth 100000
set_option autoImplicit false
set_option maxHeartbeats 4000000
/-! plain Lean: metrics, drawn: a tree, some wrong measures, shortest distances -/
namespace ML
open PySem PySem.Spec PyProof.Rows L2
def upd (M : Nat → Nat → Int) (a b : Nat) (v : Int) : Nat → Nat → Int := fun i j => if (i = a ∧ j = b) ∨ (i = b ∧ j = a) then v else M i j
theorem upd_far {n : Nat} {M : Nat → Nat → Int} (h : Far n M) {a b : Nat} (hab : b < a) (ha : a < n) {v : Int} (h0 : 0 ≤ v) (h1 : v ≤ 999) : Far n (upd M a b v) := by
  refine ⟨fun i j hi hj => ?_, fun i hi => ?_, fun i j hi hj => ?_, fun i j hi hj => ?_⟩
  · unfold upd
    by_cases q : (i = a ∧ j = b) ∨ (i = b ∧ j = a)
    · rw [if_pos q, if_pos (by omega)]
    · rw [if_neg q, if_neg (by omega), h.sym i j hi hj]
  · unfold upd
    rw [if_neg (by omega), h.diag i hi]
  · unfold upd
    split
    · exact h0
    · exact h.pos i j hi hj
  · unfold upd
    split
    · exact h1
    · exact h.le i j hi hj
theorem Rws.upd {S : Sto} {lo r n : Nat} {M : Nat → Nat → Int} {ks : List Nat} (h : Rws S lo r n M ks) {t b k : Nat} (hk : ks[t]? = some k) (hb : b ≤ t) (v : Int) : Rws (S.set k (.lst ((rowL M t).set b (.int v)))) lo r n (ML.upd M (t + 1) b v) ks := by
  have hkr : k ≠ r := by rintro rfl; exact h.out (List.mem_of_getElem? hk)
  refine ⟨h.len, ?_, h.nd, h.out, h.low, h.lows, fun t' k' e => ?_⟩
  · rw [List.getElem?_set_ne hkr, h.head]
  · by_cases e2 : t' = t
    · subst e2
      rw [hk] at e
      cases e
      rw [List.getElem?_set_self (List.getElem?_eq_some_iff.mp (h.row t' k hk)).1]
      congr 2
      apply List.ext_getElem?
      intro j
      rw [List.getElem?_set]
      unfold rowL
      rcases Nat.lt_or_ge j (t' + 1) with q | q
      · rw [List.getElem?_map, List.getElem?_map, List.getElem?_range q, List.length_map, List.length_range]
        by_cases e3 : b = j
        · subst e3
          rw [if_pos rfl, if_pos q]
          show some (D.int v) = some (D.int (if _ then v else _))
          rw [if_pos (.inl ⟨rfl, rfl⟩)]
        · rw [if_neg e3]
          show some (D.int (M (t' + 1) j)) = some (D.int (if _ then v else M (t' + 1) j))
          rw [if_neg (by omega)]
      · rw [if_neg (by omega), List.getElem?_eq_none (by rw [List.length_map, List.length_range]; omega), List.getElem?_eq_none (by rw [List.length_map, List.length_range]; omega)]
    · have hne : k ≠ k' := by
        rintro rfl
        have h1 := (List.getElem?_eq_some_iff.mp hk)
        have h2 := (List.getElem?_eq_some_iff.mp e)
        obtain ⟨a1, b1⟩ := h1
        obtain ⟨a2, b2⟩ := h2
        exact e2 ((List.getElem_inj h.nd).mp (b2.trans b1.symm))
      rw [List.getElem?_set_ne hne, h.row t' k' e]
      congr 2
      unfold rowL
      refine List.map_congr_left fun j hj => ?_
      have hj := List.mem_range.mp hj
      show D.int (M (t' + 1) j) = D.int (if _ then v else M (t' + 1) j)
      rw [if_neg (by omega)]
/-- one wrong measure -/
theorem wrong_turn {S S0 : Sto} {p r n : Nat} {m0 m1 : Int} {M : Nat → Nat → Int} {ks : List Nat} (hK : Kp p S0 S) (hp : p < S0.length) (h : Rws S S0.length r n M ks) (hM : Far n M) (h2 : 2 ≤ n) (hn : n ≤ 1000) (x5 x6 x7 : Option D) :
    ∃ M' S' y6 y7, w1Lmetric [some (.ref p), some (.int m0), some (.int m1), some (.int (n : Int)), some (.ref r), x5, x6, x7] S = .ok .nx [some (.ref p), some (.int m0), some (.int m1), some (.int (n : Int)), some (.ref r), x5, y6, y7] S' ∧ Kp p S0 S' ∧ Rws S' S0.length r n M' ks ∧ Far n M' := by
  obtain ⟨t, S1, e1, c1, b1⟩ := draw_ev (many := (n : Int) - 1) (ev := [some (.ref p), some (.int m0), some (.int m1), some (.int (n : Int)), some (.ref r), x5, x6, x7]) (m := m2 psub (mVar 3) (mC (.int 1))) hK.pot (by omega) (by omega) rfl rfl
  have hK1 := hK.chg c1
  obtain ⟨b, S2, e2, c2, b2⟩ := draw_ev (many := ((t + 1 : Nat) : Int)) (ev := [some (.ref p), some (.int m0), some (.int m1), some (.int (n : Int)), some (.ref r), x5, some (.int ((t + 1 : Nat) : Int)), x7]) (m := mVar 6) hK1.pot (by omega) (by omega) rfl rfl
  have hK2 := hK1.chg c2
  obtain ⟨v, S3, e3, c3, b3⟩ := draw_ev (many := 20) (ev := [some (.ref p), some (.int m0), some (.int m1), some (.int (n : Int)), some (.ref r), x5, some (.int ((t + 1 : Nat) : Int)), some (.int (b : Int))]) (m := mC (.int 20)) hK2.pot (by omega) (by omega) rfl rfl
  have hK3 := hK2.chg c3
  have h3 := ((h.chg c1 hp).chg c2 hp).chg c3 hp
  obtain ⟨k, i0, i1, i2⟩ := h3.ix (t := t) (by omega)
  have hrow := h3.row t k i0
  refine ⟨_, S3.set k (.lst ((rowL M t).set b (.int (1 + (v : Int))))), some (.int ((t + 1 : Nat) : Int)), some (.int (b : Int)), ?_, hK3.set hp (h3.lows k (List.mem_of_getElem? i0)) _, h3.upd i0 (by omega) (1 + (v : Int)), upd_far hM (by omega) (by omega) (by omega) (by omega)⟩
  have s1 : sSet 6 (m2 (padd false) (mC (.int 1)) (mCall 2 mDraw (mCons (mVar 0) (mCons (m2 psub (mVar 3) (mC (.int 1))) (mNil))))) [some (.ref p), some (.int m0), some (.int m1), some (.int (n : Int)), some (.ref r), x5, x6, x7] S = .ok .nx [some (.ref p), some (.int m0), some (.int m1), some (.int (n : Int)), some (.ref r), x5, some (.int ((t + 1 : Nat) : Int)), x7] S1 := by
    refine set_eq ((m2_eq rfl e1).trans ?_)
    show R.ok (D.int (1 + (t : Int))) S1 = _
    rw [show 1 + (t : Int) = ((t + 1 : Nat) : Int) by omega]
  have s2 : sSet 7 (mCall 2 mDraw (mCons (mVar 0) (mCons (mVar 6) (mNil)))) [some (.ref p), some (.int m0), some (.int m1), some (.int (n : Int)), some (.ref r), x5, some (.int ((t + 1 : Nat) : Int)), x7] S1 = .ok .nx [some (.ref p), some (.int m0), some (.int m1), some (.int (n : Int)), some (.ref r), x5, some (.int ((t + 1 : Nat) : Int)), some (.int (b : Int))] S2 := set_eq e2
  have s3 : m2 (padd false) (mC (.int 1)) (mCall 2 mDraw (mCons (mVar 0) (mCons (mC (.int 20)) (mNil)))) [some (.ref p), some (.int m0), some (.int m1), some (.int (n : Int)), some (.ref r), x5, some (.int ((t + 1 : Nat) : Int)), some (.int (b : Int))] S2 = .ok (.int (1 + (v : Int))) S3 := (m2_eq rfl e3).trans rfl
  have s4 : m2 pix (mVar 4) (m2 psub (mVar 6) (mC (.int 1))) [some (.ref p), some (.int m0), some (.int m1), some (.int (n : Int)), some (.ref r), x5, some (.int ((t + 1 : Nat) : Int)), some (.int (b : Int))] S3 = .ok (.ref k) S3 := by
    refine (m2_eq (y := .int (t : Int)) rfl ?_).trans i1
    show R.ok (D.int (((t + 1 : Nat) : Int) - 1)) S3 = _
    rw [show ((t + 1 : Nat) : Int) - 1 = (t : Int) by omega]
  unfold w1Lmetric
  exact cons_nx s1 (cons_nx s2 (asg_sub s3 s4 rfl hrow (by unfold rowL; rw [List.length_map, List.length_range]; omega)))
theorem tree_far {n : Nat} {b : Int} {M : Nat → Nat → Int} (h : Tree n b M) (hb : b ≤ 999) : Far n M := ⟨h.sym, h.diag, h.pos, fun i j hi hj => Int.le_trans (h.le i j hi hj) hb⟩
theorem drawn_metric {S : Sto} {p most wrong : Nat} (hP : Pot S p) (h2 : 2 ≤ most) (h8 : most ≤ 100) (hw : wrong ≤ 1000) : ∃ n M S', mLmetric [.ref p, .int (most : Int), .int (wrong : Int)] S = .ok (tblF n M) S' ∧ Kp p S S' ∧ 2 ≤ n ∧ n ≤ most ∧ Met n M := by
  have hpl := hP.lt
  obtain ⟨d, S1, e1, c1, b1⟩ := draw_ev (many := (most : Int) - 1) (ev := [some (.ref p), some (.int (most : Int)), some (.int (wrong : Int)), none, none, none, none, none]) (m := m2 psub (mVar 1) (mC (.int 1))) hP (by omega) (by omega) rfl rfl
  have hK1 := (Kp.refl hP).chg c1
  have s1 : sSet 3 (m2 (padd false) (mC (.int 2)) (mCall 2 mDraw (mCons (mVar 0) (mCons (m2 psub (mVar 1) (mC (.int 1))) (mNil))))) [some (.ref p), some (.int (most : Int)), some (.int (wrong : Int)), none, none, none, none, none] S = .ok .nx [some (.ref p), some (.int (most : Int)), some (.int (wrong : Int)), some (.int ((2 + d : Nat) : Int)), none, none, none, none] S1 := by
    refine set_eq ((m2_eq rfl e1).trans ?_)
    show R.ok (D.int (2 + (d : Int))) S1 = _
    rw [show 2 + (d : Int) = ((2 + d : Nat) : Int) by omega]
  obtain ⟨n, hn⟩ : ∃ n, n = 2 + d := ⟨_, rfl⟩
  rw [← hn] at s1
  obtain ⟨r, M, ks, S2, e2, k2, k3, k4⟩ := tree_ok (n := n) hK1.pot (by omega) (by omega)
  have hlen : S.length = S1.length := c1.len.symm
  rw [← hlen] at k3
  have hK2 := hK1.trans k2
  have s2 : sSet 4 (mCall 2 mLtree_rows (mCons (mVar 0) (mCons (mVar 3) (mNil)))) [some (.ref p), some (.int (most : Int)), some (.int (wrong : Int)), some (.int (n : Int)), none, none, none, none] S1 = .ok .nx [some (.ref p), some (.int (most : Int)), some (.int (wrong : Int)), some (.int (n : Int)), some (.ref r), none, none, none] S2 := set_eq ((call_eq (cons_ok rfl (cons_ok rfl nil_ok)) rfl).trans e2)
  obtain ⟨w, S3, e3, c3, b3⟩ := draw_ev (many := (wrong : Int) + 1) (ev := [some (.ref p), some (.int (most : Int)), some (.int (wrong : Int)), some (.int (n : Int)), some (.ref r), none, none, none]) (m := m2 (padd false) (mVar 2) (mC (.int 1))) hK2.pot (by omega) (by omega) rfl rfl
  have hK3 := hK2.chg c3
  obtain ⟨ev', S', q1, M', k1', k2', k3', x5, x6, x7, rfl⟩ := for_nx (tg := tgN 5) (body := w1Lmetric) (c := ⟨(List.range w).map fun (i : Nat) => D.int (i : Int), []⟩) (fun (i : Nat) => D.int (i : Int))
    (fun i ev S' => ∃ M, Kp p S S' ∧ Rws S' S.length r n M ks ∧ Far n M ∧ ∃ x5 x6 x7, ev = [some (.ref p), some (.int (most : Int)), some (.int (wrong : Int)), some (.int (n : Int)), some (.ref r), x5, x6, x7])
    (fun _ _ _ _ => rfl) (List.range w) 0 [some (.ref p), some (.int (most : Int)), some (.int (wrong : Int)), some (.int (n : Int)), some (.ref r), none, none, none] S3
    (fun i x hx ev S' hI => by
      obtain ⟨M, k1, k2, k3, x5, x6, x7, rfl⟩ := hI
      obtain ⟨M', S'', y6, y7, t1, t2, t3, t4⟩ := wrong_turn (m0 := (most : Int)) (m1 := (wrong : Int)) k1 hpl k2 k3 (by omega) (by omega) (some (.int (x : Int))) x6 x7
      exact ⟨[some (.ref p), some (.int (most : Int)), some (.int (wrong : Int)), some (.int (n : Int)), some (.ref r), some (.int (x : Int)), x6, x7], _, S'', rfl, .inl t1, M', t2, t3, t4, _, _, _, rfl⟩) ⟨M, hK3, k3.chg c3 hpl, tree_far k4 (by omega), none, none, none, rfl⟩
  have s3 : l1Lmetric [some (.ref p), some (.int (most : Int)), some (.int (wrong : Int)), some (.int (n : Int)), some (.ref r), none, none, none] S2 = .ok .nx [some (.ref p), some (.int (most : Int)), some (.int (wrong : Int)), some (.int (n : Int)), some (.ref r), x5, x6, x7] S' := by
    unfold l1Lmetric
    rw [sFor_eq (src_range1 (n := w) (cons_ok e3 nil_ok) (by omega))]
    exact q1
  have cl := closed_ok k2' k3' (by omega) (by omega)
  refine ⟨n, fwN M' n, _, ?_, k1'.app [.lst ((List.range n).map (rowN n (fwN M' n)))], by omega, by omega, fwN_met k3'⟩
  have tb := ltable_ok n (fwN M' n) (by omega) (S' ++ [.lst ((List.range n).map (rowN n (fwN M' n)))])
  unfold mLmetric bLmetric
  exact def_rt (cons_nx s1 (cons_nx s2 (cons_nx s3 (ret_eq ((call_eq (cons_ok ((call_eq (cons_ok rfl nil_ok) rfl).trans cl) nil_ok) rfl).trans tb)))))
end ML


set_option Elab.async false
set_option linter.all false
set_option maxRecDepth 100000
set_option autoImplicit false
set_option maxHeartbeats 4000000
/-! plain Lean: rows built town by town out of any measures -/
namespace ML
open PySem PySem.Spec PyProof.Rows L2
theorem kcons_ok {ma : ML.M D} {ml : ML.M (List D)} {ev : Ev} {S S1 S2 : Sto} {d : D} {ds : List D} (h : ma ev S = .ok d S1) (k : ml ev S1 = .ok ds S2) : mkCons ma ml ev S = .ok (d :: ds) S2 := cons_ok h k
theorem knil_ok {ev : Ev} {S : Sto} : mkNil ev S = .ok [] S := rfl
theorem ints_get (X : List Int) : X.map D.int = (List.range X.length).map fun j => D.int (X.getD j 0) := by
  apply List.ext_getElem?
  intro i
  rcases Nat.lt_or_ge i X.length with q | q
  · rw [List.getElem?_map, List.getElem?_map, List.getElem?_range q, List.getElem?_eq_getElem q]
    simp [List.getD, List.getElem?_eq_getElem q]
  · rw [List.getElem?_eq_none (by rw [List.length_map]; exact q), List.getElem?_eq_none (by rw [List.length_map, List.length_range]; exact q)]
theorem Rws.chgs {S S' S0 : Sto} {p r n : Nat} {M : Nat → Nat → Int} {ks : List Nat} (h : Rws S S0.length r n M ks) (hk : ∀ i, S0.length ≤ i → i < S.length → S'[i]? = S[i]?) : Rws S' S0.length r n M ks := h.keep hk
/-- a row of measures at k, one by one: what is kept meanwhile -/
structure RowI (S0 S : Sto) (p r t k : Nat) (M : Nat → Nat → Int) (ks : List Nat) (i : Nat) : Prop where
  kp : Kp p S0 S
  rws : Rws S S0.length r t M ks
  row : ∃ X : List Int, X.length = i ∧ (∀ x ∈ X, 0 ≤ x ∧ x ≤ 999) ∧ S[k]? = some (Cell.lst (X.map D.int))
theorem RowI.chg {S0 S S' : Sto} {p r t k : Nat} {M : Nat → Nat → Int} {ks : List Nat} {i : Nat} (h : RowI S0 S p r t k M ks i) (c : Chg p S S') (hp : p < S0.length) (hk : S0.length ≤ k) : RowI S0 S' p r t k M ks i := by
  obtain ⟨X, x1, x2, x3⟩ := h.row
  exact ⟨h.kp.chg c, h.rws.chg c hp, X, x1, x2, by rw [c.other (by omega)]; exact x3⟩
theorem RowI.add {S0 S : Sto} {p r t k : Nat} {M : Nat → Nat → Int} {ks : List Nat} {i : Nat} (h : RowI S0 S p r t k M ks i) (hp : p < S0.length) (hk : S0.length ≤ k) (hr : k ≠ r) (hn : k ∉ ks) (hi : i ≤ 1000) {ev : Ev} {x : Nat} {m : ML.M D} {S1 : Sto} {v : Int} (hx : ev[x]? = some (some (.ref k))) (hm : m ev S = .ok (.int v) S1) (c : Chg p S S1) (h0 : 0 ≤ v) (h1 : v ≤ 999) :
    ∃ S', sExpr (mMe isSeq pappend (mVar x) (mCons m mNil)) ev S = .ok .nx ev S' ∧ RowI S0 S' p r t k M ks (i + 1) := by
  obtain ⟨X, x1, x2, x3⟩ := h.row
  have h' := h.chg c hp hk
  have x3' : S1[k]? = some (Cell.lst (X.map D.int)) := by rw [c.other (by omega)]; exact x3
  have hkl : k < S1.length := (List.getElem?_eq_some_iff.mp x3').1
  refine ⟨_, app_ok hx x3 hm x3' (by rw [List.length_map]; omega), h'.kp.set hp hk _, ?_, X ++ [v], by rw [List.length_append, List.length_singleton, x1], ?_, ?_⟩
  · have hw := h'.rws
    refine ⟨hw.len, ?_, hw.nd, hw.out, hw.low, hw.lows, fun t' k' e => ?_⟩
    · rw [List.getElem?_set_ne hr, hw.head]
    · rw [List.getElem?_set_ne (by rintro rfl; exact hn (List.mem_of_getElem? e)), hw.row t' k' e]
  · intro y hy
    rcases List.mem_append.mp hy with hy | hy
    · exact x2 y hy
    · rw [List.mem_singleton.mp hy]; exact ⟨h0, h1⟩
  · rw [List.getElem?_set_self hkl, List.map_append]
    rfl
theorem RowI.done {S0 S : Sto} {p r t k : Nat} {M : Nat → Nat → Int} {ks : List Nat} (h : RowI S0 S p r t k M ks t) (hM : Far t M) (hp : p < S0.length) (hk : S0.length ≤ k) (hr : k ≠ r) (hn : k ∉ ks) (ht : t ≤ 1000) {ev : Ev} {x y : Nat} (hx : ev[x]? = some (some (.ref r))) (hy : ev[y]? = some (some (.ref k))) :
    ∃ M' S', sExpr (mMe isSeq pappend (mVar x) (mCons (mVar y) mNil)) ev S = .ok .nx ev S' ∧ Kp p S0 S' ∧ Rws S' S0.length r (t + 1) M' (ks ++ [k]) ∧ Far (t + 1) M' ∧ S'.length = S.length := by
  obtain ⟨X, x1, x2, x3⟩ := h.row
  rw [ints_get, x1] at x3
  have v : mVar y ev S = .ok (.ref k) S := by unfold mVar; rw [hy]; rfl
  have hl := h.rws.len
  refine ⟨_, _, app_ok hx h.rws.head v h.rws.head (by rw [List.length_map]; omega), h.kp.set hp h.rws.low _, h.rws.grow _ x3 hk hr hn, grow_far hM _ fun j hj => ?_, by rw [List.length_set]⟩
  have hj' : j < X.length := by omega
  have := x2 X[j] (List.getElem_mem hj')
  simpa [List.getD, List.getElem?_eq_getElem hj'] using this
theorem rws_one {S : Sto} {lo r : Nat} (h : S[r]? = some (Cell.lst [])) (hlo : lo ≤ r) : Rws S lo r 1 (fun _ _ => 0) [] := ⟨rfl, h, List.nodup_nil, List.not_mem_nil, hlo, fun _ h => absurd h List.not_mem_nil, fun t k e => by simp at e⟩
theorem far_one : Far 1 (fun _ _ => (0 : Int)) := ⟨fun _ _ _ _ => rfl, fun _ _ => rfl, fun _ _ _ _ => Int.le_refl _, fun _ _ _ _ => by decide⟩
end ML


set_option Elab.async false
set_option linter.all false
set_option maxRecDepth 100000
set_option autoImplicit false
set_option maxHeartbeats 4000000
/-! is, is not of two truth values -/
namespace ML
open PySem PySem.Spec PyProof.Rows L2
def pis : P2 := fun x y S => match x, y with
  | .bl a, .bl b => .ok (.bl (decide (a = b))) S
  | _, _ => .no
def pnis : P2 := fun x y S => match x, y with
  | .bl a, .bl b => .ok (.bl (!decide (a = b))) S
  | _, _ => .no
section
variable {X : Cx} {W : WX}
theorem o_is : OpM X W (compareOp .Is) pis := by
  intro g σ H S x y v u Q rl rx ry hP pins s vv uu I rv ru
  unfold pis at hP
  split at hP
  · rename_i a b
    cases rx; cases ry
    cases rv; cases ru
    refine wpAny_is_plain rfl ⟨.bl (decide (a = b)), H, I, ?_, post_ok rl (.bl _) hP⟩
    show (Value.bool ((Value.bool a : Value) == Value.bool b)) = Value.bool (decide (a = b))
    cases a <;> cases b <;> rfl
  · exact hP.elim
theorem o_nis : OpM X W (compareOp .IsNot) pnis := by
  intro g σ H S x y v u Q rl rx ry hP pins s vv uu I rv ru
  unfold pnis at hP
  split at hP
  · rename_i a b
    cases rx; cases ry
    cases rv; cases ru
    refine wpAny_isNot_plain rfl ⟨.bl (!decide (a = b)), H, I, ?_, post_ok rl (.bl _) hP⟩
    show (Value.bool (!((Value.bool a : Value) == Value.bool b))) = Value.bool (!decide (a = b))
    cases a <;> cases b <;> rfl
  · exact hP.elim
end
instance : RP2 pis := ⟨fun P x y S => by cases x <;> cases y <;> rfl⟩
instance : RP2 pnis := ⟨fun P x y S => by cases x <;> cases y <;> rfl⟩
end ML


set_option Elab.async false
set_option linter.all false
set_option maxRecDepth 100000
set_option autoImplicit false
set_option maxHeartbeats 4000000
namespace Mk81
open ML PySem PySem.Spec PyProof.Rows L2
/-- is an error of the class y one of the class c: (c, y, answer) -/
def tsub : Table := []
def tis : Table := []
def b_is_integer : MS := sRet (mAnd (mL pisi (mCons (mVar 0) (mCons (mC (.ty "int")) (mNil)))) (m1 pnot (mL pisi (mCons (mVar 0) (mCons (mC (.ty "bool")) (mNil))))))
def m_is_integer : List D → Sto → R D := mDef (["value"] : List Str).length b_is_integer
def b_is_count : MS := sRet (mAnd (mCall 1 m_is_integer (mCons (mVar 0) (mNil))) (m2 (pcmp fun i j => decide (j ≤ i)) (mVar 0) (mC (.int 0))))
def m_is_count : List D → Sto → R D := mDef (["value"] : List Str).length b_is_count
def b_is_position : MS := sRet (mAnd (mCall 1 m_is_count (mCons (mVar 0) (mNil))) (m2 (pcmp fun i j => decide (i < j)) (mVar 0) (mVar 1)))
def m_is_position : List D → Sto → R D := mDef (["value", "many"] : List Str).length b_is_position
def c1_is_rising : M D := mLc false (([("one", 2)] : List (Str × Nat)).map (·.2)) id (mSrc (mVar 0)) (tgN 2) (mYes) (mCall 2 m_is_position (mCons (mVar 2) (mCons (mVar 1) (mNil))))
def c2_is_rising : M D := mLc false (([("one", 2), ("other", 3)] : List (Str × Nat)).map (·.2)) id (mZip (mCons (mVar 0) (mCons (mSl false (mVar 0) (oSome (mC (.int 1))) (oNone)) (mNil)))) (tgT 2 (tgCons (tgN 2) (tgCons (tgN 3) (tgNil)))) (mYes) (m2 (pcmp fun i j => decide (i < j)) (mVar 2) (mVar 3))
def b_is_rising : MS := sCons (sIf (tOrM (tNotM (mTr (mL pisi (mCons (mVar 0) (mCons (mC (.ty "tuple")) (mNil)))))) (tNotM (mTr (mL pall (mCons (c1_is_rising) (mNil)))))) (sRet (mC (.bl false))) (sNil)) (sRet (mL pall (mCons (c2_is_rising) (mNil))))
def m_is_rising : List D → Sto → R D := mDef (["value", "many", "one", "other"] : List Str).length b_is_rising
def c1_sizes_are_right : M D := mLc false (([("at", 1), ("row", 2)] : List (Str × Nat)).map (·.2)) id (mEnum (mCons (mVar 0) (mNil))) (tgT 2 (tgCons (tgN 1) (tgCons (tgN 2) (tgNil)))) (mYes) (m2 peq (mL plen (mCons (mVar 2) (mNil))) (m2 (padd false) (mVar 1) (mC (.int 1))))
def b_sizes_are_right : MS := sRet (mAnd (mChain (pcmp fun i j => decide (i ≤ j)) (pcmp fun i j => decide (i < j)) (mC (.int 1)) (mL plen (mCons (mVar 0) (mNil))) (mC (.int 8))) (mL pall (mCons (c1_sizes_are_right) (mNil))))
def m_sizes_are_right : List D → Sto → R D := mDef (["rows", "at", "row"] : List Str).length b_sizes_are_right
def c1_flaw_of : M D := mLc false (([("row", 1)] : List (Str × Nat)).map (·.2)) id (mSrc (m2 pix (mVar 0) (mC (.int 1)))) (tgN 1) (mYes) (mL pisi (mCons (mVar 1) (mCons (mC (.ty "tuple")) (mNil))))
def c2_flaw_of : M D := mLc false (([("far", 2)] : List (Str × Nat)).map (·.2)) id (mSrc (mVar 1)) (tgN 2) (mYes) (mAnd (mCall 1 m_is_count (mCons (mVar 2) (mNil))) (m2 (pcmp fun i j => decide (i ≤ j)) (mVar 2) (mC (.int 999))))
def w1_flaw_of : MS := sIf (tNotM (mTr (mL pall (mCons (c2_flaw_of) (mNil))))) (sRet (mC (.str "numbers"))) (sNil)
def l1_flaw_of : MS := sFor (mSrc (m2 pix (mVar 0) (mC (.int 1)))) (tgN 1) (w1_flaw_of)
def b_flaw_of : MS := sCons (sIf (tOrM (tNotM (mTr (mL pisi (mCons (mVar 0) (mCons (mC (.ty "tuple")) (mNil)))))) (tOrM (mT (m2 pne (mL plen (mCons (mVar 0) (mNil))) (mC (.int 2)))) (tOrM (tNotM (mTr (mL pisi (mCons (m2 pix (mVar 0) (mC (.int 0))) (mCons (mC (.ty "str")) (mNil)))))) (mT (m2 pne (m2 pix (mVar 0) (mC (.int 0))) (mC (.str "table"))))))) (sRet (mC (.str "form"))) (sNil)) (sCons (sIf (tOrM (tNotM (mTr (mL pisi (mCons (m2 pix (mVar 0) (mC (.int 1))) (mCons (mC (.ty "tuple")) (mNil)))))) (tNotM (mTr (mL pall (mCons (c1_flaw_of) (mNil)))))) (sRet (mC (.str "rows"))) (sNil)) (sCons (sIf (tNotM (mTr (mCall 1 m_sizes_are_right (mCons (m2 pix (mVar 0) (mC (.int 1))) (mNil))))) (sRet (mC (.str "rows"))) (sNil)) (sCons (l1_flaw_of) (sRet (mC .non)))))
def m_flaw_of : List D → Sto → R D := mDef (["value", "row", "far"] : List Str).length b_flaw_of
def b_table_is_right : MS := sRet (m1 pisN (mCall 1 m_flaw_of (mCons (mVar 0) (mNil))))
def m_table_is_right : List D → Sto → R D := mDef (["value"] : List Str).length b_table_is_right
def b_many_of_tables : MS := sRet (m2 (padd false) (mL plen (mCons (m2 pix (mVar 0) (mC (.int 1))) (mNil))) (mC (.int 1)))
def m_many_of_tables : List D → Sto → R D := mDef (["table"] : List Str).length b_many_of_tables
def b_far_of : MS := sRet (mIf (mT (m2 peq (mVar 1) (mVar 2))) (mC (.int 0)) (m2 pix (m2 pix (m2 pix (mVar 0) (mC (.int 1))) (m2 psub (mL pmax2 (mCons (mVar 1) (mCons (mVar 2) (mNil)))) (mC (.int 1)))) (mL pmin2 (mCons (mVar 1) (mCons (mVar 2) (mNil))))))
def m_far_of : List D → Sto → R D := mDef (["table", "one", "other"] : List Str).length b_far_of
def w1_short_of : MS := sIf (mT (m2 pnin (mVar 3) (mL ptup (mCons (mVar 2) (mCons (mVar 4) (mNil)))))) (sIf (mT (m2 (pcmp fun i j => decide (j < i)) (mCall 3 m_far_of (mCons (mVar 0) (mCons (mVar 2) (mCons (mVar 4) (mNil))))) (m2 (padd false) (mCall 3 m_far_of (mCons (mVar 0) (mCons (mVar 2) (mCons (mVar 3) (mNil))))) (mCall 3 m_far_of (mCons (mVar 0) (mCons (mVar 3) (mCons (mVar 4) (mNil)))))))) (sRet (mL ptup (mCons (mVar 2) (mCons (mVar 3) (mCons (mVar 4) (mNil)))))) (sNil)) (sNil)
def l1_short_of : MS := sFor (mRange2 (mCons (m2 (padd false) (mVar 2) (mC (.int 1))) (mCons (mCall 1 m_many_of_tables (mCons (mVar 0) (mNil))) (mNil)))) (tgN 4) (w1_short_of)
def w2_short_of : MS := l1_short_of
def l2_short_of : MS := sFor (mRng (mVar 1)) (tgN 3) (w2_short_of)
def w3_short_of : MS := l2_short_of
def l3_short_of : MS := sFor (mRng (mVar 1)) (tgN 2) (w3_short_of)
def b_short_of : MS := sCons (sSet 1 (mL prng1 (mCons (mCall 1 m_many_of_tables (mCons (mVar 0) (mNil))) (mNil)))) (sCons (l3_short_of) (sRet (mC .non)))
def m_short_of : List D → Sto → R D := mDef (["table", "every", "one", "stop", "other"] : List Str).length b_short_of
def b_check_table_tables : MS := sIf (tNotM (mTr (mCall 1 m_table_is_right (mCons (mVar 0) (mNil))))) (sRaise "InvalidTable" "value" (mCons (mVar 0) (mNil))) (sNil)
def m_check_table_tables : List D → Sto → R D := mDef (["table"] : List Str).length b_check_table_tables
def b_is_table : MS := sRet (mCall 1 m_table_is_right (mCons (mVar 0) (mNil)))
def m_is_table : List D → Sto → R D := mDef (["value"] : List Str).length b_is_table
def b_short_triple : MS := sCons (sExpr (mCall 1 m_check_table_tables (mCons (mVar 0) (mNil)))) (sRet (mCall 1 m_short_of (mCons (mVar 0) (mNil))))
def m_short_triple : List D → Sto → R D := mDef (["table"] : List Str).length b_short_triple
def b_many_of : MS := sRet (m2 (padd false) (mL plen (mCons (m2 pix (mVar 0) (mC (.int 1))) (mNil))) (mC (.int 1)))
def m_many_of : List D → Sto → R D := mDef (["table"] : List Str).length b_many_of
def b_three_sums : MS := sCons (sAsg (tgT 4 (tgCons (tgN 2) (tgCons (tgN 3) (tgCons (tgN 4) (tgCons (tgN 5) (tgNil)))))) (mVar 1)) (sCons (sSet 6 (mL (plst false) (mCons (m2 (padd false) (mCall 3 m_far_of (mCons (mVar 0) (mCons (mVar 2) (mCons (mVar 3) (mNil))))) (mCall 3 m_far_of (mCons (mVar 0) (mCons (mVar 4) (mCons (mVar 5) (mNil)))))) (mCons (m2 (padd false) (mCall 3 m_far_of (mCons (mVar 0) (mCons (mVar 2) (mCons (mVar 4) (mNil))))) (mCall 3 m_far_of (mCons (mVar 0) (mCons (mVar 3) (mCons (mVar 5) (mNil)))))) (mNil))))) (sRet (mL (psorted false) (mCons (m2 (padd false) (mVar 6) (mL (plst false) (mCons (m2 (padd false) (mCall 3 m_far_of (mCons (mVar 0) (mCons (mVar 2) (mCons (mVar 5) (mNil))))) (mCall 3 m_far_of (mCons (mVar 0) (mCons (mVar 3) (mCons (mVar 4) (mNil)))))) (mNil)))) (mNil)))))
def m_three_sums : List D → Sto → R D := mDef (["table", "four", "i", "j", "k", "z", "found"] : List Str).length b_three_sums
def b_four_badness : MS := sCons (sSet 2 (mCall 2 m_three_sums (mCons (mVar 0) (mCons (mVar 1) (mNil))))) (sRet (m2 psub (m2 pix (mVar 2) (mC (.int 2))) (m2 pix (mVar 2) (mC (.int 1)))))
def m_four_badness : List D → Sto → R D := mDef (["table", "four", "sums"] : List Str).length b_four_badness
def c1_fours_of : M D := mLc false (([("town", 5)] : List (Str × Nat)).map (·.2)) id (mRange2 (mCons (mIf (mT (m2 pne (mVar 4) (mL ptup (mNil)))) (m2 (padd false) (m2 pix (mVar 4) (m1 pneg (mC (.int 1)))) (mC (.int 1))) (mC (.int 0))) (mCons (mVar 0) (mNil)))) (tgN 5) (mYes) (m2 (padd false) (mVar 4) (mL ptup (mCons (mVar 5) (mNil))))
def w1_fours_of : MS := sExpr (mMe isSeq pextend (mVar 3) (mCons (c1_fours_of) (mNil)))
def l1_fours_of : MS := sFor (mSrc (mVar 1)) (tgN 4) (w1_fours_of)
def w2_fours_of : MS := sCons (sSet 3 (mL (plst true) (mNil))) (sCons (l1_fours_of) (sSet 1 (mVar 3)))
def l2_fours_of : MS := sFor (mRange1 (mCons (mC (.int 4)) (mNil))) (tgN 2) (w2_fours_of)
def b_fours_of : MS := sCons (sSet 1 (mL (plst false) (mCons (mL ptup (mNil)) (mNil)))) (sCons (l2_fours_of) (sRet (mVar 1)))
def m_fours_of : List D → Sto → R D := mDef (["many", "found", "turn", "later", "lot", "town"] : List Str).length b_fours_of
def c1_bad_fours : M D := mLc false (([("four", 1)] : List (Str × Nat)).map (·.2)) id (mSrc (mCall 1 m_fours_of (mCons (mCall 1 m_many_of (mCons (mVar 0) (mNil))) (mNil)))) (tgN 1) (mT (m2 (pcmp fun i j => decide (j < i)) (mCall 2 m_four_badness (mCons (mVar 0) (mCons (mVar 1) (mNil)))) (mC (.int 0)))) (mVar 1)
def b_bad_fours : MS := sRet (c1_bad_fours)
def m_bad_fours : List D → Sto → R D := mDef (["table", "four"] : List Str).length b_bad_fours
def c1_lots_of : M D := mLc false (([("town", 6)] : List (Str × Nat)).map (·.2)) id (mSrc (mVar 0)) (tgN 6) (tOrM (mT (m2 peq (mVar 5) (mL ptup (mNil)))) (mT (m2 (pcmp fun i j => decide (j < i)) (mVar 6) (m2 pix (mVar 5) (m1 pneg (mC (.int 1))))))) (m2 (padd false) (mVar 5) (mL ptup (mCons (mVar 6) (mNil))))
def w1_lots_of : MS := sExpr (mMe isSeq pextend (mVar 4) (mCons (c1_lots_of) (mNil)))
def l1_lots_of : MS := sFor (mSrc (mVar 2)) (tgN 5) (w1_lots_of)
def w2_lots_of : MS := sCons (sSet 4 (mL (plst true) (mNil))) (sCons (l1_lots_of) (sCons (sSet 2 (mVar 4)) (sSet 1 (m2 (padd false) (mVar 1) (mVar 2)))))
def l2_lots_of : MS := sFor (mRange1 (mCons (mL plen (mCons (mVar 0) (mNil))) (mNil))) (tgN 3) (w2_lots_of)
def b_lots_of : MS := sCons (sPar 1 2 (mCons (mL (plst false) (mCons (mL ptup (mNil)) (mNil))) (mCons (mL (plst false) (mCons (mL ptup (mNil)) (mNil))) (mNil)))) (sCons (l2_lots_of) (sRet (mVar 1)))
def m_lots_of : List D → Sto → R D := mDef (["some", "found", "wave", "size", "longer", "lot", "town"] : List Str).length b_lots_of
def c1_meets : M D := mLc false (([("town", 2)] : List (Str × Nat)).map (·.2)) id (mSrc (mVar 0)) (tgN 2) (mYes) (m2 pin (mVar 2) (mVar 1))
def b_meets : MS := sRet (mL pany (mCons (c1_meets) (mNil)))
def m_meets : List D → Sto → R D := mDef (["lot", "four", "town"] : List Str).length b_meets
def c1_cures : M D := mLc false (([("four", 2)] : List (Str × Nat)).map (·.2)) id (mSrc (mVar 0)) (tgN 2) (mYes) (mCall 2 m_meets (mCons (mVar 1) (mCons (mVar 2) (mNil))))
def b_cures : MS := sRet (mL pall (mCons (c1_cures) (mNil)))
def m_cures : List D → Sto → R D := mDef (["bad", "lot", "four"] : List Str).length b_cures
def w1_first_cure : MS := sIf (mTr (mCall 2 m_cures (mCons (mVar 0) (mCons (mVar 2) (mNil))))) (sRet (mVar 2)) (sNil)
def l1_first_cure : MS := sFor (mSrc (mCall 1 m_lots_of (mCons (mVar 1) (mNil)))) (tgN 2) (w1_first_cure)
def b_first_cure : MS := sCons (l1_first_cure) (sRet (mC .non))
def m_first_cure : List D → Sto → R D := mDef (["bad", "some", "lot"] : List Str).length b_first_cure
def b_least_of : MS := sRet (mCall 2 m_first_cure (mCons (mCall 1 m_bad_fours (mCons (mVar 0) (mNil))) (mCons (mL (plistR false) (mCons (mCall 1 m_many_of (mCons (mVar 0) (mNil))) (mNil))) (mNil))))
def m_least_of : List D → Sto → R D := mDef (["table"] : List Str).length b_least_of
def c1_least_ones : M D := mLc false (([("lot", 3)] : List (Str × Nat)).map (·.2)) id (mSrc (mCall 1 m_lots_of (mCons (mL (plistR false) (mCons (mCall 1 m_many_of (mCons (mVar 0) (mNil))) (mNil))) (mNil)))) (tgN 3) (tAndM (mT (m2 peq (mL plen (mCons (mVar 3) (mNil))) (mVar 2))) (mTr (mCall 2 m_cures (mCons (mVar 1) (mCons (mVar 3) (mNil)))))) (mVar 3)
def b_least_ones : MS := sCons (sAsg (tgT 2 (tgCons (tgN 1) (tgCons (tgN 2) (tgNil)))) (mL ptup (mCons (mCall 1 m_bad_fours (mCons (mVar 0) (mNil))) (mCons (mL plen (mCons (mCall 1 m_least_of (mCons (mVar 0) (mNil))) (mNil))) (mNil))))) (sRet (c1_least_ones))
def m_least_ones : List D → Sto → R D := mDef (["table", "bad", "size", "lot"] : List Str).length b_least_ones
def c1_believing_of : M D := mLc false (([("other", 2)] : List (Str × Nat)).map (·.2)) id (mRange1 (mCons (mCall 1 m_many_of (mCons (mVar 0) (mNil))) (mNil))) (tgN 2) (mT (m2 pne (mVar 2) (mVar 1))) (mVar 2)
def b_believing_of : MS := sRet (mCall 2 m_first_cure (mCons (mCall 1 m_bad_fours (mCons (mVar 0) (mNil))) (mCons (c1_believing_of) (mNil))))
def m_believing_of : List D → Sto → R D := mDef (["table", "town", "other"] : List Str).length b_believing_of
def b_lot_is_right : MS := sRet (mCall 2 m_is_rising (mCons (mVar 1) (mCons (mCall 1 m_many_of (mCons (mVar 0) (mNil))) (mNil))))
def m_lot_is_right : List D → Sto → R D := mDef (["table", "value"] : List Str).length b_lot_is_right
def b_check_table : MS := sIf (tNotM (mTr (mCall 1 m_is_table (mCons (mVar 0) (mNil))))) (sRaise "InvalidTable" "value" (mCons (mVar 0) (mNil))) (sNil)
def m_check_table : List D → Sto → R D := mDef (["table"] : List Str).length b_check_table
def b_check_metric : MS := sCons (sSet 1 (mCall 1 m_short_triple (mCons (mVar 0) (mNil)))) (sIf (mT (m1 pnotN (mVar 1))) (sDead) (sNil))
def m_check_metric : List D → Sto → R D := mDef (["table", "found"] : List Str).length b_check_metric
def b_check_known : MS := sCons (sExpr (mCall 1 m_check_table (mCons (mVar 0) (mNil)))) (sExpr (mCall 1 m_check_metric (mCons (mVar 0) (mNil))))
def m_check_known : List D → Sto → R D := mDef (["table"] : List Str).length b_check_known
def b_check_town : MS := sCons (sExpr (mCall 1 m_check_table (mCons (mVar 0) (mNil)))) (sCons (sIf (tNotM (mTr (mCall 2 m_is_position (mCons (mVar 1) (mCons (mCall 1 m_many_of (mCons (mVar 0) (mNil))) (mNil)))))) (sDead) (sNil)) (sExpr (mCall 1 m_check_metric (mCons (mVar 0) (mNil)))))
def m_check_town : List D → Sto → R D := mDef (["table", "town"] : List Str).length b_check_town
def c1_suspects : M D := mLc false (([("lot", 3)] : List (Str × Nat)).map (·.2)) id (mSrc (mVar 1)) (tgN 3) (mYes) (m2 pin (mVar 2) (mVar 3))
def c2_suspects : M D := mLc false (([("town", 2)] : List (Str × Nat)).map (·.2)) id (mRange1 (mCons (mCall 1 m_many_of (mCons (mVar 0) (mNil))) (mNil))) (tgN 2) (mTr (mL pall (mCons (c1_suspects) (mNil)))) (mVar 2)
def b_suspects : MS := sCons (sExpr (mCall 1 m_check_known (mCons (mVar 0) (mNil)))) (sCons (sSet 1 (mCall 1 m_least_ones (mCons (mVar 0) (mNil)))) (sRet (mL ptuple (mCons (c2_suspects) (mNil)))))
def m_suspects : List D → Sto → R D := mDef (["table", "some", "town", "lot"] : List Str).length b_suspects
def c1_trusted : M D := mLc false (([("lot", 3)] : List (Str × Nat)).map (·.2)) id (mSrc (mVar 1)) (tgN 3) (mYes) (m2 pin (mVar 2) (mVar 3))
def c2_trusted : M D := mLc false (([("town", 2)] : List (Str × Nat)).map (·.2)) id (mRange1 (mCons (mCall 1 m_many_of (mCons (mVar 0) (mNil))) (mNil))) (tgN 2) (tNotM (mTr (mL pany (mCons (c1_trusted) (mNil))))) (mVar 2)
def b_trusted : MS := sCons (sExpr (mCall 1 m_check_known (mCons (mVar 0) (mNil)))) (sCons (sSet 1 (mCall 1 m_least_ones (mCons (mVar 0) (mNil)))) (sRet (mL ptuple (mCons (c2_trusted) (mNil)))))
def m_trusted : List D → Sto → R D := mDef (["table", "some", "town", "lot"] : List Str).length b_trusted
def c1_open_towns : M D := mLc false (([("lot", 5)] : List (Str × Nat)).map (·.2)) id (mSrc (mVar 1)) (tgN 5) (mT (m2 pin (mVar 3) (mVar 5))) (mVar 5)
def w1_open_towns : MS := sCons (sSet 4 (mL plen (mCons (c1_open_towns) (mNil)))) (sExpr (mMe isSeq pextend (mVar 2) (mCons (mIf (mT (mChain (pcmp fun i j => decide (i < j)) (pcmp fun i j => decide (i < j)) (mC (.int 0)) (mVar 4) (mL plen (mCons (mVar 1) (mNil))))) (mL (plst false) (mCons (mVar 3) (mNil))) (mL (plst false) (mNil))) (mNil))))
def l1_open_towns : MS := sFor (mRange1 (mCons (mCall 1 m_many_of (mCons (mVar 0) (mNil))) (mNil))) (tgN 3) (w1_open_towns)
def b_open_towns : MS := sCons (sExpr (mCall 1 m_check_known (mCons (mVar 0) (mNil)))) (sCons (sPar 1 2 (mCons (mCall 1 m_least_ones (mCons (mVar 0) (mNil))) (mCons (mL (plst true) (mNil)) (mNil)))) (sCons (l1_open_towns) (sRet (mL ptuple (mCons (mVar 2) (mNil))))))
def m_open_towns : List D → Sto → R D := mDef (["table", "some", "found", "town", "many", "lot"] : List Str).length b_open_towns
def c1_spoilers : M D := mLc true (([("town", 2)] : List (Str × Nat)).map (·.2)) id (mRange1 (mCons (mCall 1 m_many_of (mCons (mVar 0) (mNil))) (mNil))) (tgN 2) (tAndM (mT (m2 pne (mVar 1) (mL (plst false) (mNil)))) (mTr (mCall 2 m_cures (mCons (mVar 1) (mCons (mL ptup (mCons (mVar 2) (mNil))) (mNil)))))) (mVar 2)
def b_spoilers : MS := sCons (sExpr (mCall 1 m_check_known (mCons (mVar 0) (mNil)))) (sCons (sSet 1 (mCall 1 m_bad_fours (mCons (mVar 0) (mNil)))) (sRet (c1_spoilers)))
def m_spoilers : List D → Sto → R D := mDef (["table", "bad", "town"] : List Str).length b_spoilers
def c1_blames : M D := mLc false (([("four", 3)] : List (Str × Nat)).map (·.2)) id (mSrc (mVar 1)) (tgN 3) (mT (m2 pin (mVar 2) (mVar 3))) (mVar 3)
def c2_blames : M D := mLc true (([("town", 2)] : List (Str × Nat)).map (·.2)) id (mRange1 (mCons (mCall 1 m_many_of (mCons (mVar 0) (mNil))) (mNil))) (tgN 2) (mYes) (mL plen (mCons (c1_blames) (mNil)))
def b_blames : MS := sCons (sExpr (mCall 1 m_check_known (mCons (mVar 0) (mNil)))) (sCons (sSet 1 (mCall 1 m_bad_fours (mCons (mVar 0) (mNil)))) (sRet (c2_blames)))
def m_blames : List D → Sto → R D := mDef (["table", "bad", "town", "four"] : List Str).length b_blames
def b_least_among : MS := sCons (sExpr (mCall 1 m_check_table (mCons (mVar 0) (mNil)))) (sCons (sIf (tNotM (mTr (mCall 2 m_lot_is_right (mCons (mVar 0) (mCons (mVar 1) (mNil)))))) (sDead) (sNil)) (sCons (sExpr (mCall 1 m_check_metric (mCons (mVar 0) (mNil)))) (sRet (mCall 2 m_first_cure (mCons (mCall 1 m_bad_fours (mCons (mVar 0) (mNil))) (mCons (mL (plist false) (mCons (mVar 1) (mNil))) (mNil)))))))
def m_least_among : List D → Sto → R D := mDef (["table", "lot"] : List Str).length b_least_among
def b_believing : MS := sCons (sExpr (mCall 2 m_check_town (mCons (mVar 0) (mCons (mVar 1) (mNil))))) (sRet (mCall 2 m_believing_of (mCons (mVar 0) (mCons (mVar 1) (mNil)))))
def m_believing : List D → Sto → R D := mDef (["table", "town"] : List Str).length b_believing
def b_price : MS := sCons (sExpr (mCall 2 m_check_town (mCons (mVar 0) (mCons (mVar 1) (mNil))))) (sRet (m2 psub (mL plen (mCons (mCall 2 m_believing_of (mCons (mVar 0) (mCons (mVar 1) (mNil)))) (mNil))) (mL plen (mCons (mCall 1 m_least_of (mCons (mVar 0) (mNil))) (mNil)))))
def m_price : List D → Sto → R D := mDef (["table", "town"] : List Str).length b_price
def b_need : MS := sCons (sExpr (mCall 2 m_check_town (mCons (mVar 0) (mCons (mVar 1) (mNil))))) (sRet (mIf (mTr (mCall 2 m_cures (mCons (mCall 1 m_bad_fours (mCons (mVar 0) (mNil))) (mCons (mL ptup (mCons (mVar 1) (mNil))) (mNil))))) (mL plen (mCons (mCall 2 m_believing_of (mCons (mVar 0) (mCons (mVar 1) (mNil)))) (mNil))) (mC .non)))
def m_need : List D → Sto → R D := mDef (["table", "town"] : List Str).length b_need
def b__law_pot : MS := sCons (sSet 2 (m2 (padd false) (m2 (padd false) (m2 (pmul false) (mC (.int 839)) (mVar 1)) (mC (.int 431))) (m2 pmod (mL pint (mCons (mL pabs (mCons (mL psum (mCons (mSl false (mVar 0) (oNone) (oSome (mC (.int 1)))) (mNil))) (mNil))) (mNil))) (mC (.int 1000003))))) (sCons (sSet 3 (mIf (mT (m2 (pcmp fun i j => decide (i < j)) (mVar 1) (mL plen (mCons (mVar 0) (mNil))))) (mL pabs (mCons (m2 pix (mVar 0) (mVar 1)) (mNil))) (mVar 2))) (sRet (mL (plst true) (mCons (mL pmax2 (mCons (mC (.int 0)) (mCons (m2 psub (mVar 3) (m2 ppow (mC (.int 10)) (mC (.int 18)))) (mNil)))) (mCons (m2 (padd false) (m2 pmod (mL pint (mCons (m2 (padd false) (m2 (padd false) (m2 (pmul false) (m2 pmod (mL pint (mCons (mVar 3) (mNil))) (mC (.int 2147483579))) (mC (.int 40127))) (m2 (pmul false) (mC (.int 6329)) (mVar 1))) (mC (.int 431))) (mNil))) (mC (.int 2147483563))) (mC (.int 1))) (mNil))))))
def m__law_pot : List D → Sto → R D := mDef (["script", "k", "spare", "cell"] : List Str).length b__law_pot
def b__law_draw : MS := sCons (sIf (mT (m2 (pcmp fun i j => decide (j < i)) (m2 pix (mVar 0) (mC (.int 0))) (mC (.int 0)))) (sCons (sSet 2 (m2 pmod (mL pint (mCons (m2 pix (mVar 0) (mC (.int 0))) (mNil))) (mVar 1))) (sCons (sAsg (tgSub (mVar 0) (mC (.int 0))) (m2 pfdiv (mL pint (mCons (m2 pix (mVar 0) (mC (.int 0))) (mNil))) (mVar 1))) (sRet (mVar 2)))) (sNil)) (sCons (sAsg (tgSub (mVar 0) (mC (.int 1))) (m2 pmod (mL pint (mCons (m2 (padd false) (m2 (pmul false) (m2 pix (mVar 0) (mC (.int 1))) (mC (.int 40127))) (mC (.int 6329))) (mNil))) (mC (.int 2147483587)))) (sRet (m2 pmod (mL pint (mCons (m2 pfdiv (m2 pmod (mL pint (mCons (m2 (pmul false) (m2 pix (mVar 0) (mC (.int 1))) (m2 pix (mVar 0) (mC (.int 1)))) (mNil))) (mC (.int 2147483549))) (mC (.int 23))) (mNil))) (mVar 1))))
def m__law_draw : List D → Sto → R D := mDef (["pot", "many", "digit"] : List Str).length b__law_draw
def c1__law_same (r : List D → Sto → R D) : M D := mLc false (([("near", 2), ("far", 3)] : List (Str × Nat)).map (·.2)) id (mZip (mCons (mVar 0) (mCons (mVar 1) (mNil)))) (tgT 2 (tgCons (tgN 2) (tgCons (tgN 3) (tgNil)))) (mYes) (mCall 2 r (mCons (mVar 2) (mCons (mVar 3) (mNil))))
def c2__law_same (r : List D → Sto → R D) : M D := mLc false (([("near", 2), ("far", 3)] : List (Str × Nat)).map (·.2)) id (mZip (mCons (mVar 0) (mCons (mVar 1) (mNil)))) (tgT 2 (tgCons (tgN 2) (tgCons (tgN 3) (tgNil)))) (mYes) (mCall 2 r (mCons (mVar 2) (mCons (mVar 3) (mNil))))
def b__law_same (r : List D → Sto → R D) : MS := sCons (sIf (mT (m1 pisN (mVar 1))) (sRet (m1 pisN (mVar 0))) (sNil)) (sCons (sIf (mTr (mL pisi (mCons (mVar 1) (mCons (mC (.ty "bool")) (mNil))))) (sRet (mAnd (mL pisi (mCons (mVar 0) (mCons (mC (.ty "bool")) (mNil)))) (m2 peq (mVar 0) (mVar 1)))) (sNil)) (sCons (sIf (mTr (mL pisi (mCons (mVar 1) (mCons (mC (.ty "str")) (mNil))))) (sRet (mAnd (mL pisi (mCons (mVar 0) (mCons (mC (.ty "str")) (mNil)))) (m2 peq (mVar 0) (mVar 1)))) (sNil)) (sCons (sIf (mTr (mL pisi (mCons (mVar 1) (mCons (mC (.ty "int")) (mNil))))) (sRet (mAnd (mL pisi (mCons (mVar 0) (mCons (mC (.ty "int")) (mNil)))) (mAnd (m1 pnot (mL pisi (mCons (mVar 0) (mCons (mC (.ty "bool")) (mNil))))) (m2 peq (mVar 0) (mVar 1))))) (sNil)) (sCons (sIf (mTr (mL pisi (mCons (mVar 1) (mCons (mC (.ty "tuple")) (mNil))))) (sCons (sIf (tOrM (tNotM (mTr (mL pisi (mCons (mVar 0) (mCons (mC (.ty "tuple")) (mNil)))))) (mT (m2 pne (mL plen (mCons (mVar 0) (mNil))) (mL plen (mCons (mVar 1) (mNil)))))) (sRet (mC (.bl false))) (sNil)) (sRet (mL pall (mCons (c1__law_same r) (mNil))))) (sNil)) (sCons (sIf (mTr (mL pisi (mCons (mVar 1) (mCons (mC (.ty "list")) (mNil))))) (sCons (sIf (tOrM (tNotM (mTr (mL pisi (mCons (mVar 0) (mCons (mC (.ty "list")) (mNil)))))) (mT (m2 pne (mL plen (mCons (mVar 0) (mNil))) (mL plen (mCons (mVar 1) (mNil)))))) (sRet (mC (.bl false))) (sNil)) (sRet (mL pall (mCons (c2__law_same r) (mNil))))) (sNil)) (sRet (m2 peq (mVar 0) (mVar 1))))))))
def r__law_same : Nat → List D → Sto → R D
  | 0 => fun _ _ => .no
  | n + 1 => mDef (["told", "due", "near", "far"] : List Str).length (b__law_same (r__law_same n))
def m__law_same : List D → Sto → R D := r__law_same 8
def b__law_far : MS := sRet (mIf (mT (m2 peq (mVar 1) (mVar 2))) (mC (.int 0)) (m2 pix (m2 pix (m2 pix (mVar 0) (mC (.int 1))) (m2 psub (mL pmax2 (mCons (mVar 1) (mCons (mVar 2) (mNil)))) (mC (.int 1)))) (mL pmin2 (mCons (mVar 1) (mCons (mVar 2) (mNil))))))
def m__law_far : List D → Sto → R D := mDef (["table", "one", "other"] : List Str).length b__law_far
def c1__law_table : M D := mLc false (([("row", 1)] : List (Str × Nat)).map (·.2)) id (mSrc (mVar 0)) (tgN 1) (mYes) (mL ptuple (mCons (mVar 1) (mNil)))
def b__law_table : MS := sRet (mL ptup (mCons (mC (.str "table")) (mCons (mL ptuple (mCons (c1__law_table) (mNil))) (mNil))))
def m__law_table : List D → Sto → R D := mDef (["rows", "row"] : List Str).length b__law_table
def c1__law_closed : M D := mLc false (([("other", 6)] : List (Str × Nat)).map (·.2)) id (mRange1 (mCons (mVar 1) (mNil))) (tgN 6) (mYes) (mIf (mT (m2 peq (mVar 4) (mVar 6))) (mC (.int 0)) (m2 pix (m2 pix (mVar 0) (m2 psub (mL pmax2 (mCons (mVar 4) (mCons (mVar 6) (mNil)))) (mC (.int 1)))) (mL pmin2 (mCons (mVar 4) (mCons (mVar 6) (mNil))))))
def c2__law_closed : M D := mLc true (([("one", 4)] : List (Str × Nat)).map (·.2)) id (mRange1 (mCons (mVar 1) (mNil))) (tgN 4) (mYes) (c1__law_closed)
def c3__law_closed : M D := mLc false (([("other", 6)] : List (Str × Nat)).map (·.2)) id (mRange1 (mCons (mVar 1) (mNil))) (tgN 6) (mYes) (mL pmin2 (mCons (m2 pix (m2 pix (mVar 2) (mVar 4)) (mVar 6)) (mCons (m2 (padd false) (m2 pix (m2 pix (mVar 2) (mVar 4)) (mVar 3)) (m2 pix (m2 pix (mVar 2) (mVar 3)) (mVar 6))) (mNil))))
def w1__law_closed : MS := sAsg (tgSub (mVar 2) (mVar 4)) (c3__law_closed)
def l1__law_closed : MS := sFor (mRange1 (mCons (mVar 1) (mNil))) (tgN 4) (w1__law_closed)
def w2__law_closed : MS := l1__law_closed
def l2__law_closed : MS := sFor (mRange1 (mCons (mVar 1) (mNil))) (tgN 3) (w2__law_closed)
def c4__law_closed : M D := mLc false (([("town", 5)] : List (Str × Nat)).map (·.2)) id (mRange2 (mCons (mC (.int 1)) (mCons (mVar 1) (mNil)))) (tgN 5) (mYes) (mSl false (m2 pix (mVar 2) (mVar 5)) (oNone) (oSome (mVar 5)))
def b__law_closed : MS := sCons (sSet 1 (m2 (padd false) (mL plen (mCons (mVar 0) (mNil))) (mC (.int 1)))) (sCons (sSet 2 (c2__law_closed)) (sCons (l2__law_closed) (sRet (c4__law_closed))))
def m__law_closed : List D → Sto → R D := mDef (["rows", "many", "told", "stop", "one", "town", "other"] : List Str).length b__law_closed
def w1__law_tree_rows : MS := sCons (sSet 11 (mIf (mT (m2 peq (mVar 10) (mVar 4))) (mC (.int 0)) (m2 pix (m2 pix (mVar 2) (m2 psub (mL pmax2 (mCons (mVar 10) (mCons (mVar 4) (mNil)))) (mC (.int 1)))) (mL pmin2 (mCons (mVar 10) (mCons (mVar 4) (mNil))))))) (sCons (sSet 12 (mIf (mT (m2 peq (mVar 10) (mVar 5))) (mC (.int 0)) (m2 pix (m2 pix (mVar 2) (m2 psub (mL pmax2 (mCons (mVar 10) (mCons (mVar 5) (mNil)))) (mC (.int 1)))) (mL pmin2 (mCons (mVar 10) (mCons (mVar 5) (mNil))))))) (sExpr (mMe isSeq pappend (mVar 9) (mCons (m2 (padd false) (mVar 8) (mL pmax2 (mCons (m2 psub (mVar 11) (mVar 7)) (mCons (m2 psub (mVar 12) (m2 psub (mVar 6) (mVar 7))) (mNil))))) (mNil)))))
def l1__law_tree_rows : MS := sFor (mRange1 (mCons (mVar 3) (mNil))) (tgN 10) (w1__law_tree_rows)
def w2__law_tree_rows : MS := sCons (sSet 4 (mCall 2 m__law_draw (mCons (mVar 0) (mCons (m2 psub (mVar 3) (mC (.int 1))) (mNil))))) (sCons (sSet 5 (m2 (padd false) (m2 (padd false) (mVar 4) (mC (.int 1))) (mCall 2 m__law_draw (mCons (mVar 0) (mCons (m2 psub (m2 psub (mVar 3) (mC (.int 1))) (mVar 4)) (mNil)))))) (sCons (sSet 6 (m2 pix (m2 pix (mVar 2) (m2 psub (mVar 5) (mC (.int 1)))) (mVar 4))) (sCons (sPar 7 8 (mCons (mCall 2 m__law_draw (mCons (mVar 0) (mCons (m2 (padd false) (mVar 6) (mC (.int 1))) (mNil)))) (mCons (mCall 2 m__law_draw (mCons (mVar 0) (mCons (mC (.int 7)) (mNil)))) (mNil)))) (sCons (sSet 9 (mL (plst true) (mNil))) (sCons (l1__law_tree_rows) (sExpr (mMe isSeq pappend (mVar 2) (mCons (mVar 9) (mNil)))))))))
def l2__law_tree_rows : MS := sFor (mRange2 (mCons (mC (.int 2)) (mCons (mVar 1) (mNil)))) (tgN 3) (w2__law_tree_rows)
def b__law_tree_rows : MS := sCons (sSet 2 (mL (plst true) (mCons (mL (plst true) (mCons (m2 (padd false) (mC (.int 1)) (mCall 2 m__law_draw (mCons (mVar 0) (mCons (mC (.int 9)) (mNil))))) (mNil))) (mNil)))) (sCons (l2__law_tree_rows) (sRet (mVar 2)))
def m__law_tree_rows : List D → Sto → R D := mDef (["pot", "many", "rows", "town", "one", "other", "much", "along", "stem", "row", "near", "first", "second"] : List Str).length b__law_tree_rows
def w1__law_metric : MS := sCons (sSet 6 (m2 (padd false) (mC (.int 1)) (mCall 2 m__law_draw (mCons (mVar 0) (mCons (m2 psub (mVar 3) (mC (.int 1))) (mNil)))))) (sCons (sSet 7 (mCall 2 m__law_draw (mCons (mVar 0) (mCons (mVar 6) (mNil))))) (sAsg (tgSub (m2 pix (mVar 4) (m2 psub (mVar 6) (mC (.int 1)))) (mVar 7)) (m2 (padd false) (mC (.int 1)) (mCall 2 m__law_draw (mCons (mVar 0) (mCons (mC (.int 20)) (mNil)))))))
def l1__law_metric : MS := sFor (mRange1 (mCons (mCall 2 m__law_draw (mCons (mVar 0) (mCons (m2 (padd false) (mVar 2) (mC (.int 1))) (mNil)))) (mNil))) (tgN 5) (w1__law_metric)
def b__law_metric : MS := sCons (sSet 3 (m2 (padd false) (mC (.int 2)) (mCall 2 m__law_draw (mCons (mVar 0) (mCons (m2 psub (mVar 1) (mC (.int 1))) (mNil)))))) (sCons (sSet 4 (mCall 2 m__law_tree_rows (mCons (mVar 0) (mCons (mVar 3) (mNil))))) (sCons (l1__law_metric) (sRet (mCall 1 m__law_table (mCons (mCall 1 m__law_closed (mCons (mVar 4) (mNil))) (mNil))))))
def m__law_metric : List D → Sto → R D := mDef (["pot", "most", "wrong", "many", "rows", "step", "town", "near"] : List Str).length b__law_metric
def c1__law_fours : M D := mLc false (([("lot", 3)] : List (Str × Nat)).map (·.2)) id (mSrc (mVar 1)) (tgN 3) (mT (m2 (pcmp fun i j => decide (i < j)) (mL plen (mCons (mVar 3) (mNil))) (mC (.int 4)))) (m2 (padd false) (mVar 3) (mL ptup (mCons (mVar 2) (mNil))))
def w1__law_fours : MS := sSet 1 (m2 (padd false) (mVar 1) (c1__law_fours))
def l1__law_fours : MS := sFor (mSrc (mVar 0)) (tgN 2) (w1__law_fours)
def c2__law_fours : M D := mLc false (([("lot", 3)] : List (Str × Nat)).map (·.2)) id (mSrc (mVar 1)) (tgN 3) (mT (m2 peq (mL plen (mCons (mVar 3) (mNil))) (mC (.int 4)))) (mVar 3)
def b__law_fours : MS := sCons (sSet 1 (mL (plst false) (mCons (mL ptup (mNil)) (mNil)))) (sCons (l1__law_fours) (sRet (mL (psorted false) (mCons (c2__law_fours) (mNil)))))
def m__law_fours : List D → Sto → R D := mDef (["towns", "found", "town", "lot"] : List Str).length b__law_fours
def b__law_sums : MS := sCons (sAsg (tgT 4 (tgCons (tgN 2) (tgCons (tgN 3) (tgCons (tgN 4) (tgCons (tgN 5) (tgNil)))))) (mVar 1)) (sRet (mL (plst false) (mCons (m2 (padd false) (mCall 3 m__law_far (mCons (mVar 0) (mCons (mVar 2) (mCons (mVar 3) (mNil))))) (mCall 3 m__law_far (mCons (mVar 0) (mCons (mVar 4) (mCons (mVar 5) (mNil)))))) (mCons (m2 (padd false) (mCall 3 m__law_far (mCons (mVar 0) (mCons (mVar 2) (mCons (mVar 4) (mNil))))) (mCall 3 m__law_far (mCons (mVar 0) (mCons (mVar 3) (mCons (mVar 5) (mNil)))))) (mCons (m2 (padd false) (mCall 3 m__law_far (mCons (mVar 0) (mCons (mVar 2) (mCons (mVar 5) (mNil))))) (mCall 3 m__law_far (mCons (mVar 0) (mCons (mVar 3) (mCons (mVar 4) (mNil)))))) (mNil))))))
def m__law_sums : List D → Sto → R D := mDef (["table", "four", "a", "b", "c", "d"] : List Str).length b__law_sums
def w1__law_bad : MS := sCons (sSet 3 (mL (psorted false) (mCons (mCall 2 m__law_sums (mCons (mVar 0) (mCons (mVar 2) (mNil)))) (mNil)))) (sExpr (mMe isSeq pextend (mVar 1) (mCons (mIf (mT (m2 (pcmp fun i j => decide (i < j)) (m2 pix (mVar 3) (mC (.int 1))) (m2 pix (mVar 3) (mC (.int 2))))) (mL (plst false) (mCons (mVar 2) (mNil))) (mL (plst false) (mNil))) (mNil))))
def l1__law_bad : MS := sFor (mSrc (mCall 1 m__law_fours (mCons (mL (plistR false) (mCons (m2 (padd false) (mL plen (mCons (m2 pix (mVar 0) (mC (.int 1))) (mNil))) (mC (.int 1))) (mNil))) (mNil)))) (tgN 2) (w1__law_bad)
def b__law_bad : MS := sCons (sSet 1 (mL (plst true) (mNil))) (sCons (l1__law_bad) (sRet (mVar 1)))
def m__law_bad : List D → Sto → R D := mDef (["table", "found", "four", "rising"] : List Str).length b__law_bad
def c1__law_lots : M D := mLc false (([("lot", 4)] : List (Str × Nat)).map (·.2)) id (mSrc (mVar 1)) (tgN 4) (mYes) (m2 (padd false) (mVar 4) (mL ptup (mCons (mVar 2) (mNil))))
def w1__law_lots : MS := sSet 1 (m2 (padd false) (mVar 1) (c1__law_lots))
def l1__law_lots : MS := sFor (mSrc (mVar 0)) (tgN 2) (w1__law_lots)
def c2__law_lots : M D := mLc false (([("lot", 4)] : List (Str × Nat)).map (·.2)) id (mSrc (mVar 1)) (tgN 4) (mYes) (mL ptup (mCons (mL plen (mCons (mVar 4) (mNil))) (mCons (mVar 4) (mNil))))
def c3__law_lots : M D := mLc false (([("many", 3), ("lot", 4)] : List (Str × Nat)).map (·.2)) id (mSrc (mL (psorted false) (mCons (c2__law_lots) (mNil)))) (tgT 2 (tgCons (tgN 3) (tgCons (tgN 4) (tgNil)))) (mYes) (mVar 4)
def b__law_lots : MS := sCons (sSet 1 (mL (plst false) (mCons (mL ptup (mNil)) (mNil)))) (sCons (l1__law_lots) (sRet (c3__law_lots)))
def m__law_lots : List D → Sto → R D := mDef (["towns", "found", "town", "many", "lot"] : List Str).length b__law_lots
def c1__law_meets : M D := mLc false (([("town", 2)] : List (Str × Nat)).map (·.2)) id (mSrc (mVar 1)) (tgN 2) (mYes) (m2 pin (mVar 2) (mVar 0))
def b__law_meets : MS := sRet (mL pany (mCons (c1__law_meets) (mNil)))
def m__law_meets : List D → Sto → R D := mDef (["lot", "four", "town"] : List Str).length b__law_meets
def c1__law_cures : M D := mLc false (([("four", 3)] : List (Str × Nat)).map (·.2)) id (mSrc (mVar 0)) (tgN 3) (mYes) (mCall 2 m__law_meets (mCons (mVar 2) (mCons (mVar 3) (mNil))))
def c2__law_cures : M D := mLc false (([("lot", 2)] : List (Str × Nat)).map (·.2)) id (mSrc (mCall 1 m__law_lots (mCons (mVar 1) (mNil)))) (tgN 2) (mTr (mL pall (mCons (c1__law_cures) (mNil)))) (mVar 2)
def b__law_cures : MS := sRet (c2__law_cures)
def m__law_cures : List D → Sto → R D := mDef (["bad", "towns", "lot", "four"] : List Str).length b__law_cures
def c1__law_among : M D := mLc false (([("town", 4)] : List (Str × Nat)).map (·.2)) id (mSrc (mVar 3)) (tgN 4) (mYes) (m2 pin (mVar 4) (mVar 1))
def c2__law_among : M D := mLc false (([("one", 3)] : List (Str × Nat)).map (·.2)) id (mSrc (mVar 0)) (tgN 3) (mTr (mL pall (mCons (c1__law_among) (mNil)))) (mVar 3)
def b__law_among : MS := sCons (sSet 2 (c2__law_among)) (sRet (mIf (mT (m2 pne (mVar 2) (mL (plst false) (mNil)))) (m2 pix (mVar 2) (mC (.int 0))) (mC .non)))
def m__law_among : List D → Sto → R D := mDef (["cures_v", "lot", "some", "one", "town"] : List Str).length b__law_among
def c1__law_need : M D := mLc false (([("four", 7)] : List (Str × Nat)).map (·.2)) id (mSrc (mVar 0)) (tgN 7) (mYes) (m2 pnin (mVar 2) (mVar 7))
def c2__law_need : M D := mLc false (([("one", 5)] : List (Str × Nat)).map (·.2)) id (mRange1 (mCons (mVar 1) (mNil))) (tgN 5) (mT (m2 pne (mVar 5) (mVar 2))) (mVar 5)
def c3__law_need : M D := mLc false (([("four", 7)] : List (Str × Nat)).map (·.2)) id (mSrc (mVar 0)) (tgN 7) (mYes) (mCall 2 m__law_meets (mCons (mVar 6) (mCons (mVar 7) (mNil))))
def c4__law_need : M D := mLc false (([("lot", 6)] : List (Str × Nat)).map (·.2)) id (mSrc (mCall 1 m__law_lots (mCons (mVar 3) (mNil)))) (tgN 6) (mTr (mL pall (mCons (c3__law_need) (mNil)))) (mVar 6)
def b__law_need : MS := sCons (sIf (mTr (mL pany (mCons (c1__law_need) (mNil)))) (sRet (mC .non)) (sNil)) (sCons (sSet 3 (c2__law_need)) (sCons (sSet 4 (c4__law_need)) (sRet (mL plen (mCons (m2 pix (mVar 4) (mC (.int 0))) (mNil))))))
def m__law_need : List D → Sto → R D := mDef (["bad", "many", "town", "others", "some", "one", "lot", "four"] : List Str).length b__law_need
def c1__law_right : M D := mLc false (([("lot", 15)] : List (Str × Nat)).map (·.2)) id (mSrc (mVar 6)) (tgN 15) (mT (m2 peq (mL plen (mCons (mVar 15) (mNil))) (mL plen (mCons (m2 pix (mVar 6) (mC (.int 0))) (mNil))))) (mVar 15)
def c2__law_right : M D := mLc false (([("lot", 15)] : List (Str × Nat)).map (·.2)) id (mSrc (mVar 7)) (tgN 15) (mYes) (m2 pin (mVar 17) (mVar 15))
def c3__law_right : M D := mLc false (([("town", 17)] : List (Str × Nat)).map (·.2)) id (mSrc (mVar 5)) (tgN 17) (mTr (mL pall (mCons (c2__law_right) (mNil)))) (mVar 17)
def c4__law_right : M D := mLc false (([("lot", 15)] : List (Str × Nat)).map (·.2)) id (mSrc (mVar 7)) (tgN 15) (mYes) (m2 pin (mVar 17) (mVar 15))
def c5__law_right : M D := mLc false (([("town", 17)] : List (Str × Nat)).map (·.2)) id (mSrc (mVar 5)) (tgN 17) (tNotM (mTr (mL pany (mCons (c4__law_right) (mNil))))) (mVar 17)
def c6__law_right : M D := mLc false (([("town", 17)] : List (Str × Nat)).map (·.2)) id (mSrc (mVar 5)) (tgN 17) (mT (m2 pnin (mVar 17) (m2 (padd false) (mVar 8) (mVar 9)))) (mVar 17)
def c7__law_right : M D := mLc false (([("town", 17)] : List (Str × Nat)).map (·.2)) id (mSrc (mVar 5)) (tgN 17) (tAndM (mT (m2 pne (mVar 4) (mL (plst false) (mNil)))) (mT (m2 pin (mL ptup (mCons (mVar 17) (mNil))) (mVar 6)))) (mVar 17)
def c8__law_right : M D := mLc false (([("four", 22)] : List (Str × Nat)).map (·.2)) id (mSrc (mVar 4)) (tgN 22) (mT (m2 pin (mVar 17) (mVar 22))) (mVar 22)
def c9__law_right : M D := mLc false (([("town", 17)] : List (Str × Nat)).map (·.2)) id (mSrc (mVar 5)) (tgN 17) (mYes) (mL plen (mCons (c8__law_right) (mNil)))
def c10__law_right : M D := mLc false (([("town", 17)] : List (Str × Nat)).map (·.2)) id (mSrc (mVar 5)) (tgN 17) (mT (m2 peq (mCall 2 m__law_draw (mCons (mVar 0) (mCons (mC (.int 2)) (mNil)))) (mC (.int 0)))) (mVar 17)
def w1__law_right : MS := sCons (sSet 15 (mL ptuple (mCons (c10__law_right) (mNil)))) (sCons (sSet 16 (mCall 2 m__law_among (mCons (mVar 6) (mCons (mVar 15) (mNil))))) (sIf (tNotM (mTr (mCall 2 m__law_same (mCons (mL (plst false) (mCons (mCall 2 m_least_among (mCons (mVar 1) (mCons (mVar 15) (mNil)))) (mCons (mCallK 0 (["lot", "table"] : List Str).length [1, 0] m_least_among mNil (mkCons (mVar 15) (mkCons (mVar 1) (mkNil)))) (mNil)))) (mCons (mL (plst false) (mCons (mVar 16) (mCons (mVar 16) (mNil)))) (mNil)))))) (sRet (mC (.bl false))) (sNil)))
def l1__law_right : MS := sFor (mRange1 (mCons (mC (.int 3)) (mNil))) (tgN 14) (w1__law_right)
def c11__law_right : M D := mLc false (([("one", 23)] : List (Str × Nat)).map (·.2)) id (mSrc (mVar 5)) (tgN 23) (mT (m2 pne (mVar 23) (mVar 17))) (mVar 23)
def c12__law_right : M D := mLc false (([("four", 22)] : List (Str × Nat)).map (·.2)) id (mSrc (mVar 4)) (tgN 22) (mT (m2 pin (mVar 17) (mVar 22))) (mVar 22)
def c13__law_right : M D := mLc false (([("one", 23)] : List (Str × Nat)).map (·.2)) id (mSrc (mVar 5)) (tgN 23) (mT (m2 pne (mVar 23) (mVar 17))) (mVar 23)
def c14__law_right : M D := mLc false (([("one", 23)] : List (Str × Nat)).map (·.2)) id (mSrc (mVar 22)) (tgN 23) (mT (m2 pne (mVar 23) (mVar 17))) (mVar 23)
def c15__law_right : M D := mLc false (([("four", 22)] : List (Str × Nat)).map (·.2)) id (mSrc (mVar 19)) (tgN 22) (mYes) (mCall 2 m__law_meets (mCons (mVar 15) (mCons (mL ptuple (mCons (c14__law_right) (mNil))) (mNil))))
def c16__law_right : M D := mLc false (([("lot", 15)] : List (Str × Nat)).map (·.2)) id (mSrc (mCall 1 m__law_lots (mCons (c13__law_right) (mNil)))) (tgN 15) (mTr (mL pall (mCons (c15__law_right) (mNil)))) (mVar 15)
def w2__law_right : MS := sCons (sSet 16 (mCall 2 m__law_among (mCons (mVar 6) (mCons (mL ptuple (mCons (c11__law_right) (mNil))) (mNil))))) (sCons (sSet 18 (m2 psub (mL plen (mCons (mVar 16) (mNil))) (mL plen (mCons (m2 pix (mVar 6) (mC (.int 0))) (mNil))))) (sCons (sIf (tNotM (mTr (mCall 2 m__law_same (mCons (mL (plst false) (mCons (mCall 2 m_believing (mCons (mVar 1) (mCons (mVar 17) (mNil)))) (mCons (mCall 2 m_price (mCons (mVar 1) (mCons (mVar 17) (mNil)))) (mCons (mCallK 0 (["town", "table"] : List Str).length [1, 0] m_believing mNil (mkCons (mVar 17) (mkCons (mVar 1) (mkNil)))) (mCons (mCallK 0 (["town", "table"] : List Str).length [1, 0] m_price mNil (mkCons (mVar 17) (mkCons (mVar 1) (mkNil)))) (mNil)))))) (mCons (mL (plst false) (mCons (mVar 16) (mCons (mVar 18) (mCons (mVar 16) (mCons (mVar 18) (mNil)))))) (mNil)))))) (sRet (mC (.bl false))) (sNil)) (sCons (sIf (mT (m2 pne (m2 peq (mVar 18) (mC (.int 0))) (m2 pnin (mVar 17) (mVar 8)))) (sRet (mC (.bl false))) (sNil)) (sCons (sSet 19 (c12__law_right)) (sCons (sSet 20 (c16__law_right)) (sCons (sIf (mT (m2 pne (m2 pix (mVar 20) (mC (.int 0))) (mVar 16))) (sRet (mC (.bl false))) (sNil)) (sCons (sSet 21 (mCall 3 m__law_need (mCons (mVar 4) (mCons (mVar 3) (mCons (mVar 17) (mNil)))))) (sIf (tOrM (tNotM (mTr (mCall 2 m__law_same (mCons (mL (plst false) (mCons (mCall 2 m_need (mCons (mVar 1) (mCons (mVar 17) (mNil)))) (mCons (mCallK 0 (["town", "table"] : List Str).length [1, 0] m_need mNil (mkCons (mVar 17) (mkCons (mVar 1) (mkNil)))) (mNil)))) (mCons (mL (plst false) (mCons (mVar 21) (mCons (mVar 21) (mNil)))) (mNil)))))) (tAndM (mT (m1 pnotN (mVar 21))) (mT (m2 pne (mVar 21) (mL plen (mCons (mVar 16) (mNil))))))) (sRet (mC (.bl false))) (sNil)))))))))
def l2__law_right : MS := sFor (mSrc (mVar 5)) (tgN 17) (w2__law_right)
def b__law_right : MS := sCons (sSet 1 (mCall 3 m__law_metric (mCons (mVar 0) (mCons (mC (.int 7)) (mCons (mC (.int 4)) (mNil)))))) (sCons (sAsg (tgT 3 (tgCons (tgN 2) (tgCons (tgN 3) (tgCons (tgN 4) (tgNil))))) (mL ptup (mCons (mL prepr (mCons (mVar 1) (mNil))) (mCons (m2 (padd false) (mL plen (mCons (m2 pix (mVar 1) (mC (.int 1))) (mNil))) (mC (.int 1))) (mCons (mCall 1 m__law_bad (mCons (mVar 1) (mNil))) (mNil)))))) (sCons (sSet 5 (mL (plistR false) (mCons (mVar 3) (mNil)))) (sCons (sSet 6 (mCall 2 m__law_cures (mCons (mVar 4) (mCons (mVar 5) (mNil))))) (sCons (sSet 7 (c1__law_right)) (sCons (sSet 8 (mL ptuple (mCons (c3__law_right) (mNil)))) (sCons (sSet 9 (mL ptuple (mCons (c5__law_right) (mNil)))) (sCons (sSet 10 (mL ptuple (mCons (c6__law_right) (mNil)))) (sCons (sSet 11 (mL (plst false) (mCons (mCall 1 m_suspects (mCons (mVar 1) (mNil))) (mCons (mCall 1 m_trusted (mCons (mVar 1) (mNil))) (mCons (mCall 1 m_open_towns (mCons (mVar 1) (mNil))) (mCons (mCallK 0 (["table"] : List Str).length [0] m_suspects mNil (mkCons (mVar 1) (mkNil))) (mCons (mCallK 0 (["table"] : List Str).length [0] m_trusted mNil (mkCons (mVar 1) (mkNil))) (mCons (mCallK 0 (["table"] : List Str).length [0] m_open_towns mNil (mkCons (mVar 1) (mkNil))) (mNil))))))))) (sCons (sIf (tNotM (mTr (mCall 2 m__law_same (mCons (mVar 11) (mCons (m2 (pmul false) (mL (plst false) (mCons (mVar 8) (mCons (mVar 9) (mCons (mVar 10) (mNil))))) (mC (.int 2))) (mNil)))))) (sRet (mC (.bl false))) (sNil)) (sCons (sSet 12 (c7__law_right)) (sCons (sSet 13 (c9__law_right)) (sCons (sIf (tNotM (mTr (mCall 2 m__law_same (mCons (mL (plst false) (mCons (mCall 1 m_spoilers (mCons (mVar 1) (mNil))) (mCons (mCall 1 m_blames (mCons (mVar 1) (mNil))) (mCons (mCallK 0 (["table"] : List Str).length [0] m_spoilers mNil (mkCons (mVar 1) (mkNil))) (mCons (mCallK 0 (["table"] : List Str).length [0] m_blames mNil (mkCons (mVar 1) (mkNil))) (mNil)))))) (mCons (mL (plst false) (mCons (mVar 12) (mCons (mVar 13) (mCons (mVar 12) (mCons (mVar 13) (mNil)))))) (mNil)))))) (sRet (mC (.bl false))) (sNil)) (sCons (sIf (tOrM (mT (m2 pne (mL psum (mCons (mVar 13) (mNil))) (m2 (pmul false) (mC (.int 4)) (mL plen (mCons (mVar 4) (mNil)))))) (tAndM (mT (m2 pin (mC (.int 0)) (mVar 13))) (mT (m2 (pcmp fun i j => decide (j < i)) (mL psum (mCons (mVar 13) (mNil))) (mC (.int 0)))))) (sRet (mC (.bl false))) (sNil)) (sCons (l1__law_right) (sCons (l2__law_right) (sCons (sExpr (mMe isSeq pappend (mCall 1 m_blames (mCons (mVar 1) (mNil))) (mCons (mC .non) (mNil)))) (sCons (sExpr (mMe isSeq pappend (mCall 1 m_spoilers (mCons (mVar 1) (mNil))) (mCons (mC .non) (mNil)))) (sRet (mAnd (mCall 2 m__law_same (mCons (mL (plst false) (mCons (mCall 1 m_blames (mCons (mVar 1) (mNil))) (mCons (mCall 1 m_spoilers (mCons (mVar 1) (mNil))) (mNil)))) (mCons (mL (plst false) (mCons (mVar 13) (mCons (mVar 12) (mNil)))) (mNil)))) (m2 peq (mL prepr (mCons (mVar 1) (mNil))) (mVar 2)))))))))))))))))))))
def m__law_right : List D → Sto → R D := mDef (["pot", "table", "shown", "many", "bad", "towns", "cures_v", "best", "sure", "free", "rest", "told", "alone", "blame", "step", "lot", "due", "town", "much", "some", "ways", "own", "four", "one"] : List Str).length b__law_right
def c1_law : M D := mLc false (([("step", 2)] : List (Str × Nat)).map (·.2)) id (mRange1 (mCons (mC (.int 3)) (mNil))) (tgN 2) (mYes) (mCall 1 m__law_right (mCons (mVar 1) (mNil)))
def b_law : MS := sCons (sSet 1 (mCall 2 m__law_pot (mCons (mVar 0) (mCons (mC (.int 0)) (mNil))))) (sRet (mL pall (mCons (c1_law) (mNil))))
def m_law : List D → Sto → R D := mDef (["script", "pot", "step"] : List Str).length b_law
end Mk81


set_option Elab.async false
set_option linter.all false
set_option maxRecDepth 100000
set_option autoImplicit false
set_option maxHeartbeats 4000000
namespace Mk81
open ML PySem PySem.Spec PyProof.Rows L2
def top (i : Nat) : Stmt := PySem.Challenge.pw_splitroads_k81_whole_suspects_and_believ.main.body.getD i (.Pass ⟨0, 0, 0, 0⟩)
abbrev st_is_integer : Stmt := top 1
abbrev st_is_count : Stmt := top 2
abbrev st_is_position : Stmt := top 3
abbrev st_is_rising : Stmt := top 4
abbrev st_sizes_are_right : Stmt := top 15
abbrev st_flaw_of : Stmt := top 16
abbrev st_table_is_right : Stmt := top 17
abbrev st_many_of_tables : Stmt := top 18
abbrev st_far_of : Stmt := top 20
abbrev st_short_of : Stmt := top 21
abbrev st_check_table_tables : Stmt := top 22
abbrev st_is_table : Stmt := top 24
abbrev st_short_triple : Stmt := top 25
abbrev st_many_of : Stmt := top 27
abbrev st_three_sums : Stmt := top 30
abbrev st_four_badness : Stmt := top 31
abbrev st_fours_of : Stmt := top 32
abbrev st_bad_fours : Stmt := top 34
abbrev st_lots_of : Stmt := top 35
abbrev st_meets : Stmt := top 36
abbrev st_cures : Stmt := top 37
abbrev st_first_cure : Stmt := top 38
abbrev st_least_of : Stmt := top 39
abbrev st_least_ones : Stmt := top 40
abbrev st_believing_of : Stmt := top 41
abbrev st_lot_is_right : Stmt := top 42
abbrev st_check_table : Stmt := top 43
abbrev st_check_metric : Stmt := top 45
abbrev st_check_known : Stmt := top 46
abbrev st_check_town : Stmt := top 47
abbrev st_suspects : Stmt := top 48
abbrev st_trusted : Stmt := top 49
abbrev st_open_towns : Stmt := top 50
abbrev st_spoilers : Stmt := top 51
abbrev st_blames : Stmt := top 52
abbrev st_least_among : Stmt := top 53
abbrev st_believing : Stmt := top 54
abbrev st_price : Stmt := top 55
abbrev st_need : Stmt := top 56
abbrev st__law_pot : Stmt := top 58
abbrev st__law_draw : Stmt := top 59
abbrev st__law_same : Stmt := top 60
abbrev st__law_far : Stmt := top 61
abbrev st__law_table : Stmt := top 62
abbrev st__law_closed : Stmt := top 63
abbrev st__law_tree_rows : Stmt := top 64
abbrev st__law_metric : Stmt := top 65
abbrev st__law_fours : Stmt := top 66
abbrev st__law_sums : Stmt := top 67
abbrev st__law_bad : Stmt := top 68
abbrev st__law_lots : Stmt := top 69
abbrev st__law_meets : Stmt := top 70
abbrev st__law_cures : Stmt := top 71
abbrev st__law_among : Stmt := top 72
abbrev st__law_need : Stmt := top 73
abbrev st__law_right : Stmt := top 74
abbrev st_law : Stmt := top 75
structure Env (K : PySem.W.Frag) (mg : Str → Option Value) : Prop where
  f_is_integer : DefF K mg "is_integer" "is_integer" st_is_integer
  f_is_count : DefF K mg "is_count" "is_count" st_is_count
  f_is_position : DefF K mg "is_position" "is_position" st_is_position
  f_is_rising : DefF K mg "is_rising" "is_rising" st_is_rising
  f_sizes_are_right : DefF K mg "sizes_are_right" "sizes_are_right" st_sizes_are_right
  f_flaw_of : DefF K mg "flaw_of" "flaw_of" st_flaw_of
  f_table_is_right : DefF K mg "table_is_right" "table_is_right" st_table_is_right
  f_many_of_tables : DefF K mg "many_of_tables" "many_of" st_many_of_tables
  f_far_of : DefF K mg "far_of" "far_of" st_far_of
  f_short_of : DefF K mg "short_of" "short_of" st_short_of
  f_check_table_tables : DefF K mg "check_table_tables" "check_table" st_check_table_tables
  f_is_table : DefF K mg "is_table" "is_table" st_is_table
  f_short_triple : DefF K mg "short_triple" "short_triple" st_short_triple
  f_many_of : DefF K mg "many_of" "many_of" st_many_of
  f_many_of__many_of_webs : DefF K mg "many_of_webs" "many_of" st_many_of
  f_three_sums : DefF K mg "three_sums" "three_sums" st_three_sums
  f_four_badness : DefF K mg "four_badness" "four_badness" st_four_badness
  f_fours_of : DefF K mg "fours_of" "fours_of" st_fours_of
  f_bad_fours : DefF K mg "bad_fours" "bad_fours" st_bad_fours
  f_lots_of : DefF K mg "lots_of" "lots_of" st_lots_of
  f_meets : DefF K mg "meets" "meets" st_meets
  f_cures : DefF K mg "cures" "cures" st_cures
  f_first_cure : DefF K mg "first_cure" "first_cure" st_first_cure
  f_least_of : DefF K mg "least_of" "least_of" st_least_of
  f_least_ones : DefF K mg "least_ones" "least_ones" st_least_ones
  f_believing_of : DefF K mg "believing_of" "believing_of" st_believing_of
  f_lot_is_right : DefF K mg "lot_is_right" "lot_is_right" st_lot_is_right
  f_check_table : DefF K mg "check_table" "check_table" st_check_table
  f_check_table__check_table_suspects : DefF K mg "check_table_suspects" "check_table" st_check_table
  f_check_metric : DefF K mg "check_metric" "check_metric" st_check_metric
  f_check_known : DefF K mg "check_known" "check_known" st_check_known
  f_check_town : DefF K mg "check_town" "check_town" st_check_town
  f_suspects : DefF K mg "suspects" "suspects" st_suspects
  f_trusted : DefF K mg "trusted" "trusted" st_trusted
  f_open_towns : DefF K mg "open_towns" "open_towns" st_open_towns
  f_spoilers : DefF K mg "spoilers" "spoilers" st_spoilers
  f_blames : DefF K mg "blames" "blames" st_blames
  f_least_among : DefF K mg "least_among" "least_among" st_least_among
  f_believing : DefF K mg "believing" "believing" st_believing
  f_price : DefF K mg "price" "price" st_price
  f_need : DefF K mg "need" "need" st_need
  f__law_pot : DefF K mg "_law_pot" "_law_pot" st__law_pot
  f__law_draw : DefF K mg "_law_draw" "_law_draw" st__law_draw
  f__law_same : DefF K mg "_law_same" "_law_same" st__law_same
  f__law_far : DefF K mg "_law_far" "_law_far" st__law_far
  f__law_table : DefF K mg "_law_table" "_law_table" st__law_table
  f__law_closed : DefF K mg "_law_closed" "_law_closed" st__law_closed
  f__law_tree_rows : DefF K mg "_law_tree_rows" "_law_tree_rows" st__law_tree_rows
  f__law_metric : DefF K mg "_law_metric" "_law_metric" st__law_metric
  f__law_fours : DefF K mg "_law_fours" "_law_fours" st__law_fours
  f__law_sums : DefF K mg "_law_sums" "_law_sums" st__law_sums
  f__law_bad : DefF K mg "_law_bad" "_law_bad" st__law_bad
  f__law_lots : DefF K mg "_law_lots" "_law_lots" st__law_lots
  f__law_meets : DefF K mg "_law_meets" "_law_meets" st__law_meets
  f__law_cures : DefF K mg "_law_cures" "_law_cures" st__law_cures
  f__law_among : DefF K mg "_law_among" "_law_among" st__law_among
  f__law_need : DefF K mg "_law_need" "_law_need" st__law_need
  f__law_right : DefF K mg "_law_right" "_law_right" st__law_right
  f_law : DefF K mg "law" "law" st_law
  b_abs : mg "abs" = none
  b_all : mg "all" = none
  b_any : mg "any" = none
  b_bool : mg "bool" = none
  b_enumerate : mg "enumerate" = none
  b_int : mg "int" = none
  b_isinstance : mg "isinstance" = none
  b_len : mg "len" = none
  b_list : mg "list" = none
  b_max : mg "max" = none
  b_min : mg "min" = none
  b_range : mg "range" = none
  b_repr : mg "repr" = none
  b_sorted : mg "sorted" = none
  b_str : mg "str" = none
  b_sum : mg "sum" = none
  b_tuple : mg "tuple" = none
  b_zip : mg "zip" = none
  k_MOST_FAR : Cst K mg "MOST_FAR" (.int 999)
  k_MOST_TOWNS : Cst K mg "MOST_TOWNS" (.int 8)
  x_InvalidTable : ∃ C fI, Low.LowTxt K mg "InvalidTable" "value" "RoadError.__init__" C fI
  x_RoadError : ∃ C fI, Low.LowTxt K mg "RoadError" "value" "RoadError.__init__" C fI
  xf_value : ∀ c ∈ (["RoadError", "InvalidTable", "InvalidTown", "InvalidLot"] : List Str), XF K mg "value" c
section
variable {P : Program} {w : World} {K : PySem.W.Frag} {mg : Str → Option Value}
theorem sc_is_integer : FnScope ["value"] ["value"] (defScope st_is_integer) := ⟨rfl, rfl, rfl, by decide +kernel, rfl, by decide +kernel, by decide +kernel⟩
theorem bp_is_integer : BindP "is_integer" st_is_integer ["value"] := fun _ _ _ _ _ _ us hl => match us, hl with | [_], _ => rfl
theorem ok_is_integer (e : Env K mg) : DefG P w K mg "is_integer" "is_integer" st_is_integer ["value"] 1 m_is_integer := by
  exact defG_of (k := 0) e.f_is_integer sc_is_integer (fun f base cdv A outer s H E hr hgd => by
      have nd := sc_is_integer.nd
      refine sms_one ?_
      · refine sm_ret ?_
        · refine em_and ?_ ?_
          · exact em_callB c_isi e.b_isinstance rfl (am_cons (em_var 0) (am_cons (em_ty e.b_int rfl) (am_nil)))
          · exact em_one (em_not (em_callB c_isi e.b_isinstance rfl (am_cons (em_var 0) (am_cons (em_ty e.b_bool rfl) (am_nil))))))
theorem sc_is_count : FnScope ["value"] ["value"] (defScope st_is_count) := ⟨rfl, rfl, rfl, by decide +kernel, rfl, by decide +kernel, by decide +kernel⟩
theorem bp_is_count : BindP "is_count" st_is_count ["value"] := fun _ _ _ _ _ _ us hl => match us, hl with | [_], _ => rfl
theorem ok_is_count (e : Env K mg) : DefG P w K mg "is_count" "is_count" st_is_count ["value"] 2 m_is_count := by
  exact defG_of (k := 1) e.f_is_count sc_is_count (fun f base cdv A outer s H E hr hgd => by
      have nd := sc_is_count.nd
      exact sms_one (sm_ret (em_and (em_callD 1 (ok_is_integer e) hr hgd takes_body bp_is_integer (am_cons (em_var 0) (am_nil))) (em_one (em_cmp o_ge (em_var 0) (em_int))))))
theorem sc_is_position : FnScope ["value", "many"] ["value", "many"] (defScope st_is_position) := ⟨rfl, rfl, rfl, by decide +kernel, rfl, by decide +kernel, by decide +kernel⟩
theorem bp_is_position : BindP "is_position" st_is_position ["value", "many"] := fun _ _ _ _ _ _ us hl => match us, hl with | [_, _], _ => rfl
theorem ok_is_position (e : Env K mg) : DefG P w K mg "is_position" "is_position" st_is_position ["value", "many"] 3 m_is_position := by
  exact defG_of (k := 2) e.f_is_position sc_is_position (fun f base cdv A outer s H E hr hgd => by
      have nd := sc_is_position.nd
      exact sms_one (sm_ret (em_and (em_callD 1 (ok_is_count e) hr hgd takes_body bp_is_count (am_cons (em_var 0) (am_nil))) (em_one (em_cmp o_lt (em_var 0) (em_var 1))))))
theorem sc_is_rising : FnScope ["value", "many", "one", "other"] ["value", "many"] (defScope st_is_rising) := ⟨rfl, rfl, rfl, by decide +kernel, rfl, by decide +kernel, by decide +kernel⟩
theorem bp_is_rising : BindP "is_rising" st_is_rising ["value", "many"] := fun _ _ _ _ _ _ us hl => match us, hl with | [_, _], _ => rfl
theorem ok_is_rising (e : Env K mg) : DefG P w K mg "is_rising" "is_rising" st_is_rising ["value", "many"] 4 m_is_rising := by
  exact defG_of (k := 3) e.f_is_rising sc_is_rising (fun f base cdv A outer s H E hr hgd => by
      have nd := sc_is_rising.nd
      refine sms_cons ?_ ?_
      · refine sm_if ?_ ?_ ?_
        · refine tm_w ?_
          · refine wm_or ?_ ?_
            · exact tm_not (tm_val (em_callB c_isi e.b_isinstance rfl (am_cons (em_var 0) (am_cons (em_ty e.b_tuple rfl) (am_nil)))))
            · refine wm_or1 ?_
              · refine tm_not ?_
                · refine tm_val ?_
                  · refine em_callB (c_all rfl) e.b_all rfl ?_
                    · refine am_cons ?_ ?_
                      · refine em_lc false id (fe_id rfl) (own := [("one", 2)]) rfl nd (blkOk_by (by kernel_rfl)) ?_ ?_ ?_ ?_
                        · exact im_seq (em_var 0)
                        · intro _ _ _ _ _
                          exact gm_name 2 nd
                        · intro _ _ _ _ _
                          exact tms_nil
                        · intro _ _ _ _ _
                          exact em_callD 2 (ok_is_position e) hr hgd takes_W0 bp_is_position (am_cons (em_var 2) (am_cons (em_var 1) (am_nil)))
                      · exact am_nil
        · exact sms_one (sm_ret (em_bl))
        · exact sms_nil
      refine sms_one ?_
      · refine sm_ret ?_
        · refine em_callB (c_all rfl) e.b_all rfl ?_
          · refine am_cons ?_ ?_
            · refine em_lc false id (fe_id rfl) (own := [("one", 2), ("other", 3)]) rfl nd (blkOk_by (by kernel_rfl)) ?_ ?_ ?_ ?_
              · exact im_zip e.b_zip (am_cons (em_var 0) (am_cons (em_slice false (em_var 0) (om_some (em_int)) (om_none)) (am_nil)))
              · intro _ _ _ _ _
                exact gm_tup rfl (gms_cons (gm_name 2 nd) (gms_cons (gm_name 3 nd) (gms_nil)))
              · intro _ _ _ _ _
                exact tms_nil
              · intro _ _ _ _ _
                exact em_cmp o_lt (em_var 2) (em_var 3)
            · exact am_nil)
theorem sc_sizes_are_right : FnScope ["rows", "at", "row"] ["rows"] (defScope st_sizes_are_right) := ⟨rfl, rfl, rfl, by decide +kernel, rfl, by decide +kernel, by decide +kernel⟩
theorem bp_sizes_are_right : BindP "sizes_are_right" st_sizes_are_right ["rows"] := fun _ _ _ _ _ _ us hl => match us, hl with | [_], _ => rfl
theorem ok_sizes_are_right (e : Env K mg) : DefG P w K mg "sizes_are_right" "sizes_are_right" st_sizes_are_right ["rows"] 1 m_sizes_are_right := by
  exact defG_of (k := 0) e.f_sizes_are_right sc_sizes_are_right (fun f base cdv A outer s H E hr hgd => by
      have nd := sc_sizes_are_right.nd
      refine sms_one ?_
      · refine sm_ret ?_
        · refine em_and ?_ ?_
          · exact em_chain (fun _ => o_le) (fun _ => o_lt) (em_int) (em_callB c_len e.b_len rfl (am_cons (em_var 0) (am_nil))) (em_cst e.k_MOST_TOWNS)
          · refine em_one ?_
            · refine em_callB (c_all rfl) e.b_all rfl ?_
              · refine am_cons ?_ ?_
                · refine em_lc false id (fe_id rfl) (own := [("at", 1), ("row", 2)]) rfl nd (blkOk_by (by kernel_rfl)) ?_ ?_ ?_ ?_
                  · exact im_enum e.b_enumerate (am_cons (em_var 0) (am_nil))
                  · intro _ _ _ _ _
                    exact gm_tup rfl (gms_cons (gm_name 1 nd) (gms_cons (gm_name 2 nd) (gms_nil)))
                  · intro _ _ _ _ _
                    exact tms_nil
                  · intro _ _ _ _ _
                    exact em_cmp (o_eq (room64 hr)) (em_callB c_len e.b_len rfl (am_cons (em_var 2) (am_nil))) (em_op (o_add false) (em_var 1) (em_int))
                · exact am_nil)
theorem sc_flaw_of : FnScope ["value", "row", "far"] ["value"] (defScope st_flaw_of) := ⟨rfl, rfl, rfl, by decide +kernel, rfl, by decide +kernel, by decide +kernel⟩
theorem bp_flaw_of : BindP "flaw_of" st_flaw_of ["value"] := fun _ _ _ _ _ _ us hl => match us, hl with | [_], _ => rfl
theorem ok_flaw_of (e : Env K mg) : DefG P w K mg "flaw_of" "flaw_of" st_flaw_of ["value"] 3 m_flaw_of := by
  exact defG_of (k := 2) e.f_flaw_of sc_flaw_of (fun f base cdv A outer s H E hr hgd => by
      have nd := sc_flaw_of.nd
      refine sms_cons ?_ ?_
      · refine sm_if ?_ ?_ ?_
        · refine tm_w ?_
          · refine wm_or ?_ ?_
            · exact tm_not (tm_val (em_callB c_isi e.b_isinstance rfl (am_cons (em_var 0) (am_cons (em_ty e.b_tuple rfl) (am_nil)))))
            · refine wm_or ?_ ?_
              · exact tm_cmp (o_ne (room64 hr)) (em_callB c_len e.b_len rfl (am_cons (em_var 0) (am_nil))) (em_int)
              · refine wm_or ?_ ?_
                · exact tm_not (tm_val (em_callB c_isi e.b_isinstance rfl (am_cons (em_ix (em_var 0) (em_int)) (am_cons (em_ty e.b_str rfl) (am_nil)))))
                · exact wm_or1 (tm_cmp (o_ne (room64 hr)) (em_ix (em_var 0) (em_int)) (em_str))
        · exact sms_one (sm_ret (em_str))
        · exact sms_nil
      refine sms_cons ?_ ?_
      · refine sm_if ?_ ?_ ?_
        · refine tm_w ?_
          · refine wm_or ?_ ?_
            · exact tm_not (tm_val (em_callB c_isi e.b_isinstance rfl (am_cons (em_ix (em_var 0) (em_int)) (am_cons (em_ty e.b_tuple rfl) (am_nil)))))
            · refine wm_or1 ?_
              · refine tm_not ?_
                · refine tm_val ?_
                  · refine em_callB (c_all rfl) e.b_all rfl ?_
                    · refine am_cons ?_ ?_
                      · refine em_lc false id (fe_id rfl) (own := [("row", 1)]) rfl nd (blkOk_by (by kernel_rfl)) ?_ ?_ ?_ ?_
                        · exact im_seq (em_ix (em_var 0) (em_int))
                        · intro _ _ _ _ _
                          exact gm_name 1 nd
                        · intro _ _ _ _ _
                          exact tms_nil
                        · intro _ _ _ _ _
                          exact em_callB c_isi e.b_isinstance rfl (am_cons (em_var 1) (am_cons (em_ty e.b_tuple rfl) (am_nil)))
                      · exact am_nil
        · exact sms_one (sm_ret (em_str))
        · exact sms_nil
      refine sms_cons ?_ ?_
      · refine sm_if ?_ ?_ ?_
        · exact tm_not (tm_val (em_callD 1 (ok_sizes_are_right e) hr hgd takes_body bp_sizes_are_right (am_cons (em_ix (em_var 0) (em_int)) (am_nil))))
        · exact sms_one (sm_ret (em_str))
        · exact sms_nil
      refine sms_cons ?_ ?_
      · refine sm_for [1] (passes_of rfl) rfl ?_ ?_ ?_
        · exact im_seq (em_ix (em_var 0) (em_int))
        · exact gm_name 1 nd
        · refine sms_one ?_
          · refine sm_if ?_ ?_ ?_
            · refine tm_not ?_
              · refine tm_val ?_
                · refine em_callB (c_all rfl) e.b_all rfl ?_
                  · refine am_cons ?_ ?_
                    · refine em_lc false id (fe_id rfl) (own := [("far", 2)]) rfl nd (blkOk_by (by kernel_rfl)) ?_ ?_ ?_ ?_
                      · exact im_seq (em_var 1)
                      · intro _ _ _ _ _
                        exact gm_name 2 nd
                      · intro _ _ _ _ _
                        exact tms_nil
                      · intro _ _ _ _ _
                        exact em_and (em_callD 1 (ok_is_count e) hr hgd takes_W0 bp_is_count (am_cons (em_var 2) (am_nil))) (em_one (em_cmp o_le (em_var 2) (em_cst e.k_MOST_FAR)))
                    · exact am_nil
            · exact sms_one (sm_ret (em_str))
            · exact sms_nil
      exact sms_one (sm_ret (em_non)))
theorem sc_table_is_right : FnScope ["value"] ["value"] (defScope st_table_is_right) := ⟨rfl, rfl, rfl, by decide +kernel, rfl, by decide +kernel, by decide +kernel⟩
theorem bp_table_is_right : BindP "table_is_right" st_table_is_right ["value"] := fun _ _ _ _ _ _ us hl => match us, hl with | [_], _ => rfl
theorem ok_table_is_right (e : Env K mg) : DefG P w K mg "table_is_right" "table_is_right" st_table_is_right ["value"] 4 m_table_is_right := by
  exact defG_of (k := 3) e.f_table_is_right sc_table_is_right (fun f base cdv A outer s H E hr hgd => by
      have nd := sc_table_is_right.nd
      exact sms_one (sm_ret (em_isN (em_callD 1 (ok_flaw_of e) hr hgd takes_body bp_flaw_of (am_cons (em_var 0) (am_nil))))))
theorem sc_many_of_tables : FnScope ["table"] ["table"] (defScope st_many_of_tables) := ⟨rfl, rfl, rfl, by decide +kernel, rfl, by decide +kernel, by decide +kernel⟩
theorem bp_many_of_tables : BindP "many_of" st_many_of_tables ["table"] := fun _ _ _ _ _ _ us hl => match us, hl with | [_], _ => rfl
theorem ok_many_of_tables (e : Env K mg) : DefG P w K mg "many_of_tables" "many_of" st_many_of_tables ["table"] 1 m_many_of_tables := by
  exact defG_of (k := 0) e.f_many_of_tables sc_many_of_tables (fun f base cdv A outer s H E hr hgd => by
      have nd := sc_many_of_tables.nd
      exact sms_one (sm_ret (em_op (o_add false) (em_callB c_len e.b_len rfl (am_cons (em_ix (em_var 0) (em_int)) (am_nil))) (em_int))))
theorem sc_far_of : FnScope ["table", "one", "other"] ["table", "one", "other"] (defScope st_far_of) := ⟨rfl, rfl, rfl, by decide +kernel, rfl, by decide +kernel, by decide +kernel⟩
theorem bp_far_of : BindP "far_of" st_far_of ["table", "one", "other"] := fun _ _ _ _ _ _ us hl => match us, hl with | [_, _, _], _ => rfl
theorem ok_far_of (e : Env K mg) : DefG P w K mg "far_of" "far_of" st_far_of ["table", "one", "other"] 1 m_far_of := by
  exact defG_of (k := 0) e.f_far_of sc_far_of (fun f base cdv A outer s H E hr hgd => by
      have nd := sc_far_of.nd
      refine sms_one ?_
      · refine sm_ret ?_
        · refine em_if ?_ ?_ ?_
          · exact tm_cmp (o_eq (room64 hr)) (em_var 1) (em_var 2)
          · exact em_int
          · refine em_ix ?_ ?_
            · exact em_ix (em_ix (em_var 0) (em_int)) (em_op o_sub (em_callB (c_max2 rfl) e.b_max rfl (am_cons (em_var 1) (am_cons (em_var 2) (am_nil)))) (em_int))
            · exact em_callB (c_min2 rfl) e.b_min rfl (am_cons (em_var 1) (am_cons (em_var 2) (am_nil))))
theorem sc_short_of : FnScope ["table", "every", "one", "stop", "other"] ["table"] (defScope st_short_of) := ⟨rfl, rfl, rfl, by decide +kernel, rfl, by decide +kernel, by decide +kernel⟩
theorem bp_short_of : BindP "short_of" st_short_of ["table"] := fun _ _ _ _ _ _ us hl => match us, hl with | [_], _ => rfl
theorem ok_short_of (e : Env K mg) : DefG P w K mg "short_of" "short_of" st_short_of ["table"] 2 m_short_of := by
  exact defG_of (k := 1) e.f_short_of sc_short_of (fun f base cdv A outer s H E hr hgd => by
      have nd := sc_short_of.nd
      refine sms_cons ?_ ?_
      · exact sm_set 1 nd (em_callTy c_rng1 e.b_range rfl (am_cons (em_callD 1 (ok_many_of_tables e) hr hgd takes_body bp_many_of_tables (am_cons (em_var 0) (am_nil))) (am_nil)))
      refine sms_cons ?_ ?_
      · refine sm_for [2] (passes_of rfl) rfl ?_ ?_ ?_
        · exact im_rng (em_var 1)
        · exact gm_name 2 nd
        · refine sms_one ?_
          · refine sm_for [3] (passes_of rfl) rfl ?_ ?_ ?_
            · exact im_rng (em_var 1)
            · exact gm_name 3 nd
            · refine sms_one ?_
              · refine sm_for [4] (passes_of rfl) rfl ?_ ?_ ?_
                · refine im_range2 e.b_range ?_
                  · exact am_cons (em_op (o_add false) (em_var 2) (em_int)) (am_cons (em_callD 1 (ok_many_of_tables e) hr hgd takes_body bp_many_of_tables (am_cons (em_var 0) (am_nil))) (am_nil))
                · exact gm_name 4 nd
                · refine sms_one ?_
                  · refine sm_if ?_ ?_ ?_
                    · exact tm_cmp (o_nin (room65 hr)) (em_var 3) (em_tup (am_cons (em_var 2) (am_cons (em_var 4) (am_nil))))
                    · refine sms_one ?_
                      · refine sm_if ?_ ?_ ?_
                        · refine tm_cmp o_gt ?_ ?_
                          · exact em_callD 3 (ok_far_of e) hr hgd takes_body bp_far_of (am_cons (em_var 0) (am_cons (em_var 2) (am_cons (em_var 4) (am_nil))))
                          · refine em_op (o_add false) ?_ ?_
                            · exact em_callD 3 (ok_far_of e) hr hgd takes_body bp_far_of (am_cons (em_var 0) (am_cons (em_var 2) (am_cons (em_var 3) (am_nil))))
                            · exact em_callD 3 (ok_far_of e) hr hgd takes_body bp_far_of (am_cons (em_var 0) (am_cons (em_var 3) (am_cons (em_var 4) (am_nil))))
                        · exact sms_one (sm_ret (em_tup (am_cons (em_var 2) (am_cons (em_var 3) (am_cons (em_var 4) (am_nil))))))
                        · exact sms_nil
                    · exact sms_nil
      exact sms_one (sm_ret (em_non)))
theorem sc_check_table_tables : FnScope ["table"] ["table"] (defScope st_check_table_tables) := ⟨rfl, rfl, rfl, by decide +kernel, rfl, by decide +kernel, by decide +kernel⟩
theorem bp_check_table_tables : BindP "check_table" st_check_table_tables ["table"] := fun _ _ _ _ _ _ us hl => match us, hl with | [_], _ => rfl
theorem ok_check_table_tables (e : Env K mg) : DefG P w K mg "check_table_tables" "check_table" st_check_table_tables ["table"] 5 m_check_table_tables := by
  obtain ⟨C_InvalidTable, I_InvalidTable, lx_InvalidTable⟩ := e.x_InvalidTable
  have gx_InvalidTable := lx_InvalidTable.gC
  exact defG_of (k := 4) e.f_check_table_tables sc_check_table_tables (fun f base cdv A outer s H E hr hgd => by
      have nd := sc_check_table_tables.nd
      refine sms_one ?_
      · refine sm_if ?_ ?_ ?_
        · exact tm_not (tm_val (em_callD 1 (ok_table_is_right e) hr hgd takes_body bp_table_is_right (am_cons (em_var 0) (am_nil))))
        · exact sms_one (sm_raise rfl lx_InvalidTable hr takes_body (am_cons (em_var 0) (am_nil)))
        · exact sms_nil)
theorem sc_is_table : FnScope ["value"] ["value"] (defScope st_is_table) := ⟨rfl, rfl, rfl, by decide +kernel, rfl, by decide +kernel, by decide +kernel⟩
theorem bp_is_table : BindP "is_table" st_is_table ["value"] := fun _ _ _ _ _ _ us hl => match us, hl with | [_], _ => rfl
theorem ok_is_table (e : Env K mg) : DefG P w K mg "is_table" "is_table" st_is_table ["value"] 5 m_is_table := by
  exact defG_of (k := 4) e.f_is_table sc_is_table (fun f base cdv A outer s H E hr hgd => by
      have nd := sc_is_table.nd
      exact sms_one (sm_ret (em_callD 1 (ok_table_is_right e) hr hgd takes_body bp_table_is_right (am_cons (em_var 0) (am_nil)))))
theorem sc_short_triple : FnScope ["table"] ["table"] (defScope st_short_triple) := ⟨rfl, rfl, rfl, by decide +kernel, rfl, by decide +kernel, by decide +kernel⟩
theorem bp_short_triple : BindP "short_triple" st_short_triple ["table"] := fun _ _ _ _ _ _ us hl => match us, hl with | [_], _ => rfl
theorem ok_short_triple (e : Env K mg) : DefG P w K mg "short_triple" "short_triple" st_short_triple ["table"] 6 m_short_triple := by
  exact defG_of (k := 5) e.f_short_triple sc_short_triple (fun f base cdv A outer s H E hr hgd => by
      have nd := sc_short_triple.nd
      refine sms_cons ?_ ?_
      · exact sm_expr (em_callD 1 (ok_check_table_tables e) hr hgd takes_body bp_check_table_tables (am_cons (em_var 0) (am_nil)))
      exact sms_one (sm_ret (em_callD 1 (ok_short_of e) hr hgd takes_body bp_short_of (am_cons (em_var 0) (am_nil)))))
theorem sc_many_of : FnScope ["table"] ["table"] (defScope st_many_of) := ⟨rfl, rfl, rfl, by decide +kernel, rfl, by decide +kernel, by decide +kernel⟩
theorem bp_many_of : BindP "many_of" st_many_of ["table"] := fun _ _ _ _ _ _ us hl => match us, hl with | [_], _ => rfl
theorem ok_many_of (e : Env K mg) : DefG P w K mg "many_of" "many_of" st_many_of ["table"] 1 m_many_of := by
  exact defG_of (k := 0) e.f_many_of sc_many_of (fun f base cdv A outer s H E hr hgd => by
      have nd := sc_many_of.nd
      exact sms_one (sm_ret (em_op (o_add false) (em_callB c_len e.b_len rfl (am_cons (em_ix (em_var 0) (em_int)) (am_nil))) (em_int))))
theorem ok_many_of__many_of_webs (e : Env K mg) : DefG P w K mg "many_of_webs" "many_of" st_many_of ["table"] 1 m_many_of := by
  exact defG_of (k := 0) e.f_many_of__many_of_webs sc_many_of (fun f base cdv A outer s H E hr hgd => by
      have nd := sc_many_of.nd
      exact sms_one (sm_ret (em_op (o_add false) (em_callB c_len e.b_len rfl (am_cons (em_ix (em_var 0) (em_int)) (am_nil))) (em_int))))
theorem sc_three_sums : FnScope ["table", "four", "i", "j", "k", "z", "found"] ["table", "four"] (defScope st_three_sums) := ⟨rfl, rfl, rfl, by decide +kernel, rfl, by decide +kernel, by decide +kernel⟩
theorem bp_three_sums : BindP "three_sums" st_three_sums ["table", "four"] := fun _ _ _ _ _ _ us hl => match us, hl with | [_, _], _ => rfl
theorem ok_three_sums (e : Env K mg) : DefG P w K mg "three_sums" "three_sums" st_three_sums ["table", "four"] 2 m_three_sums := by
  exact defG_of (k := 1) e.f_three_sums sc_three_sums (fun f base cdv A outer s H E hr hgd => by
      have nd := sc_three_sums.nd
      refine sms_cons ?_ ?_
      · exact sm_asg [2, 3, 4, 5] (gm_tup rfl (gms_cons (gm_name 2 nd) (gms_cons (gm_name 3 nd) (gms_cons (gm_name 4 nd) (gms_cons (gm_name 5 nd) (gms_nil)))))) (em_var 1)
      refine sms_cons ?_ ?_
      · refine sm_set 6 nd ?_
        · refine em_lst false ?_
          · refine am_cons ?_ ?_
            · refine em_op (o_add false) ?_ ?_
              · exact em_callD 3 (ok_far_of e) hr hgd takes_body bp_far_of (am_cons (em_var 0) (am_cons (em_var 2) (am_cons (em_var 3) (am_nil))))
              · exact em_callD 3 (ok_far_of e) hr hgd takes_body bp_far_of (am_cons (em_var 0) (am_cons (em_var 4) (am_cons (em_var 5) (am_nil))))
            · refine am_cons ?_ ?_
              · refine em_op (o_add false) ?_ ?_
                · exact em_callD 3 (ok_far_of e) hr hgd takes_body bp_far_of (am_cons (em_var 0) (am_cons (em_var 2) (am_cons (em_var 4) (am_nil))))
                · exact em_callD 3 (ok_far_of e) hr hgd takes_body bp_far_of (am_cons (em_var 0) (am_cons (em_var 3) (am_cons (em_var 5) (am_nil))))
              · exact am_nil
      refine sms_one ?_
      · refine sm_ret ?_
        · refine em_callB (c_sorted false (room64 hr)) e.b_sorted rfl ?_
          · refine am_cons ?_ ?_
            · refine em_op (o_add false) ?_ ?_
              · exact em_var 6
              · refine em_lst false ?_
                · refine am_cons ?_ ?_
                  · refine em_op (o_add false) ?_ ?_
                    · exact em_callD 3 (ok_far_of e) hr hgd takes_body bp_far_of (am_cons (em_var 0) (am_cons (em_var 2) (am_cons (em_var 5) (am_nil))))
                    · exact em_callD 3 (ok_far_of e) hr hgd takes_body bp_far_of (am_cons (em_var 0) (am_cons (em_var 3) (am_cons (em_var 4) (am_nil))))
                  · exact am_nil
            · exact am_nil)
theorem sc_four_badness : FnScope ["table", "four", "sums"] ["table", "four"] (defScope st_four_badness) := ⟨rfl, rfl, rfl, by decide +kernel, rfl, by decide +kernel, by decide +kernel⟩
theorem bp_four_badness : BindP "four_badness" st_four_badness ["table", "four"] := fun _ _ _ _ _ _ us hl => match us, hl with | [_, _], _ => rfl
theorem ok_four_badness (e : Env K mg) : DefG P w K mg "four_badness" "four_badness" st_four_badness ["table", "four"] 3 m_four_badness := by
  exact defG_of (k := 2) e.f_four_badness sc_four_badness (fun f base cdv A outer s H E hr hgd => by
      have nd := sc_four_badness.nd
      refine sms_cons ?_ ?_
      · exact sm_set 2 nd (em_callD 2 (ok_three_sums e) hr hgd takes_body bp_three_sums (am_cons (em_var 0) (am_cons (em_var 1) (am_nil))))
      exact sms_one (sm_ret (em_op o_sub (em_ix (em_var 2) (em_int)) (em_ix (em_var 2) (em_int)))))
theorem sc_fours_of : FnScope ["many", "found", "turn", "later", "lot", "town"] ["many"] (defScope st_fours_of) := ⟨rfl, rfl, rfl, by decide +kernel, rfl, by decide +kernel, by decide +kernel⟩
theorem bp_fours_of : BindP "fours_of" st_fours_of ["many"] := fun _ _ _ _ _ _ us hl => match us, hl with | [_], _ => rfl
theorem ok_fours_of (e : Env K mg) : DefG P w K mg "fours_of" "fours_of" st_fours_of ["many"] 1 m_fours_of := by
  exact defG_of (k := 0) e.f_fours_of sc_fours_of (fun f base cdv A outer s H E hr hgd => by
      have nd := sc_fours_of.nd
      refine sms_cons ?_ ?_
      · exact sm_set 1 nd (em_lst false (am_cons (em_tup (am_nil)) (am_nil)))
      refine sms_cons ?_ ?_
      · refine sm_for [2] (passes_of rfl) rfl ?_ ?_ ?_
        · exact im_range1 e.b_range (am_cons (em_int) (am_nil))
        · exact gm_name 2 nd
        · refine sms_cons ?_ ?_
          · exact sm_set 3 nd (em_lst true (am_nil))
          · refine sms_cons ?_ ?_
            · refine sm_for [4] (passes_of rfl) rfl ?_ ?_ ?_
              · exact im_seq (em_var 1)
              · exact gm_name 4 nd
              · refine sms_one ?_
                · refine sm_expr ?_
                  · refine em_bm isSeq_ty PySem.F.plainAttrs_list PySem.F.slot_list_extend PySem.F.type_list_extend m_extend ?_ ?_
                    · exact em_var 3
                    · refine am_cons ?_ ?_
                      · refine em_lc false id (fe_id rfl) (own := [("town", 5)]) rfl nd (blkOk_by (by kernel_rfl)) ?_ ?_ ?_ ?_
                        · refine im_range2 e.b_range ?_
                          · refine am_cons ?_ ?_
                            · exact em_if (tm_cmp (o_ne (room64 hr)) (em_var 4) (em_tup (am_nil))) (em_op (o_add false) (em_ix (em_var 4) (em_un u_neg (em_int))) (em_int)) (em_int)
                            · exact am_cons (em_var 0) (am_nil)
                        · intro _ _ _ _ _
                          exact gm_name 5 nd
                        · intro _ _ _ _ _
                          exact tms_nil
                        · intro _ _ _ _ _
                          exact em_op (o_add false) (em_var 4) (em_tup (am_cons (em_var 5) (am_nil)))
                      · exact am_nil
            · exact sms_one (sm_set 1 nd (em_var 3))
      exact sms_one (sm_ret (em_var 1)))
theorem sc_bad_fours : FnScope ["table", "four"] ["table"] (defScope st_bad_fours) := ⟨rfl, rfl, rfl, by decide +kernel, rfl, by decide +kernel, by decide +kernel⟩
theorem bp_bad_fours : BindP "bad_fours" st_bad_fours ["table"] := fun _ _ _ _ _ _ us hl => match us, hl with | [_], _ => rfl
theorem ok_bad_fours (e : Env K mg) : DefG P w K mg "bad_fours" "bad_fours" st_bad_fours ["table"] 4 m_bad_fours := by
  exact defG_of (k := 3) e.f_bad_fours sc_bad_fours (fun f base cdv A outer s H E hr hgd => by
      have nd := sc_bad_fours.nd
      refine sms_one ?_
      · refine sm_ret ?_
        · refine em_lc false id (fe_id rfl) (own := [("four", 1)]) rfl nd (blkOk_by (by kernel_rfl)) ?_ ?_ ?_ ?_
          · refine im_seq ?_
            · refine em_callD 1 (ok_fours_of e) hr hgd takes_body bp_fours_of ?_
              · exact am_cons (em_callD 1 (ok_many_of__many_of_webs e) hr hgd takes_body bp_many_of (am_cons (em_var 0) (am_nil))) (am_nil)
          · intro _ _ _ _ _
            exact gm_name 1 nd
          · intro _ _ _ _ _
            exact tms_one (tm_cmp o_gt (em_callD 2 (ok_four_badness e) hr hgd takes_W0 bp_four_badness (am_cons (em_var 0) (am_cons (em_var 1) (am_nil)))) (em_int))
          · intro _ _ _ _ _
            exact em_var 1)
theorem sc_lots_of : FnScope ["some", "found", "wave", "size", "longer", "lot", "town"] ["some"] (defScope st_lots_of) := ⟨rfl, rfl, rfl, by decide +kernel, rfl, by decide +kernel, by decide +kernel⟩
theorem bp_lots_of : BindP "lots_of" st_lots_of ["some"] := fun _ _ _ _ _ _ us hl => match us, hl with | [_], _ => rfl
theorem ok_lots_of (e : Env K mg) : DefG P w K mg "lots_of" "lots_of" st_lots_of ["some"] 1 m_lots_of := by
  exact defG_of (k := 0) e.f_lots_of sc_lots_of (fun f base cdv A outer s H E hr hgd => by
      have nd := sc_lots_of.nd
      refine sms_cons ?_ ?_
      · exact sm_par 1 2 rfl nd (am_cons (em_lst false (am_cons (em_tup (am_nil)) (am_nil))) (am_cons (em_lst false (am_cons (em_tup (am_nil)) (am_nil))) (am_nil)))
      refine sms_cons ?_ ?_
      · refine sm_for [3] (passes_of rfl) rfl ?_ ?_ ?_
        · exact im_range1 e.b_range (am_cons (em_callB c_len e.b_len rfl (am_cons (em_var 0) (am_nil))) (am_nil))
        · exact gm_name 3 nd
        · refine sms_cons ?_ ?_
          · exact sm_set 4 nd (em_lst true (am_nil))
          · refine sms_cons ?_ ?_
            · refine sm_for [5] (passes_of rfl) rfl ?_ ?_ ?_
              · exact im_seq (em_var 2)
              · exact gm_name 5 nd
              · refine sms_one ?_
                · refine sm_expr ?_
                  · refine em_bm isSeq_ty PySem.F.plainAttrs_list PySem.F.slot_list_extend PySem.F.type_list_extend m_extend ?_ ?_
                    · exact em_var 4
                    · refine am_cons ?_ ?_
                      · refine em_lc false id (fe_id rfl) (own := [("town", 6)]) rfl nd (blkOk_by (by kernel_rfl)) ?_ ?_ ?_ ?_
                        · exact im_seq (em_var 0)
                        · intro _ _ _ _ _
                          exact gm_name 6 nd
                        · intro _ _ _ _ _
                          exact tms_one (tm_w (wm_or (tm_cmp (o_eq (room64 hr)) (em_var 5) (em_tup (am_nil))) (wm_or1 (tm_cmp o_gt (em_var 6) (em_ix (em_var 5) (em_un u_neg (em_int)))))))
                        · intro _ _ _ _ _
                          exact em_op (o_add false) (em_var 5) (em_tup (am_cons (em_var 6) (am_nil)))
                      · exact am_nil
            · exact sms_cons (sm_set 2 nd (em_var 4)) (sms_one (sm_set 1 nd (em_op (o_add false) (em_var 1) (em_var 2))))
      exact sms_one (sm_ret (em_var 1)))
theorem sc_meets : FnScope ["lot", "four", "town"] ["lot", "four"] (defScope st_meets) := ⟨rfl, rfl, rfl, by decide +kernel, rfl, by decide +kernel, by decide +kernel⟩
theorem bp_meets : BindP "meets" st_meets ["lot", "four"] := fun _ _ _ _ _ _ us hl => match us, hl with | [_, _], _ => rfl
theorem ok_meets (e : Env K mg) : DefG P w K mg "meets" "meets" st_meets ["lot", "four"] 1 m_meets := by
  exact defG_of (k := 0) e.f_meets sc_meets (fun f base cdv A outer s H E hr hgd => by
      have nd := sc_meets.nd
      refine sms_one ?_
      · refine sm_ret ?_
        · refine em_callB (c_any rfl) e.b_any rfl ?_
          · refine am_cons ?_ ?_
            · refine em_lc false id (fe_id rfl) (own := [("town", 2)]) rfl nd (blkOk_by (by kernel_rfl)) ?_ ?_ ?_ ?_
              · exact im_seq (em_var 0)
              · intro _ _ _ _ _
                exact gm_name 2 nd
              · intro _ _ _ _ _
                exact tms_nil
              · intro _ _ _ _ _
                exact em_cmp (o_in (room65 hr)) (em_var 2) (em_var 1)
            · exact am_nil)
theorem sc_cures : FnScope ["bad", "lot", "four"] ["bad", "lot"] (defScope st_cures) := ⟨rfl, rfl, rfl, by decide +kernel, rfl, by decide +kernel, by decide +kernel⟩
theorem bp_cures : BindP "cures" st_cures ["bad", "lot"] := fun _ _ _ _ _ _ us hl => match us, hl with | [_, _], _ => rfl
theorem ok_cures (e : Env K mg) : DefG P w K mg "cures" "cures" st_cures ["bad", "lot"] 2 m_cures := by
  exact defG_of (k := 1) e.f_cures sc_cures (fun f base cdv A outer s H E hr hgd => by
      have nd := sc_cures.nd
      refine sms_one ?_
      · refine sm_ret ?_
        · refine em_callB (c_all rfl) e.b_all rfl ?_
          · refine am_cons ?_ ?_
            · refine em_lc false id (fe_id rfl) (own := [("four", 2)]) rfl nd (blkOk_by (by kernel_rfl)) ?_ ?_ ?_ ?_
              · exact im_seq (em_var 0)
              · intro _ _ _ _ _
                exact gm_name 2 nd
              · intro _ _ _ _ _
                exact tms_nil
              · intro _ _ _ _ _
                exact em_callD 2 (ok_meets e) hr hgd takes_W0 bp_meets (am_cons (em_var 1) (am_cons (em_var 2) (am_nil)))
            · exact am_nil)
theorem sc_first_cure : FnScope ["bad", "some", "lot"] ["bad", "some"] (defScope st_first_cure) := ⟨rfl, rfl, rfl, by decide +kernel, rfl, by decide +kernel, by decide +kernel⟩
theorem bp_first_cure : BindP "first_cure" st_first_cure ["bad", "some"] := fun _ _ _ _ _ _ us hl => match us, hl with | [_, _], _ => rfl
theorem ok_first_cure (e : Env K mg) : DefG P w K mg "first_cure" "first_cure" st_first_cure ["bad", "some"] 3 m_first_cure := by
  exact defG_of (k := 2) e.f_first_cure sc_first_cure (fun f base cdv A outer s H E hr hgd => by
      have nd := sc_first_cure.nd
      refine sms_cons ?_ ?_
      · refine sm_for [2] (passes_of rfl) rfl ?_ ?_ ?_
        · exact im_seq (em_callD 1 (ok_lots_of e) hr hgd takes_body bp_lots_of (am_cons (em_var 1) (am_nil)))
        · exact gm_name 2 nd
        · exact sms_one (sm_if (tm_val (em_callD 2 (ok_cures e) hr hgd takes_body bp_cures (am_cons (em_var 0) (am_cons (em_var 2) (am_nil))))) (sms_one (sm_ret (em_var 2))) (sms_nil))
      exact sms_one (sm_ret (em_non)))
theorem sc_least_of : FnScope ["table"] ["table"] (defScope st_least_of) := ⟨rfl, rfl, rfl, by decide +kernel, rfl, by decide +kernel, by decide +kernel⟩
theorem bp_least_of : BindP "least_of" st_least_of ["table"] := fun _ _ _ _ _ _ us hl => match us, hl with | [_], _ => rfl
theorem ok_least_of (e : Env K mg) : DefG P w K mg "least_of" "least_of" st_least_of ["table"] 5 m_least_of := by
  exact defG_of (k := 4) e.f_least_of sc_least_of (fun f base cdv A outer s H E hr hgd => by
      have nd := sc_least_of.nd
      refine sms_one ?_
      · refine sm_ret ?_
        · refine em_callD 2 (ok_first_cure e) hr hgd takes_body bp_first_cure ?_
          · refine am_cons ?_ ?_
            · exact em_callD 1 (ok_bad_fours e) hr hgd takes_body bp_bad_fours (am_cons (em_var 0) (am_nil))
            · exact am_cons (em_listR1 false e.b_list e.b_range (em_callD 1 (ok_many_of__many_of_webs e) hr hgd takes_body bp_many_of (am_cons (em_var 0) (am_nil))) rfl) (am_nil))
theorem sc_least_ones : FnScope ["table", "bad", "size", "lot"] ["table"] (defScope st_least_ones) := ⟨rfl, rfl, rfl, by decide +kernel, rfl, by decide +kernel, by decide +kernel⟩
theorem bp_least_ones : BindP "least_ones" st_least_ones ["table"] := fun _ _ _ _ _ _ us hl => match us, hl with | [_], _ => rfl
theorem ok_least_ones (e : Env K mg) : DefG P w K mg "least_ones" "least_ones" st_least_ones ["table"] 6 m_least_ones := by
  exact defG_of (k := 5) e.f_least_ones sc_least_ones (fun f base cdv A outer s H E hr hgd => by
      have nd := sc_least_ones.nd
      refine sms_cons ?_ ?_
      · refine sm_asg [1, 2] ?_ ?_
        · exact gm_tup rfl (gms_cons (gm_name 1 nd) (gms_cons (gm_name 2 nd) (gms_nil)))
        · refine em_tup ?_
          · refine am_cons ?_ ?_
            · exact em_callD 1 (ok_bad_fours e) hr hgd takes_body bp_bad_fours (am_cons (em_var 0) (am_nil))
            · exact am_cons (em_callB c_len e.b_len rfl (am_cons (em_callD 1 (ok_least_of e) hr hgd takes_body bp_least_of (am_cons (em_var 0) (am_nil))) (am_nil))) (am_nil)
      refine sms_one ?_
      · refine sm_ret ?_
        · refine em_lc false id (fe_id rfl) (own := [("lot", 3)]) rfl nd (blkOk_by (by kernel_rfl)) ?_ ?_ ?_ ?_
          · refine im_seq ?_
            · refine em_callD 1 (ok_lots_of e) hr hgd takes_body bp_lots_of ?_
              · exact am_cons (em_listR1 false e.b_list e.b_range (em_callD 1 (ok_many_of__many_of_webs e) hr hgd takes_body bp_many_of (am_cons (em_var 0) (am_nil))) rfl) (am_nil)
          · intro _ _ _ _ _
            exact gm_name 3 nd
          · intro _ _ _ _ _
            refine tms_one ?_
            · refine tm_w ?_
              · refine wm_and ?_ ?_
                · exact tm_cmp (o_eq (room64 hr)) (em_callB c_len e.b_len rfl (am_cons (em_var 3) (am_nil))) (em_var 2)
                · exact wm_and1 (tm_val (em_callD 2 (ok_cures e) hr hgd takes_W0 bp_cures (am_cons (em_var 1) (am_cons (em_var 3) (am_nil)))))
          · intro _ _ _ _ _
            exact em_var 3)
theorem sc_believing_of : FnScope ["table", "town", "other"] ["table", "town"] (defScope st_believing_of) := ⟨rfl, rfl, rfl, by decide +kernel, rfl, by decide +kernel, by decide +kernel⟩
theorem bp_believing_of : BindP "believing_of" st_believing_of ["table", "town"] := fun _ _ _ _ _ _ us hl => match us, hl with | [_, _], _ => rfl
theorem ok_believing_of (e : Env K mg) : DefG P w K mg "believing_of" "believing_of" st_believing_of ["table", "town"] 5 m_believing_of := by
  exact defG_of (k := 4) e.f_believing_of sc_believing_of (fun f base cdv A outer s H E hr hgd => by
      have nd := sc_believing_of.nd
      refine sms_one ?_
      · refine sm_ret ?_
        · refine em_callD 2 (ok_first_cure e) hr hgd takes_body bp_first_cure ?_
          · refine am_cons ?_ ?_
            · exact em_callD 1 (ok_bad_fours e) hr hgd takes_body bp_bad_fours (am_cons (em_var 0) (am_nil))
            · refine am_cons ?_ ?_
              · refine em_lc false id (fe_id rfl) (own := [("other", 2)]) rfl nd (blkOk_by (by kernel_rfl)) ?_ ?_ ?_ ?_
                · exact im_range1 e.b_range (am_cons (em_callD 1 (ok_many_of__many_of_webs e) hr hgd takes_body bp_many_of (am_cons (em_var 0) (am_nil))) (am_nil))
                · intro _ _ _ _ _
                  exact gm_name 2 nd
                · intro _ _ _ _ _
                  exact tms_one (tm_cmp (o_ne (room64 hr)) (em_var 2) (em_var 1))
                · intro _ _ _ _ _
                  exact em_var 2
              · exact am_nil)
theorem sc_lot_is_right : FnScope ["table", "value"] ["table", "value"] (defScope st_lot_is_right) := ⟨rfl, rfl, rfl, by decide +kernel, rfl, by decide +kernel, by decide +kernel⟩
theorem bp_lot_is_right : BindP "lot_is_right" st_lot_is_right ["table", "value"] := fun _ _ _ _ _ _ us hl => match us, hl with | [_, _], _ => rfl
theorem ok_lot_is_right (e : Env K mg) : DefG P w K mg "lot_is_right" "lot_is_right" st_lot_is_right ["table", "value"] 5 m_lot_is_right := by
  exact defG_of (k := 4) e.f_lot_is_right sc_lot_is_right (fun f base cdv A outer s H E hr hgd => by
      have nd := sc_lot_is_right.nd
      refine sms_one ?_
      · refine sm_ret ?_
        · refine em_callD 2 (ok_is_rising e) hr hgd takes_body bp_is_rising ?_
          · exact am_cons (em_var 1) (am_cons (em_callD 1 (ok_many_of__many_of_webs e) hr hgd takes_body bp_many_of (am_cons (em_var 0) (am_nil))) (am_nil)))
theorem sc_check_table : FnScope ["table"] ["table"] (defScope st_check_table) := ⟨rfl, rfl, rfl, by decide +kernel, rfl, by decide +kernel, by decide +kernel⟩
theorem bp_check_table : BindP "check_table" st_check_table ["table"] := fun _ _ _ _ _ _ us hl => match us, hl with | [_], _ => rfl
theorem ok_check_table (e : Env K mg) : DefG P w K mg "check_table" "check_table" st_check_table ["table"] 6 m_check_table := by
  obtain ⟨C_InvalidTable, I_InvalidTable, lx_InvalidTable⟩ := e.x_InvalidTable
  have gx_InvalidTable := lx_InvalidTable.gC
  exact defG_of (k := 5) e.f_check_table sc_check_table (fun f base cdv A outer s H E hr hgd => by
      have nd := sc_check_table.nd
      refine sms_one ?_
      · refine sm_if ?_ ?_ ?_
        · exact tm_not (tm_val (em_callD 1 (ok_is_table e) hr hgd takes_body bp_is_table (am_cons (em_var 0) (am_nil))))
        · exact sms_one (sm_raise rfl lx_InvalidTable hr takes_body (am_cons (em_var 0) (am_nil)))
        · exact sms_nil)
theorem ok_check_table__check_table_suspects (e : Env K mg) : DefG P w K mg "check_table_suspects" "check_table" st_check_table ["table"] 6 m_check_table := by
  obtain ⟨C_InvalidTable, I_InvalidTable, lx_InvalidTable⟩ := e.x_InvalidTable
  have gx_InvalidTable := lx_InvalidTable.gC
  exact defG_of (k := 5) e.f_check_table__check_table_suspects sc_check_table (fun f base cdv A outer s H E hr hgd => by
      have nd := sc_check_table.nd
      refine sms_one ?_
      · refine sm_if ?_ ?_ ?_
        · exact tm_not (tm_val (em_callD 1 (ok_is_table e) hr hgd takes_body bp_is_table (am_cons (em_var 0) (am_nil))))
        · exact sms_one (sm_raise rfl lx_InvalidTable hr takes_body (am_cons (em_var 0) (am_nil)))
        · exact sms_nil)
theorem sc_check_metric : FnScope ["table", "found"] ["table"] (defScope st_check_metric) := ⟨rfl, rfl, rfl, by decide +kernel, rfl, by decide +kernel, by decide +kernel⟩
theorem bp_check_metric : BindP "check_metric" st_check_metric ["table"] := fun _ _ _ _ _ _ us hl => match us, hl with | [_], _ => rfl
theorem ok_check_metric (e : Env K mg) : DefG P w K mg "check_metric" "check_metric" st_check_metric ["table"] 7 m_check_metric := by
  exact defG_of (k := 6) e.f_check_metric sc_check_metric (fun f base cdv A outer s H E hr hgd => by
      have nd := sc_check_metric.nd
      refine sms_cons ?_ ?_
      · exact sm_set 1 nd (em_callD 1 (ok_short_triple e) hr hgd takes_body bp_short_triple (am_cons (em_var 0) (am_nil)))
      exact sms_one (sm_if (tm_notN (em_var 1)) (sms_one (sm_dead)) (sms_nil)))
theorem sc_check_known : FnScope ["table"] ["table"] (defScope st_check_known) := ⟨rfl, rfl, rfl, by decide +kernel, rfl, by decide +kernel, by decide +kernel⟩
theorem bp_check_known : BindP "check_known" st_check_known ["table"] := fun _ _ _ _ _ _ us hl => match us, hl with | [_], _ => rfl
theorem ok_check_known (e : Env K mg) : DefG P w K mg "check_known" "check_known" st_check_known ["table"] 8 m_check_known := by
  exact defG_of (k := 7) e.f_check_known sc_check_known (fun f base cdv A outer s H E hr hgd => by
      have nd := sc_check_known.nd
      refine sms_cons ?_ ?_
      · exact sm_expr (em_callD 1 (ok_check_table__check_table_suspects e) hr hgd takes_body bp_check_table (am_cons (em_var 0) (am_nil)))
      exact sms_one (sm_expr (em_callD 1 (ok_check_metric e) hr hgd takes_body bp_check_metric (am_cons (em_var 0) (am_nil)))))
theorem sc_check_town : FnScope ["table", "town"] ["table", "town"] (defScope st_check_town) := ⟨rfl, rfl, rfl, by decide +kernel, rfl, by decide +kernel, by decide +kernel⟩
theorem bp_check_town : BindP "check_town" st_check_town ["table", "town"] := fun _ _ _ _ _ _ us hl => match us, hl with | [_, _], _ => rfl
theorem ok_check_town (e : Env K mg) : DefG P w K mg "check_town" "check_town" st_check_town ["table", "town"] 8 m_check_town := by
  exact defG_of (k := 7) e.f_check_town sc_check_town (fun f base cdv A outer s H E hr hgd => by
      have nd := sc_check_town.nd
      refine sms_cons ?_ ?_
      · exact sm_expr (em_callD 1 (ok_check_table__check_table_suspects e) hr hgd takes_body bp_check_table (am_cons (em_var 0) (am_nil)))
      refine sms_cons ?_ ?_
      · refine sm_if ?_ ?_ ?_
        · refine tm_not ?_
          · refine tm_val ?_
            · refine em_callD 2 (ok_is_position e) hr hgd takes_body bp_is_position ?_
              · exact am_cons (em_var 1) (am_cons (em_callD 1 (ok_many_of__many_of_webs e) hr hgd takes_body bp_many_of (am_cons (em_var 0) (am_nil))) (am_nil))
        · exact sms_one (sm_dead)
        · exact sms_nil
      exact sms_one (sm_expr (em_callD 1 (ok_check_metric e) hr hgd takes_body bp_check_metric (am_cons (em_var 0) (am_nil)))))
theorem sc_suspects : FnScope ["table", "some", "town", "lot"] ["table"] (defScope st_suspects) := ⟨rfl, rfl, rfl, by decide +kernel, rfl, by decide +kernel, by decide +kernel⟩
theorem bp_suspects : BindP "suspects" st_suspects ["table"] := fun _ _ _ _ _ _ us hl => match us, hl with | [_], _ => rfl
theorem ok_suspects (e : Env K mg) : DefG P w K mg "suspects" "suspects" st_suspects ["table"] 9 m_suspects := by
  exact defG_of (k := 8) e.f_suspects sc_suspects (fun f base cdv A outer s H E hr hgd => by
      have nd := sc_suspects.nd
      refine sms_cons ?_ ?_
      · exact sm_expr (em_callD 1 (ok_check_known e) hr hgd takes_body bp_check_known (am_cons (em_var 0) (am_nil)))
      refine sms_cons ?_ ?_
      · exact sm_set 1 nd (em_callD 1 (ok_least_ones e) hr hgd takes_body bp_least_ones (am_cons (em_var 0) (am_nil)))
      refine sms_one ?_
      · refine sm_ret ?_
        · refine em_callTy c_tuple e.b_tuple rfl ?_
          · refine am_cons ?_ ?_
            · refine em_lc false id (fe_id rfl) (own := [("town", 2)]) rfl nd (blkOk_by (by kernel_rfl)) ?_ ?_ ?_ ?_
              · exact im_range1 e.b_range (am_cons (em_callD 1 (ok_many_of__many_of_webs e) hr hgd takes_body bp_many_of (am_cons (em_var 0) (am_nil))) (am_nil))
              · intro _ _ _ _ _
                exact gm_name 2 nd
              · intro _ _ _ _ _
                refine tms_one ?_
                · refine tm_val ?_
                  · refine em_callB (c_all rfl) e.b_all rfl ?_
                    · refine am_cons ?_ ?_
                      · refine em_lc false id (fe_id rfl) (own := [("lot", 3)]) rfl nd (blkOk_by (by kernel_rfl)) ?_ ?_ ?_ ?_
                        · exact im_seq (em_var 1)
                        · intro _ _ _ _ _
                          exact gm_name 3 nd
                        · intro _ _ _ _ _
                          exact tms_nil
                        · intro _ _ _ _ _
                          exact em_cmp (o_in (room65 hr)) (em_var 2) (em_var 3)
                      · exact am_nil
              · intro _ _ _ _ _
                exact em_var 2
            · exact am_nil)
theorem sc_trusted : FnScope ["table", "some", "town", "lot"] ["table"] (defScope st_trusted) := ⟨rfl, rfl, rfl, by decide +kernel, rfl, by decide +kernel, by decide +kernel⟩
theorem bp_trusted : BindP "trusted" st_trusted ["table"] := fun _ _ _ _ _ _ us hl => match us, hl with | [_], _ => rfl
theorem ok_trusted (e : Env K mg) : DefG P w K mg "trusted" "trusted" st_trusted ["table"] 9 m_trusted := by
  exact defG_of (k := 8) e.f_trusted sc_trusted (fun f base cdv A outer s H E hr hgd => by
      have nd := sc_trusted.nd
      refine sms_cons ?_ ?_
      · exact sm_expr (em_callD 1 (ok_check_known e) hr hgd takes_body bp_check_known (am_cons (em_var 0) (am_nil)))
      refine sms_cons ?_ ?_
      · exact sm_set 1 nd (em_callD 1 (ok_least_ones e) hr hgd takes_body bp_least_ones (am_cons (em_var 0) (am_nil)))
      refine sms_one ?_
      · refine sm_ret ?_
        · refine em_callTy c_tuple e.b_tuple rfl ?_
          · refine am_cons ?_ ?_
            · refine em_lc false id (fe_id rfl) (own := [("town", 2)]) rfl nd (blkOk_by (by kernel_rfl)) ?_ ?_ ?_ ?_
              · exact im_range1 e.b_range (am_cons (em_callD 1 (ok_many_of__many_of_webs e) hr hgd takes_body bp_many_of (am_cons (em_var 0) (am_nil))) (am_nil))
              · intro _ _ _ _ _
                exact gm_name 2 nd
              · intro _ _ _ _ _
                refine tms_one ?_
                · refine tm_not ?_
                  · refine tm_val ?_
                    · refine em_callB (c_any rfl) e.b_any rfl ?_
                      · refine am_cons ?_ ?_
                        · refine em_lc false id (fe_id rfl) (own := [("lot", 3)]) rfl nd (blkOk_by (by kernel_rfl)) ?_ ?_ ?_ ?_
                          · exact im_seq (em_var 1)
                          · intro _ _ _ _ _
                            exact gm_name 3 nd
                          · intro _ _ _ _ _
                            exact tms_nil
                          · intro _ _ _ _ _
                            exact em_cmp (o_in (room65 hr)) (em_var 2) (em_var 3)
                        · exact am_nil
              · intro _ _ _ _ _
                exact em_var 2
            · exact am_nil)
theorem sc_open_towns : FnScope ["table", "some", "found", "town", "many", "lot"] ["table"] (defScope st_open_towns) := ⟨rfl, rfl, rfl, by decide +kernel, rfl, by decide +kernel, by decide +kernel⟩
theorem bp_open_towns : BindP "open_towns" st_open_towns ["table"] := fun _ _ _ _ _ _ us hl => match us, hl with | [_], _ => rfl
theorem ok_open_towns (e : Env K mg) : DefG P w K mg "open_towns" "open_towns" st_open_towns ["table"] 9 m_open_towns := by
  exact defG_of (k := 8) e.f_open_towns sc_open_towns (fun f base cdv A outer s H E hr hgd => by
      have nd := sc_open_towns.nd
      refine sms_cons ?_ ?_
      · exact sm_expr (em_callD 1 (ok_check_known e) hr hgd takes_body bp_check_known (am_cons (em_var 0) (am_nil)))
      refine sms_cons ?_ ?_
      · exact sm_par 1 2 rfl nd (am_cons (em_callD 1 (ok_least_ones e) hr hgd takes_body bp_least_ones (am_cons (em_var 0) (am_nil))) (am_cons (em_lst true (am_nil)) (am_nil)))
      refine sms_cons ?_ ?_
      · refine sm_for [3] (passes_of rfl) rfl ?_ ?_ ?_
        · exact im_range1 e.b_range (am_cons (em_callD 1 (ok_many_of__many_of_webs e) hr hgd takes_body bp_many_of (am_cons (em_var 0) (am_nil))) (am_nil))
        · exact gm_name 3 nd
        · refine sms_cons ?_ ?_
          · refine sm_set 4 nd ?_
            · refine em_callB c_len e.b_len rfl ?_
              · refine am_cons ?_ ?_
                · refine em_lc false id (fe_id rfl) (own := [("lot", 5)]) rfl nd (blkOk_by (by kernel_rfl)) ?_ ?_ ?_ ?_
                  · exact im_seq (em_var 1)
                  · intro _ _ _ _ _
                    exact gm_name 5 nd
                  · intro _ _ _ _ _
                    exact tms_one (tm_cmp (o_in (room65 hr)) (em_var 3) (em_var 5))
                  · intro _ _ _ _ _
                    exact em_var 5
                · exact am_nil
          · refine sms_one ?_
            · refine sm_expr ?_
              · refine em_bm isSeq_ty PySem.F.plainAttrs_list PySem.F.slot_list_extend PySem.F.type_list_extend m_extend ?_ ?_
                · exact em_var 2
                · refine am_cons ?_ ?_
                  · refine em_if ?_ ?_ ?_
                    · exact tm_chain (fun _ => o_lt) (fun _ => o_lt) (em_int) (em_var 4) (em_callB c_len e.b_len rfl (am_cons (em_var 1) (am_nil)))
                    · exact em_lst false (am_cons (em_var 3) (am_nil))
                    · exact em_lst false (am_nil)
                  · exact am_nil
      exact sms_one (sm_ret (em_callTy c_tuple e.b_tuple rfl (am_cons (em_var 2) (am_nil)))))
theorem sc_spoilers : FnScope ["table", "bad", "town"] ["table"] (defScope st_spoilers) := ⟨rfl, rfl, rfl, by decide +kernel, rfl, by decide +kernel, by decide +kernel⟩
theorem bp_spoilers : BindP "spoilers" st_spoilers ["table"] := fun _ _ _ _ _ _ us hl => match us, hl with | [_], _ => rfl
theorem ok_spoilers (e : Env K mg) : DefG P w K mg "spoilers" "spoilers" st_spoilers ["table"] 9 m_spoilers := by
  exact defG_of (k := 8) e.f_spoilers sc_spoilers (fun f base cdv A outer s H E hr hgd => by
      have nd := sc_spoilers.nd
      refine sms_cons ?_ ?_
      · exact sm_expr (em_callD 1 (ok_check_known e) hr hgd takes_body bp_check_known (am_cons (em_var 0) (am_nil)))
      refine sms_cons ?_ ?_
      · exact sm_set 1 nd (em_callD 1 (ok_bad_fours e) hr hgd takes_body bp_bad_fours (am_cons (em_var 0) (am_nil)))
      refine sms_one ?_
      · refine sm_ret ?_
        · refine em_lc true id (fe_id rfl) (own := [("town", 2)]) rfl nd (blkOk_by (by kernel_rfl)) ?_ ?_ ?_ ?_
          · exact im_range1 e.b_range (am_cons (em_callD 1 (ok_many_of__many_of_webs e) hr hgd takes_body bp_many_of (am_cons (em_var 0) (am_nil))) (am_nil))
          · intro _ _ _ _ _
            exact gm_name 2 nd
          · intro _ _ _ _ _
            refine tms_one ?_
            · refine tm_w ?_
              · refine wm_and ?_ ?_
                · exact tm_cmp (o_ne (room64 hr)) (em_var 1) (em_lst false (am_nil))
                · exact wm_and1 (tm_val (em_callD 2 (ok_cures e) hr hgd takes_W0 bp_cures (am_cons (em_var 1) (am_cons (em_tup (am_cons (em_var 2) (am_nil))) (am_nil)))))
          · intro _ _ _ _ _
            exact em_var 2)
theorem sc_blames : FnScope ["table", "bad", "town", "four"] ["table"] (defScope st_blames) := ⟨rfl, rfl, rfl, by decide +kernel, rfl, by decide +kernel, by decide +kernel⟩
theorem bp_blames : BindP "blames" st_blames ["table"] := fun _ _ _ _ _ _ us hl => match us, hl with | [_], _ => rfl
theorem ok_blames (e : Env K mg) : DefG P w K mg "blames" "blames" st_blames ["table"] 9 m_blames := by
  exact defG_of (k := 8) e.f_blames sc_blames (fun f base cdv A outer s H E hr hgd => by
      have nd := sc_blames.nd
      refine sms_cons ?_ ?_
      · exact sm_expr (em_callD 1 (ok_check_known e) hr hgd takes_body bp_check_known (am_cons (em_var 0) (am_nil)))
      refine sms_cons ?_ ?_
      · exact sm_set 1 nd (em_callD 1 (ok_bad_fours e) hr hgd takes_body bp_bad_fours (am_cons (em_var 0) (am_nil)))
      refine sms_one ?_
      · refine sm_ret ?_
        · refine em_lc true id (fe_id rfl) (own := [("town", 2)]) rfl nd (blkOk_by (by kernel_rfl)) ?_ ?_ ?_ ?_
          · exact im_range1 e.b_range (am_cons (em_callD 1 (ok_many_of__many_of_webs e) hr hgd takes_body bp_many_of (am_cons (em_var 0) (am_nil))) (am_nil))
          · intro _ _ _ _ _
            exact gm_name 2 nd
          · intro _ _ _ _ _
            exact tms_nil
          · intro _ _ _ _ _
            refine em_callB c_len e.b_len rfl ?_
            · refine am_cons ?_ ?_
              · refine em_lc false id (fe_id rfl) (own := [("four", 3)]) rfl nd (blkOk_by (by kernel_rfl)) ?_ ?_ ?_ ?_
                · exact im_seq (em_var 1)
                · intro _ _ _ _ _
                  exact gm_name 3 nd
                · intro _ _ _ _ _
                  exact tms_one (tm_cmp (o_in (room65 hr)) (em_var 2) (em_var 3))
                · intro _ _ _ _ _
                  exact em_var 3
              · exact am_nil)
theorem sc_least_among : FnScope ["table", "lot"] ["table", "lot"] (defScope st_least_among) := ⟨rfl, rfl, rfl, by decide +kernel, rfl, by decide +kernel, by decide +kernel⟩
theorem bp_least_among : BindP "least_among" st_least_among ["table", "lot"] := fun _ _ _ _ _ _ us hl => match us, hl with | [_, _], _ => rfl
theorem ok_least_among (e : Env K mg) : DefG P w K mg "least_among" "least_among" st_least_among ["table", "lot"] 8 m_least_among := by
  exact defG_of (k := 7) e.f_least_among sc_least_among (fun f base cdv A outer s H E hr hgd => by
      have nd := sc_least_among.nd
      refine sms_cons ?_ ?_
      · exact sm_expr (em_callD 1 (ok_check_table__check_table_suspects e) hr hgd takes_body bp_check_table (am_cons (em_var 0) (am_nil)))
      refine sms_cons ?_ ?_
      · refine sm_if ?_ ?_ ?_
        · exact tm_not (tm_val (em_callD 2 (ok_lot_is_right e) hr hgd takes_body bp_lot_is_right (am_cons (em_var 0) (am_cons (em_var 1) (am_nil)))))
        · exact sms_one (sm_dead)
        · exact sms_nil
      refine sms_cons ?_ ?_
      · exact sm_expr (em_callD 1 (ok_check_metric e) hr hgd takes_body bp_check_metric (am_cons (em_var 0) (am_nil)))
      refine sms_one ?_
      · refine sm_ret ?_
        · refine em_callD 2 (ok_first_cure e) hr hgd takes_body bp_first_cure ?_
          · refine am_cons ?_ ?_
            · exact em_callD 1 (ok_bad_fours e) hr hgd takes_body bp_bad_fours (am_cons (em_var 0) (am_nil))
            · exact am_cons (em_callTy (c_list false) e.b_list rfl (am_cons (em_var 1) (am_nil))) (am_nil))
theorem sc_believing : FnScope ["table", "town"] ["table", "town"] (defScope st_believing) := ⟨rfl, rfl, rfl, by decide +kernel, rfl, by decide +kernel, by decide +kernel⟩
theorem bp_believing : BindP "believing" st_believing ["table", "town"] := fun _ _ _ _ _ _ us hl => match us, hl with | [_, _], _ => rfl
theorem ok_believing (e : Env K mg) : DefG P w K mg "believing" "believing" st_believing ["table", "town"] 9 m_believing := by
  exact defG_of (k := 8) e.f_believing sc_believing (fun f base cdv A outer s H E hr hgd => by
      have nd := sc_believing.nd
      refine sms_cons ?_ ?_
      · exact sm_expr (em_callD 2 (ok_check_town e) hr hgd takes_body bp_check_town (am_cons (em_var 0) (am_cons (em_var 1) (am_nil))))
      exact sms_one (sm_ret (em_callD 2 (ok_believing_of e) hr hgd takes_body bp_believing_of (am_cons (em_var 0) (am_cons (em_var 1) (am_nil))))))
theorem sc_price : FnScope ["table", "town"] ["table", "town"] (defScope st_price) := ⟨rfl, rfl, rfl, by decide +kernel, rfl, by decide +kernel, by decide +kernel⟩
theorem bp_price : BindP "price" st_price ["table", "town"] := fun _ _ _ _ _ _ us hl => match us, hl with | [_, _], _ => rfl
theorem ok_price (e : Env K mg) : DefG P w K mg "price" "price" st_price ["table", "town"] 9 m_price := by
  exact defG_of (k := 8) e.f_price sc_price (fun f base cdv A outer s H E hr hgd => by
      have nd := sc_price.nd
      refine sms_cons ?_ ?_
      · exact sm_expr (em_callD 2 (ok_check_town e) hr hgd takes_body bp_check_town (am_cons (em_var 0) (am_cons (em_var 1) (am_nil))))
      refine sms_one ?_
      · refine sm_ret ?_
        · refine em_op o_sub ?_ ?_
          · exact em_callB c_len e.b_len rfl (am_cons (em_callD 2 (ok_believing_of e) hr hgd takes_body bp_believing_of (am_cons (em_var 0) (am_cons (em_var 1) (am_nil)))) (am_nil))
          · exact em_callB c_len e.b_len rfl (am_cons (em_callD 1 (ok_least_of e) hr hgd takes_body bp_least_of (am_cons (em_var 0) (am_nil))) (am_nil)))
theorem sc_need : FnScope ["table", "town"] ["table", "town"] (defScope st_need) := ⟨rfl, rfl, rfl, by decide +kernel, rfl, by decide +kernel, by decide +kernel⟩
theorem bp_need : BindP "need" st_need ["table", "town"] := fun _ _ _ _ _ _ us hl => match us, hl with | [_, _], _ => rfl
theorem ok_need (e : Env K mg) : DefG P w K mg "need" "need" st_need ["table", "town"] 9 m_need := by
  exact defG_of (k := 8) e.f_need sc_need (fun f base cdv A outer s H E hr hgd => by
      have nd := sc_need.nd
      refine sms_cons ?_ ?_
      · exact sm_expr (em_callD 2 (ok_check_town e) hr hgd takes_body bp_check_town (am_cons (em_var 0) (am_cons (em_var 1) (am_nil))))
      refine sms_one ?_
      · refine sm_ret ?_
        · refine em_if ?_ ?_ ?_
          · refine tm_val ?_
            · refine em_callD 2 (ok_cures e) hr hgd takes_body bp_cures ?_
              · exact am_cons (em_callD 1 (ok_bad_fours e) hr hgd takes_body bp_bad_fours (am_cons (em_var 0) (am_nil))) (am_cons (em_tup (am_cons (em_var 1) (am_nil))) (am_nil))
          · exact em_callB c_len e.b_len rfl (am_cons (em_callD 2 (ok_believing_of e) hr hgd takes_body bp_believing_of (am_cons (em_var 0) (am_cons (em_var 1) (am_nil)))) (am_nil))
          · exact em_non)
theorem sc__law_pot : FnScope ["script", "k", "spare", "cell"] ["script", "k"] (defScope st__law_pot) := ⟨rfl, rfl, rfl, by decide +kernel, rfl, by decide +kernel, by decide +kernel⟩
theorem bp__law_pot : BindP "_law_pot" st__law_pot ["script", "k"] := fun _ _ _ _ _ _ us hl => match us, hl with | [_, _], _ => rfl
theorem ok__law_pot (e : Env K mg) : DefG P w K mg "_law_pot" "_law_pot" st__law_pot ["script", "k"] 1 m__law_pot := by
  exact defG_of (k := 0) e.f__law_pot sc__law_pot (fun f base cdv A outer s H E hr hgd => by
      have nd := sc__law_pot.nd
      refine sms_cons ?_ ?_
      · refine sm_set 2 nd ?_
        · refine em_op (o_add false) ?_ ?_
          · exact em_op (o_add false) (em_op (o_mul false) (em_int) (em_var 1)) (em_int)
          · refine em_op o_mod ?_ ?_
            · refine em_callTy c_int e.b_int rfl ?_
              · refine am_cons ?_ ?_
                · exact em_callB c_abs e.b_abs rfl (am_cons (em_callB (c_sum rfl) e.b_sum rfl (am_cons (em_slice false (em_var 0) (om_none) (om_some (em_int))) (am_nil))) (am_nil))
                · exact am_nil
            · exact em_int
      refine sms_cons ?_ ?_
      · refine sm_set 3 nd ?_
        · refine em_if ?_ ?_ ?_
          · exact tm_cmp o_lt (em_var 1) (em_callB c_len e.b_len rfl (am_cons (em_var 0) (am_nil)))
          · exact em_callB c_abs e.b_abs rfl (am_cons (em_ix (em_var 0) (em_var 1)) (am_nil))
          · exact em_var 2
      refine sms_one ?_
      · refine sm_ret ?_
        · refine em_lst true ?_
          · refine am_cons ?_ ?_
            · exact em_callB (c_max2 rfl) e.b_max rfl (am_cons (em_int) (am_cons (em_op o_sub (em_var 3) (em_op o_pow (em_int) (em_int))) (am_nil)))
            · refine am_cons ?_ ?_
              · refine em_op (o_add false) ?_ ?_
                · refine em_op o_mod ?_ ?_
                  · refine em_callTy c_int e.b_int rfl ?_
                    · refine am_cons ?_ ?_
                      · refine em_op (o_add false) ?_ ?_
                        · refine em_op (o_add false) ?_ ?_
                          · exact em_op (o_mul false) (em_op o_mod (em_callTy c_int e.b_int rfl (am_cons (em_var 3) (am_nil))) (em_int)) (em_int)
                          · exact em_op (o_mul false) (em_int) (em_var 1)
                        · exact em_int
                      · exact am_nil
                  · exact em_int
                · exact em_int
              · exact am_nil)
theorem sc__law_draw : FnScope ["pot", "many", "digit"] ["pot", "many"] (defScope st__law_draw) := ⟨rfl, rfl, rfl, by decide +kernel, rfl, by decide +kernel, by decide +kernel⟩
theorem bp__law_draw : BindP "_law_draw" st__law_draw ["pot", "many"] := fun _ _ _ _ _ _ us hl => match us, hl with | [_, _], _ => rfl
theorem ok__law_draw (e : Env K mg) : DefG P w K mg "_law_draw" "_law_draw" st__law_draw ["pot", "many"] 1 m__law_draw := by
  exact defG_of (k := 0) e.f__law_draw sc__law_draw (fun f base cdv A outer s H E hr hgd => by
      have nd := sc__law_draw.nd
      refine sms_cons ?_ ?_
      · refine sm_if ?_ ?_ ?_
        · exact tm_cmp o_gt (em_ix (em_var 0) (em_int)) (em_int)
        · refine sms_cons ?_ ?_
          · exact sm_set 2 nd (em_op o_mod (em_callTy c_int e.b_int rfl (am_cons (em_ix (em_var 0) (em_int)) (am_nil))) (em_var 1))
          · refine sms_cons ?_ ?_
            · exact sm_asg [] (gm_sub (em_var 0) (em_int)) (em_op o_fdiv (em_callTy c_int e.b_int rfl (am_cons (em_ix (em_var 0) (em_int)) (am_nil))) (em_var 1))
            · exact sms_one (sm_ret (em_var 2))
        · exact sms_nil
      refine sms_cons ?_ ?_
      · refine sm_asg [] ?_ ?_
        · exact gm_sub (em_var 0) (em_int)
        · exact em_op o_mod (em_callTy c_int e.b_int rfl (am_cons (em_op (o_add false) (em_op (o_mul false) (em_ix (em_var 0) (em_int)) (em_int)) (em_int)) (am_nil))) (em_int)
      refine sms_one ?_
      · refine sm_ret ?_
        · refine em_op o_mod ?_ ?_
          · refine em_callTy c_int e.b_int rfl ?_
            · refine am_cons ?_ ?_
              · refine em_op o_fdiv ?_ ?_
                · exact em_op o_mod (em_callTy c_int e.b_int rfl (am_cons (em_op (o_mul false) (em_ix (em_var 0) (em_int)) (em_ix (em_var 0) (em_int))) (am_nil))) (em_int)
                · exact em_int
              · exact am_nil
          · exact em_var 1)
theorem sc__law_same : FnScope ["told", "due", "near", "far"] ["told", "due"] (defScope st__law_same) := ⟨rfl, rfl, rfl, by decide +kernel, rfl, by decide +kernel, by decide +kernel⟩
theorem bp__law_same : BindP "_law_same" st__law_same ["told", "due"] := fun _ _ _ _ _ _ us hl => match us, hl with | [_, _], _ => rfl
theorem ok__law_same_at (e : Env K mg) : ∀ n : Nat, DefG P w K mg "_law_same" "_law_same" st__law_same ["told", "due"] (n + 0) (r__law_same n)
  | 0 => DefG.no e.f__law_same
  | n + 1 => by
    have ih := ok__law_same_at e n
    have q : DefG P w K mg "_law_same" "_law_same" st__law_same ["told", "due"] ((n + 0) + 1) (mDef (["told", "due", "near", "far"] : List Str).length (b__law_same (r__law_same n))) := defG_of e.f__law_same sc__law_same (fun f base cdv A outer s H E hr hgd => by
      have nd := sc__law_same.nd
      refine sms_cons ?_ ?_
      · exact sm_if (tm_isN (em_var 1)) (sms_one (sm_ret (em_isN (em_var 0)))) (sms_nil)
      refine sms_cons ?_ ?_
      · refine sm_if ?_ ?_ ?_
        · exact tm_val (em_callB c_isi e.b_isinstance rfl (am_cons (em_var 1) (am_cons (em_ty e.b_bool rfl) (am_nil))))
        · refine sms_one ?_
          · refine sm_ret ?_
            · exact em_and (em_callB c_isi e.b_isinstance rfl (am_cons (em_var 0) (am_cons (em_ty e.b_bool rfl) (am_nil)))) (em_one (em_cmp (o_eq (room64 hr)) (em_var 0) (em_var 1)))
        · exact sms_nil
      refine sms_cons ?_ ?_
      · refine sm_if ?_ ?_ ?_
        · exact tm_val (em_callB c_isi e.b_isinstance rfl (am_cons (em_var 1) (am_cons (em_ty e.b_str rfl) (am_nil))))
        · refine sms_one ?_
          · exact sm_ret (em_and (em_callB c_isi e.b_isinstance rfl (am_cons (em_var 0) (am_cons (em_ty e.b_str rfl) (am_nil)))) (em_one (em_cmp (o_eq (room64 hr)) (em_var 0) (em_var 1))))
        · exact sms_nil
      refine sms_cons ?_ ?_
      · refine sm_if ?_ ?_ ?_
        · exact tm_val (em_callB c_isi e.b_isinstance rfl (am_cons (em_var 1) (am_cons (em_ty e.b_int rfl) (am_nil))))
        · refine sms_one ?_
          · refine sm_ret ?_
            · refine em_and ?_ ?_
              · exact em_callB c_isi e.b_isinstance rfl (am_cons (em_var 0) (am_cons (em_ty e.b_int rfl) (am_nil)))
              · refine em_and ?_ ?_
                · exact em_not (em_callB c_isi e.b_isinstance rfl (am_cons (em_var 0) (am_cons (em_ty e.b_bool rfl) (am_nil))))
                · exact em_one (em_cmp (o_eq (room64 hr)) (em_var 0) (em_var 1))
        · exact sms_nil
      refine sms_cons ?_ ?_
      · refine sm_if ?_ ?_ ?_
        · exact tm_val (em_callB c_isi e.b_isinstance rfl (am_cons (em_var 1) (am_cons (em_ty e.b_tuple rfl) (am_nil))))
        · refine sms_cons ?_ ?_
          · refine sm_if ?_ ?_ ?_
            · refine tm_w ?_
              · refine wm_or ?_ ?_
                · exact tm_not (tm_val (em_callB c_isi e.b_isinstance rfl (am_cons (em_var 0) (am_cons (em_ty e.b_tuple rfl) (am_nil)))))
                · exact wm_or1 (tm_cmp (o_ne (room64 hr)) (em_callB c_len e.b_len rfl (am_cons (em_var 0) (am_nil))) (em_callB c_len e.b_len rfl (am_cons (em_var 1) (am_nil))))
            · exact sms_one (sm_ret (em_bl))
            · exact sms_nil
          · refine sms_one ?_
            · refine sm_ret ?_
              · refine em_callB (c_all rfl) e.b_all rfl ?_
                · refine am_cons ?_ ?_
                  · refine em_lc false id (fe_id rfl) (own := [("near", 2), ("far", 3)]) rfl nd (blkOk_by (by kernel_rfl)) ?_ ?_ ?_ ?_
                    · exact im_zip e.b_zip (am_cons (em_var 0) (am_cons (em_var 1) (am_nil)))
                    · intro _ _ _ _ _
                      exact gm_tup rfl (gms_cons (gm_name 2 nd) (gms_cons (gm_name 3 nd) (gms_nil)))
                    · intro _ _ _ _ _
                      exact tms_nil
                    · intro _ _ _ _ _
                      exact em_callD 2 ih hr hgd takes_W0 bp__law_same (am_cons (em_var 2) (am_cons (em_var 3) (am_nil))) (hjk := by omega)
                  · exact am_nil
        · exact sms_nil
      refine sms_cons ?_ ?_
      · refine sm_if ?_ ?_ ?_
        · exact tm_val (em_callB c_isi e.b_isinstance rfl (am_cons (em_var 1) (am_cons (em_ty e.b_list rfl) (am_nil))))
        · refine sms_cons ?_ ?_
          · refine sm_if ?_ ?_ ?_
            · refine tm_w ?_
              · refine wm_or ?_ ?_
                · exact tm_not (tm_val (em_callB c_isi e.b_isinstance rfl (am_cons (em_var 0) (am_cons (em_ty e.b_list rfl) (am_nil)))))
                · exact wm_or1 (tm_cmp (o_ne (room64 hr)) (em_callB c_len e.b_len rfl (am_cons (em_var 0) (am_nil))) (em_callB c_len e.b_len rfl (am_cons (em_var 1) (am_nil))))
            · exact sms_one (sm_ret (em_bl))
            · exact sms_nil
          · refine sms_one ?_
            · refine sm_ret ?_
              · refine em_callB (c_all rfl) e.b_all rfl ?_
                · refine am_cons ?_ ?_
                  · refine em_lc false id (fe_id rfl) (own := [("near", 2), ("far", 3)]) rfl nd (blkOk_by (by kernel_rfl)) ?_ ?_ ?_ ?_
                    · exact im_zip e.b_zip (am_cons (em_var 0) (am_cons (em_var 1) (am_nil)))
                    · intro _ _ _ _ _
                      exact gm_tup rfl (gms_cons (gm_name 2 nd) (gms_cons (gm_name 3 nd) (gms_nil)))
                    · intro _ _ _ _ _
                      exact tms_nil
                    · intro _ _ _ _ _
                      exact em_callD 2 ih hr hgd takes_W0 bp__law_same (am_cons (em_var 2) (am_cons (em_var 3) (am_nil))) (hjk := by omega)
                  · exact am_nil
        · exact sms_nil
      exact sms_one (sm_ret (em_cmp (o_eq (room64 hr)) (em_var 0) (em_var 1))))
    exact q.mono (by omega)
theorem ok__law_same (e : Env K mg) : DefG P w K mg "_law_same" "_law_same" st__law_same ["told", "due"] 8 m__law_same := ok__law_same_at e 8
theorem sc__law_far : FnScope ["table", "one", "other"] ["table", "one", "other"] (defScope st__law_far) := ⟨rfl, rfl, rfl, by decide +kernel, rfl, by decide +kernel, by decide +kernel⟩
theorem bp__law_far : BindP "_law_far" st__law_far ["table", "one", "other"] := fun _ _ _ _ _ _ us hl => match us, hl with | [_, _, _], _ => rfl
theorem ok__law_far (e : Env K mg) : DefG P w K mg "_law_far" "_law_far" st__law_far ["table", "one", "other"] 1 m__law_far := by
  exact defG_of (k := 0) e.f__law_far sc__law_far (fun f base cdv A outer s H E hr hgd => by
      have nd := sc__law_far.nd
      refine sms_one ?_
      · refine sm_ret ?_
        · refine em_if ?_ ?_ ?_
          · exact tm_cmp (o_eq (room64 hr)) (em_var 1) (em_var 2)
          · exact em_int
          · refine em_ix ?_ ?_
            · exact em_ix (em_ix (em_var 0) (em_int)) (em_op o_sub (em_callB (c_max2 rfl) e.b_max rfl (am_cons (em_var 1) (am_cons (em_var 2) (am_nil)))) (em_int))
            · exact em_callB (c_min2 rfl) e.b_min rfl (am_cons (em_var 1) (am_cons (em_var 2) (am_nil))))
theorem sc__law_table : FnScope ["rows", "row"] ["rows"] (defScope st__law_table) := ⟨rfl, rfl, rfl, by decide +kernel, rfl, by decide +kernel, by decide +kernel⟩
theorem bp__law_table : BindP "_law_table" st__law_table ["rows"] := fun _ _ _ _ _ _ us hl => match us, hl with | [_], _ => rfl
theorem ok__law_table (e : Env K mg) : DefG P w K mg "_law_table" "_law_table" st__law_table ["rows"] 1 m__law_table := by
  exact defG_of (k := 0) e.f__law_table sc__law_table (fun f base cdv A outer s H E hr hgd => by
      have nd := sc__law_table.nd
      refine sms_one ?_
      · refine sm_ret ?_
        · refine em_tup ?_
          · refine am_cons ?_ ?_
            · exact em_str
            · refine am_cons ?_ ?_
              · refine em_callTy c_tuple e.b_tuple rfl ?_
                · refine am_cons ?_ ?_
                  · refine em_lc false id (fe_id rfl) (own := [("row", 1)]) rfl nd (blkOk_by (by kernel_rfl)) ?_ ?_ ?_ ?_
                    · exact im_seq (em_var 0)
                    · intro _ _ _ _ _
                      exact gm_name 1 nd
                    · intro _ _ _ _ _
                      exact tms_nil
                    · intro _ _ _ _ _
                      exact em_callTy c_tuple e.b_tuple rfl (am_cons (em_var 1) (am_nil))
                  · exact am_nil
              · exact am_nil)
theorem sc__law_closed : FnScope ["rows", "many", "told", "stop", "one", "town", "other"] ["rows"] (defScope st__law_closed) := ⟨rfl, rfl, rfl, by decide +kernel, rfl, by decide +kernel, by decide +kernel⟩
theorem bp__law_closed : BindP "_law_closed" st__law_closed ["rows"] := fun _ _ _ _ _ _ us hl => match us, hl with | [_], _ => rfl
theorem ok__law_closed (e : Env K mg) : DefG P w K mg "_law_closed" "_law_closed" st__law_closed ["rows"] 1 m__law_closed := by
  exact defG_of (k := 0) e.f__law_closed sc__law_closed (fun f base cdv A outer s H E hr hgd => by
      have nd := sc__law_closed.nd
      refine sms_cons ?_ ?_
      · exact sm_set 1 nd (em_op (o_add false) (em_callB c_len e.b_len rfl (am_cons (em_var 0) (am_nil))) (em_int))
      refine sms_cons ?_ ?_
      · refine sm_set 2 nd ?_
        · refine em_lc true id (fe_id rfl) (own := [("one", 4)]) rfl nd (blkOk_by (by kernel_rfl)) ?_ ?_ ?_ ?_
          · exact im_range1 e.b_range (am_cons (em_var 1) (am_nil))
          · intro _ _ _ _ _
            exact gm_name 4 nd
          · intro _ _ _ _ _
            exact tms_nil
          · intro _ _ _ _ _
            refine em_lc false id (fe_id rfl) (own := [("other", 6)]) rfl nd (blkOk_by (by kernel_rfl)) ?_ ?_ ?_ ?_
            · exact im_range1 e.b_range (am_cons (em_var 1) (am_nil))
            · intro _ _ _ _ _
              exact gm_name 6 nd
            · intro _ _ _ _ _
              exact tms_nil
            · intro _ _ _ _ _
              refine em_if ?_ ?_ ?_
              · exact tm_cmp (o_eq (room64 hr)) (em_var 4) (em_var 6)
              · exact em_int
              · refine em_ix ?_ ?_
                · exact em_ix (em_var 0) (em_op o_sub (em_callB (c_max2 rfl) e.b_max rfl (am_cons (em_var 4) (am_cons (em_var 6) (am_nil)))) (em_int))
                · exact em_callB (c_min2 rfl) e.b_min rfl (am_cons (em_var 4) (am_cons (em_var 6) (am_nil)))
      refine sms_cons ?_ ?_
      · refine sm_for [3] (passes_of rfl) rfl ?_ ?_ ?_
        · exact im_range1 e.b_range (am_cons (em_var 1) (am_nil))
        · exact gm_name 3 nd
        · refine sms_one ?_
          · refine sm_for [4] (passes_of rfl) rfl ?_ ?_ ?_
            · exact im_range1 e.b_range (am_cons (em_var 1) (am_nil))
            · exact gm_name 4 nd
            · refine sms_one ?_
              · refine sm_asg [] ?_ ?_
                · exact gm_sub (em_var 2) (em_var 4)
                · refine em_lc false id (fe_id rfl) (own := [("other", 6)]) rfl nd (blkOk_by (by kernel_rfl)) ?_ ?_ ?_ ?_
                  · exact im_range1 e.b_range (am_cons (em_var 1) (am_nil))
                  · intro _ _ _ _ _
                    exact gm_name 6 nd
                  · intro _ _ _ _ _
                    exact tms_nil
                  · intro _ _ _ _ _
                    refine em_callB (c_min2 rfl) e.b_min rfl ?_
                    · refine am_cons ?_ ?_
                      · exact em_ix (em_ix (em_var 2) (em_var 4)) (em_var 6)
                      · exact am_cons (em_op (o_add false) (em_ix (em_ix (em_var 2) (em_var 4)) (em_var 3)) (em_ix (em_ix (em_var 2) (em_var 3)) (em_var 6))) (am_nil)
      refine sms_one ?_
      · refine sm_ret ?_
        · refine em_lc false id (fe_id rfl) (own := [("town", 5)]) rfl nd (blkOk_by (by kernel_rfl)) ?_ ?_ ?_ ?_
          · exact im_range2 e.b_range (am_cons (em_int) (am_cons (em_var 1) (am_nil)))
          · intro _ _ _ _ _
            exact gm_name 5 nd
          · intro _ _ _ _ _
            exact tms_nil
          · intro _ _ _ _ _
            exact em_slice false (em_ix (em_var 2) (em_var 5)) (om_none) (om_some (em_var 5)))
theorem sc__law_tree_rows : FnScope ["pot", "many", "rows", "town", "one", "other", "much", "along", "stem", "row", "near", "first", "second"] ["pot", "many"] (defScope st__law_tree_rows) := ⟨rfl, rfl, rfl, by decide +kernel, rfl, by decide +kernel, by decide +kernel⟩
theorem bp__law_tree_rows : BindP "_law_tree_rows" st__law_tree_rows ["pot", "many"] := fun _ _ _ _ _ _ us hl => match us, hl with | [_, _], _ => rfl
theorem ok__law_tree_rows (e : Env K mg) : DefG P w K mg "_law_tree_rows" "_law_tree_rows" st__law_tree_rows ["pot", "many"] 2 m__law_tree_rows := by
  exact defG_of (k := 1) e.f__law_tree_rows sc__law_tree_rows (fun f base cdv A outer s H E hr hgd => by
      have nd := sc__law_tree_rows.nd
      refine sms_cons ?_ ?_
      · refine sm_set 2 nd ?_
        · refine em_lst true ?_
          · refine am_cons ?_ ?_
            · refine em_lst true ?_
              · exact am_cons (em_op (o_add false) (em_int) (em_callD 2 (ok__law_draw e) hr hgd takes_body bp__law_draw (am_cons (em_var 0) (am_cons (em_int) (am_nil))))) (am_nil)
            · exact am_nil
      refine sms_cons ?_ ?_
      · refine sm_for [3] (passes_of rfl) rfl ?_ ?_ ?_
        · exact im_range2 e.b_range (am_cons (em_int) (am_cons (em_var 1) (am_nil)))
        · exact gm_name 3 nd
        · refine sms_cons ?_ ?_
          · exact sm_set 4 nd (em_callD 2 (ok__law_draw e) hr hgd takes_body bp__law_draw (am_cons (em_var 0) (am_cons (em_op o_sub (em_var 3) (em_int)) (am_nil))))
          · refine sms_cons ?_ ?_
            · refine sm_set 5 nd ?_
              · refine em_op (o_add false) ?_ ?_
                · exact em_op (o_add false) (em_var 4) (em_int)
                · exact em_callD 2 (ok__law_draw e) hr hgd takes_body bp__law_draw (am_cons (em_var 0) (am_cons (em_op o_sub (em_op o_sub (em_var 3) (em_int)) (em_var 4)) (am_nil)))
            · refine sms_cons ?_ ?_
              · exact sm_set 6 nd (em_ix (em_ix (em_var 2) (em_op o_sub (em_var 5) (em_int))) (em_var 4))
              · refine sms_cons ?_ ?_
                · refine sm_par 7 8 rfl nd ?_
                  · refine am_cons ?_ ?_
                    · exact em_callD 2 (ok__law_draw e) hr hgd takes_body bp__law_draw (am_cons (em_var 0) (am_cons (em_op (o_add false) (em_var 6) (em_int)) (am_nil)))
                    · exact am_cons (em_callD 2 (ok__law_draw e) hr hgd takes_body bp__law_draw (am_cons (em_var 0) (am_cons (em_int) (am_nil)))) (am_nil)
                · refine sms_cons ?_ ?_
                  · exact sm_set 9 nd (em_lst true (am_nil))
                  · refine sms_cons ?_ ?_
                    · refine sm_for [10] (passes_of rfl) rfl ?_ ?_ ?_
                      · exact im_range1 e.b_range (am_cons (em_var 3) (am_nil))
                      · exact gm_name 10 nd
                      · refine sms_cons ?_ ?_
                        · refine sm_set 11 nd ?_
                          · refine em_if ?_ ?_ ?_
                            · exact tm_cmp (o_eq (room64 hr)) (em_var 10) (em_var 4)
                            · exact em_int
                            · refine em_ix ?_ ?_
                              · exact em_ix (em_var 2) (em_op o_sub (em_callB (c_max2 rfl) e.b_max rfl (am_cons (em_var 10) (am_cons (em_var 4) (am_nil)))) (em_int))
                              · exact em_callB (c_min2 rfl) e.b_min rfl (am_cons (em_var 10) (am_cons (em_var 4) (am_nil)))
                        · refine sms_cons ?_ ?_
                          · refine sm_set 12 nd ?_
                            · refine em_if ?_ ?_ ?_
                              · exact tm_cmp (o_eq (room64 hr)) (em_var 10) (em_var 5)
                              · exact em_int
                              · refine em_ix ?_ ?_
                                · exact em_ix (em_var 2) (em_op o_sub (em_callB (c_max2 rfl) e.b_max rfl (am_cons (em_var 10) (am_cons (em_var 5) (am_nil)))) (em_int))
                                · exact em_callB (c_min2 rfl) e.b_min rfl (am_cons (em_var 10) (am_cons (em_var 5) (am_nil)))
                          · refine sms_one ?_
                            · refine sm_expr ?_
                              · refine em_bm isSeq_ty PySem.F.plainAttrs_list PySem.F.slot_list_append PySem.F.type_list_append m_append ?_ ?_
                                · exact em_var 9
                                · refine am_cons ?_ ?_
                                  · refine em_op (o_add false) ?_ ?_
                                    · exact em_var 8
                                    · exact em_callB (c_max2 rfl) e.b_max rfl (am_cons (em_op o_sub (em_var 11) (em_var 7)) (am_cons (em_op o_sub (em_var 12) (em_op o_sub (em_var 6) (em_var 7))) (am_nil)))
                                  · exact am_nil
                    · exact sms_one (sm_expr (em_bm isSeq_ty PySem.F.plainAttrs_list PySem.F.slot_list_append PySem.F.type_list_append m_append (em_var 2) (am_cons (em_var 9) (am_nil))))
      exact sms_one (sm_ret (em_var 2)))
theorem sc__law_metric : FnScope ["pot", "most", "wrong", "many", "rows", "step", "town", "near"] ["pot", "most", "wrong"] (defScope st__law_metric) := ⟨rfl, rfl, rfl, by decide +kernel, rfl, by decide +kernel, by decide +kernel⟩
theorem bp__law_metric : BindP "_law_metric" st__law_metric ["pot", "most", "wrong"] := fun _ _ _ _ _ _ us hl => match us, hl with | [_, _, _], _ => rfl
theorem ok__law_metric (e : Env K mg) : DefG P w K mg "_law_metric" "_law_metric" st__law_metric ["pot", "most", "wrong"] 3 m__law_metric := by
  exact defG_of (k := 2) e.f__law_metric sc__law_metric (fun f base cdv A outer s H E hr hgd => by
      have nd := sc__law_metric.nd
      refine sms_cons ?_ ?_
      · refine sm_set 3 nd ?_
        · exact em_op (o_add false) (em_int) (em_callD 2 (ok__law_draw e) hr hgd takes_body bp__law_draw (am_cons (em_var 0) (am_cons (em_op o_sub (em_var 1) (em_int)) (am_nil))))
      refine sms_cons ?_ ?_
      · exact sm_set 4 nd (em_callD 2 (ok__law_tree_rows e) hr hgd takes_body bp__law_tree_rows (am_cons (em_var 0) (am_cons (em_var 3) (am_nil))))
      refine sms_cons ?_ ?_
      · refine sm_for [5] (passes_of rfl) rfl ?_ ?_ ?_
        · refine im_range1 e.b_range ?_
          · exact am_cons (em_callD 2 (ok__law_draw e) hr hgd takes_body bp__law_draw (am_cons (em_var 0) (am_cons (em_op (o_add false) (em_var 2) (em_int)) (am_nil)))) (am_nil)
        · exact gm_name 5 nd
        · refine sms_cons ?_ ?_
          · refine sm_set 6 nd ?_
            · exact em_op (o_add false) (em_int) (em_callD 2 (ok__law_draw e) hr hgd takes_body bp__law_draw (am_cons (em_var 0) (am_cons (em_op o_sub (em_var 3) (em_int)) (am_nil))))
          · refine sms_cons ?_ ?_
            · exact sm_set 7 nd (em_callD 2 (ok__law_draw e) hr hgd takes_body bp__law_draw (am_cons (em_var 0) (am_cons (em_var 6) (am_nil))))
            · refine sms_one ?_
              · refine sm_asg [] ?_ ?_
                · exact gm_sub (em_ix (em_var 4) (em_op o_sub (em_var 6) (em_int))) (em_var 7)
                · exact em_op (o_add false) (em_int) (em_callD 2 (ok__law_draw e) hr hgd takes_body bp__law_draw (am_cons (em_var 0) (am_cons (em_int) (am_nil))))
      refine sms_one ?_
      · refine sm_ret ?_
        · refine em_callD 1 (ok__law_table e) hr hgd takes_body bp__law_table ?_
          · exact am_cons (em_callD 1 (ok__law_closed e) hr hgd takes_body bp__law_closed (am_cons (em_var 4) (am_nil))) (am_nil))
theorem sc__law_fours : FnScope ["towns", "found", "town", "lot"] ["towns"] (defScope st__law_fours) := ⟨rfl, rfl, rfl, by decide +kernel, rfl, by decide +kernel, by decide +kernel⟩
theorem bp__law_fours : BindP "_law_fours" st__law_fours ["towns"] := fun _ _ _ _ _ _ us hl => match us, hl with | [_], _ => rfl
theorem ok__law_fours (e : Env K mg) : DefG P w K mg "_law_fours" "_law_fours" st__law_fours ["towns"] 1 m__law_fours := by
  exact defG_of (k := 0) e.f__law_fours sc__law_fours (fun f base cdv A outer s H E hr hgd => by
      have nd := sc__law_fours.nd
      refine sms_cons ?_ ?_
      · exact sm_set 1 nd (em_lst false (am_cons (em_tup (am_nil)) (am_nil)))
      refine sms_cons ?_ ?_
      · refine sm_for [2] (passes_of rfl) rfl ?_ ?_ ?_
        · exact im_seq (em_var 0)
        · exact gm_name 2 nd
        · refine sms_one ?_
          · refine sm_set 1 nd ?_
            · refine em_op (o_add false) ?_ ?_
              · exact em_var 1
              · refine em_lc false id (fe_id rfl) (own := [("lot", 3)]) rfl nd (blkOk_by (by kernel_rfl)) ?_ ?_ ?_ ?_
                · exact im_seq (em_var 1)
                · intro _ _ _ _ _
                  exact gm_name 3 nd
                · intro _ _ _ _ _
                  exact tms_one (tm_cmp o_lt (em_callB c_len e.b_len rfl (am_cons (em_var 3) (am_nil))) (em_int))
                · intro _ _ _ _ _
                  exact em_op (o_add false) (em_var 3) (em_tup (am_cons (em_var 2) (am_nil)))
      refine sms_one ?_
      · refine sm_ret ?_
        · refine em_callB (c_sorted false (room64 hr)) e.b_sorted rfl ?_
          · refine am_cons ?_ ?_
            · refine em_lc false id (fe_id rfl) (own := [("lot", 3)]) rfl nd (blkOk_by (by kernel_rfl)) ?_ ?_ ?_ ?_
              · exact im_seq (em_var 1)
              · intro _ _ _ _ _
                exact gm_name 3 nd
              · intro _ _ _ _ _
                exact tms_one (tm_cmp (o_eq (room64 hr)) (em_callB c_len e.b_len rfl (am_cons (em_var 3) (am_nil))) (em_int))
              · intro _ _ _ _ _
                exact em_var 3
            · exact am_nil)
theorem sc__law_sums : FnScope ["table", "four", "a", "b", "c", "d"] ["table", "four"] (defScope st__law_sums) := ⟨rfl, rfl, rfl, by decide +kernel, rfl, by decide +kernel, by decide +kernel⟩
theorem bp__law_sums : BindP "_law_sums" st__law_sums ["table", "four"] := fun _ _ _ _ _ _ us hl => match us, hl with | [_, _], _ => rfl
theorem ok__law_sums (e : Env K mg) : DefG P w K mg "_law_sums" "_law_sums" st__law_sums ["table", "four"] 2 m__law_sums := by
  exact defG_of (k := 1) e.f__law_sums sc__law_sums (fun f base cdv A outer s H E hr hgd => by
      have nd := sc__law_sums.nd
      refine sms_cons ?_ ?_
      · exact sm_asg [2, 3, 4, 5] (gm_tup rfl (gms_cons (gm_name 2 nd) (gms_cons (gm_name 3 nd) (gms_cons (gm_name 4 nd) (gms_cons (gm_name 5 nd) (gms_nil)))))) (em_var 1)
      refine sms_one ?_
      · refine sm_ret ?_
        · refine em_lst false ?_
          · refine am_cons ?_ ?_
            · refine em_op (o_add false) ?_ ?_
              · exact em_callD 3 (ok__law_far e) hr hgd takes_body bp__law_far (am_cons (em_var 0) (am_cons (em_var 2) (am_cons (em_var 3) (am_nil))))
              · exact em_callD 3 (ok__law_far e) hr hgd takes_body bp__law_far (am_cons (em_var 0) (am_cons (em_var 4) (am_cons (em_var 5) (am_nil))))
            · refine am_cons ?_ ?_
              · refine em_op (o_add false) ?_ ?_
                · exact em_callD 3 (ok__law_far e) hr hgd takes_body bp__law_far (am_cons (em_var 0) (am_cons (em_var 2) (am_cons (em_var 4) (am_nil))))
                · exact em_callD 3 (ok__law_far e) hr hgd takes_body bp__law_far (am_cons (em_var 0) (am_cons (em_var 3) (am_cons (em_var 5) (am_nil))))
              · refine am_cons ?_ ?_
                · refine em_op (o_add false) ?_ ?_
                  · exact em_callD 3 (ok__law_far e) hr hgd takes_body bp__law_far (am_cons (em_var 0) (am_cons (em_var 2) (am_cons (em_var 5) (am_nil))))
                  · exact em_callD 3 (ok__law_far e) hr hgd takes_body bp__law_far (am_cons (em_var 0) (am_cons (em_var 3) (am_cons (em_var 4) (am_nil))))
                · exact am_nil)
theorem sc__law_bad : FnScope ["table", "found", "four", "rising"] ["table"] (defScope st__law_bad) := ⟨rfl, rfl, rfl, by decide +kernel, rfl, by decide +kernel, by decide +kernel⟩
theorem bp__law_bad : BindP "_law_bad" st__law_bad ["table"] := fun _ _ _ _ _ _ us hl => match us, hl with | [_], _ => rfl
theorem ok__law_bad (e : Env K mg) : DefG P w K mg "_law_bad" "_law_bad" st__law_bad ["table"] 3 m__law_bad := by
  exact defG_of (k := 2) e.f__law_bad sc__law_bad (fun f base cdv A outer s H E hr hgd => by
      have nd := sc__law_bad.nd
      refine sms_cons ?_ ?_
      · exact sm_set 1 nd (em_lst true (am_nil))
      refine sms_cons ?_ ?_
      · refine sm_for [2] (passes_of rfl) rfl ?_ ?_ ?_
        · refine im_seq ?_
          · refine em_callD 1 (ok__law_fours e) hr hgd takes_body bp__law_fours ?_
            · exact am_cons (em_listR1 false e.b_list e.b_range (em_op (o_add false) (em_callB c_len e.b_len rfl (am_cons (em_ix (em_var 0) (em_int)) (am_nil))) (em_int)) rfl) (am_nil)
        · exact gm_name 2 nd
        · refine sms_cons ?_ ?_
          · refine sm_set 3 nd ?_
            · refine em_callB (c_sorted false (room64 hr)) e.b_sorted rfl ?_
              · exact am_cons (em_callD 2 (ok__law_sums e) hr hgd takes_body bp__law_sums (am_cons (em_var 0) (am_cons (em_var 2) (am_nil)))) (am_nil)
          · refine sms_one ?_
            · refine sm_expr ?_
              · refine em_bm isSeq_ty PySem.F.plainAttrs_list PySem.F.slot_list_extend PySem.F.type_list_extend m_extend ?_ ?_
                · exact em_var 1
                · exact am_cons (em_if (tm_cmp o_lt (em_ix (em_var 3) (em_int)) (em_ix (em_var 3) (em_int))) (em_lst false (am_cons (em_var 2) (am_nil))) (em_lst false (am_nil))) (am_nil)
      exact sms_one (sm_ret (em_var 1)))
theorem sc__law_lots : FnScope ["towns", "found", "town", "many", "lot"] ["towns"] (defScope st__law_lots) := ⟨rfl, rfl, rfl, by decide +kernel, rfl, by decide +kernel, by decide +kernel⟩
theorem bp__law_lots : BindP "_law_lots" st__law_lots ["towns"] := fun _ _ _ _ _ _ us hl => match us, hl with | [_], _ => rfl
theorem ok__law_lots (e : Env K mg) : DefG P w K mg "_law_lots" "_law_lots" st__law_lots ["towns"] 1 m__law_lots := by
  exact defG_of (k := 0) e.f__law_lots sc__law_lots (fun f base cdv A outer s H E hr hgd => by
      have nd := sc__law_lots.nd
      refine sms_cons ?_ ?_
      · exact sm_set 1 nd (em_lst false (am_cons (em_tup (am_nil)) (am_nil)))
      refine sms_cons ?_ ?_
      · refine sm_for [2] (passes_of rfl) rfl ?_ ?_ ?_
        · exact im_seq (em_var 0)
        · exact gm_name 2 nd
        · refine sms_one ?_
          · refine sm_set 1 nd ?_
            · refine em_op (o_add false) ?_ ?_
              · exact em_var 1
              · refine em_lc false id (fe_id rfl) (own := [("lot", 4)]) rfl nd (blkOk_by (by kernel_rfl)) ?_ ?_ ?_ ?_
                · exact im_seq (em_var 1)
                · intro _ _ _ _ _
                  exact gm_name 4 nd
                · intro _ _ _ _ _
                  exact tms_nil
                · intro _ _ _ _ _
                  exact em_op (o_add false) (em_var 4) (em_tup (am_cons (em_var 2) (am_nil)))
      refine sms_one ?_
      · refine sm_ret ?_
        · refine em_lc false id (fe_id rfl) (own := [("many", 3), ("lot", 4)]) rfl nd (blkOk_by (by kernel_rfl)) ?_ ?_ ?_ ?_
          · refine im_seq ?_
            · refine em_callB (c_sorted false (room64 hr)) e.b_sorted rfl ?_
              · refine am_cons ?_ ?_
                · refine em_lc false id (fe_id rfl) (own := [("lot", 4)]) rfl nd (blkOk_by (by kernel_rfl)) ?_ ?_ ?_ ?_
                  · exact im_seq (em_var 1)
                  · intro _ _ _ _ _
                    exact gm_name 4 nd
                  · intro _ _ _ _ _
                    exact tms_nil
                  · intro _ _ _ _ _
                    exact em_tup (am_cons (em_callB c_len e.b_len rfl (am_cons (em_var 4) (am_nil))) (am_cons (em_var 4) (am_nil)))
                · exact am_nil
          · intro _ _ _ _ _
            exact gm_tup rfl (gms_cons (gm_name 3 nd) (gms_cons (gm_name 4 nd) (gms_nil)))
          · intro _ _ _ _ _
            exact tms_nil
          · intro _ _ _ _ _
            exact em_var 4)
theorem sc__law_meets : FnScope ["lot", "four", "town"] ["lot", "four"] (defScope st__law_meets) := ⟨rfl, rfl, rfl, by decide +kernel, rfl, by decide +kernel, by decide +kernel⟩
theorem bp__law_meets : BindP "_law_meets" st__law_meets ["lot", "four"] := fun _ _ _ _ _ _ us hl => match us, hl with | [_, _], _ => rfl
theorem ok__law_meets (e : Env K mg) : DefG P w K mg "_law_meets" "_law_meets" st__law_meets ["lot", "four"] 1 m__law_meets := by
  exact defG_of (k := 0) e.f__law_meets sc__law_meets (fun f base cdv A outer s H E hr hgd => by
      have nd := sc__law_meets.nd
      refine sms_one ?_
      · refine sm_ret ?_
        · refine em_callB (c_any rfl) e.b_any rfl ?_
          · refine am_cons ?_ ?_
            · refine em_lc false id (fe_id rfl) (own := [("town", 2)]) rfl nd (blkOk_by (by kernel_rfl)) ?_ ?_ ?_ ?_
              · exact im_seq (em_var 1)
              · intro _ _ _ _ _
                exact gm_name 2 nd
              · intro _ _ _ _ _
                exact tms_nil
              · intro _ _ _ _ _
                exact em_cmp (o_in (room65 hr)) (em_var 2) (em_var 0)
            · exact am_nil)
theorem sc__law_cures : FnScope ["bad", "towns", "lot", "four"] ["bad", "towns"] (defScope st__law_cures) := ⟨rfl, rfl, rfl, by decide +kernel, rfl, by decide +kernel, by decide +kernel⟩
theorem bp__law_cures : BindP "_law_cures" st__law_cures ["bad", "towns"] := fun _ _ _ _ _ _ us hl => match us, hl with | [_, _], _ => rfl
theorem ok__law_cures (e : Env K mg) : DefG P w K mg "_law_cures" "_law_cures" st__law_cures ["bad", "towns"] 2 m__law_cures := by
  exact defG_of (k := 1) e.f__law_cures sc__law_cures (fun f base cdv A outer s H E hr hgd => by
      have nd := sc__law_cures.nd
      refine sms_one ?_
      · refine sm_ret ?_
        · refine em_lc false id (fe_id rfl) (own := [("lot", 2)]) rfl nd (blkOk_by (by kernel_rfl)) ?_ ?_ ?_ ?_
          · exact im_seq (em_callD 1 (ok__law_lots e) hr hgd takes_body bp__law_lots (am_cons (em_var 1) (am_nil)))
          · intro _ _ _ _ _
            exact gm_name 2 nd
          · intro _ _ _ _ _
            refine tms_one ?_
            · refine tm_val ?_
              · refine em_callB (c_all rfl) e.b_all rfl ?_
                · refine am_cons ?_ ?_
                  · refine em_lc false id (fe_id rfl) (own := [("four", 3)]) rfl nd (blkOk_by (by kernel_rfl)) ?_ ?_ ?_ ?_
                    · exact im_seq (em_var 0)
                    · intro _ _ _ _ _
                      exact gm_name 3 nd
                    · intro _ _ _ _ _
                      exact tms_nil
                    · intro _ _ _ _ _
                      exact em_callD 2 (ok__law_meets e) hr hgd takes_W0 bp__law_meets (am_cons (em_var 2) (am_cons (em_var 3) (am_nil)))
                  · exact am_nil
          · intro _ _ _ _ _
            exact em_var 2)
theorem sc__law_among : FnScope ["cures_v", "lot", "some", "one", "town"] ["cures_v", "lot"] (defScope st__law_among) := ⟨rfl, rfl, rfl, by decide +kernel, rfl, by decide +kernel, by decide +kernel⟩
theorem bp__law_among : BindP "_law_among" st__law_among ["cures_v", "lot"] := fun _ _ _ _ _ _ us hl => match us, hl with | [_, _], _ => rfl
theorem ok__law_among (e : Env K mg) : DefG P w K mg "_law_among" "_law_among" st__law_among ["cures_v", "lot"] 1 m__law_among := by
  exact defG_of (k := 0) e.f__law_among sc__law_among (fun f base cdv A outer s H E hr hgd => by
      have nd := sc__law_among.nd
      refine sms_cons ?_ ?_
      · refine sm_setLc false id (fe_id rfl) 2 (own := [("one", 3)]) rfl nd (blkOk_by (by kernel_rfl)) ?_ ?_ ?_ ?_ (sw_true rfl rfl rfl (by decide +kernel))
        · exact im_seq (em_var 0)
        · intro _ _ _ _ _
          exact gm_name 3 nd
        · intro _ _ _ _ _
          refine tms_one ?_
          · refine tm_val ?_
            · refine em_callB (c_all rfl) e.b_all rfl ?_
              · refine am_cons ?_ ?_
                · refine em_lc false id (fe_id rfl) (own := [("town", 4)]) rfl nd (blkOk_by (by kernel_rfl)) ?_ ?_ ?_ ?_
                  · exact im_seq (em_var 3)
                  · intro _ _ _ _ _
                    exact gm_name 4 nd
                  · intro _ _ _ _ _
                    exact tms_nil
                  · intro _ _ _ _ _
                    exact em_cmp (o_in (room65 hr)) (em_var 4) (em_var 1)
                · exact am_nil
        · intro _ _ _ _ _
          exact em_var 3
      exact sms_one (sm_ret (em_if (tm_cmp (o_ne (room64 hr)) (em_var 2) (em_lst false (am_nil))) (em_ix (em_var 2) (em_int)) (em_non))))
theorem sc__law_need : FnScope ["bad", "many", "town", "others", "some", "one", "lot", "four"] ["bad", "many", "town"] (defScope st__law_need) := ⟨rfl, rfl, rfl, by decide +kernel, rfl, by decide +kernel, by decide +kernel⟩
theorem bp__law_need : BindP "_law_need" st__law_need ["bad", "many", "town"] := fun _ _ _ _ _ _ us hl => match us, hl with | [_, _, _], _ => rfl
theorem ok__law_need (e : Env K mg) : DefG P w K mg "_law_need" "_law_need" st__law_need ["bad", "many", "town"] 2 m__law_need := by
  exact defG_of (k := 1) e.f__law_need sc__law_need (fun f base cdv A outer s H E hr hgd => by
      have nd := sc__law_need.nd
      refine sms_cons ?_ ?_
      · refine sm_if ?_ ?_ ?_
        · refine tm_val ?_
          · refine em_callB (c_any rfl) e.b_any rfl ?_
            · refine am_cons ?_ ?_
              · refine em_lc false id (fe_id rfl) (own := [("four", 7)]) rfl nd (blkOk_by (by kernel_rfl)) ?_ ?_ ?_ ?_
                · exact im_seq (em_var 0)
                · intro _ _ _ _ _
                  exact gm_name 7 nd
                · intro _ _ _ _ _
                  exact tms_nil
                · intro _ _ _ _ _
                  exact em_cmp (o_nin (room65 hr)) (em_var 2) (em_var 7)
              · exact am_nil
        · exact sms_one (sm_ret (em_non))
        · exact sms_nil
      refine sms_cons ?_ ?_
      · refine sm_setLc false id (fe_id rfl) 3 (own := [("one", 5)]) rfl nd (blkOk_by (by kernel_rfl)) ?_ ?_ ?_ ?_ (sw_true rfl rfl rfl (by decide +kernel))
        · exact im_range1 e.b_range (am_cons (em_var 1) (am_nil))
        · intro _ _ _ _ _
          exact gm_name 5 nd
        · intro _ _ _ _ _
          exact tms_one (tm_cmp (o_ne (room64 hr)) (em_var 5) (em_var 2))
        · intro _ _ _ _ _
          exact em_var 5
      refine sms_cons ?_ ?_
      · refine sm_setLc false id (fe_id rfl) 4 (own := [("lot", 6)]) rfl nd (blkOk_by (by kernel_rfl)) ?_ ?_ ?_ ?_ (sw_true rfl rfl rfl (by decide +kernel))
        · exact im_seq (em_callD 1 (ok__law_lots e) hr hgd takes_body bp__law_lots (am_cons (em_var 3) (am_nil)))
        · intro _ _ _ _ _
          exact gm_name 6 nd
        · intro _ _ _ _ _
          refine tms_one ?_
          · refine tm_val ?_
            · refine em_callB (c_all rfl) e.b_all rfl ?_
              · refine am_cons ?_ ?_
                · refine em_lc false id (fe_id rfl) (own := [("four", 7)]) rfl nd (blkOk_by (by kernel_rfl)) ?_ ?_ ?_ ?_
                  · exact im_seq (em_var 0)
                  · intro _ _ _ _ _
                    exact gm_name 7 nd
                  · intro _ _ _ _ _
                    exact tms_nil
                  · intro _ _ _ _ _
                    exact em_callD 2 (ok__law_meets e) hr hgd takes_W0 bp__law_meets (am_cons (em_var 6) (am_cons (em_var 7) (am_nil)))
                · exact am_nil
        · intro _ _ _ _ _
          exact em_var 6
      exact sms_one (sm_ret (em_callB c_len e.b_len rfl (am_cons (em_ix (em_var 4) (em_int)) (am_nil)))))
theorem sc__law_right : FnScope ["pot", "table", "shown", "many", "bad", "towns", "cures_v", "best", "sure", "free", "rest", "told", "alone", "blame", "step", "lot", "due", "town", "much", "some", "ways", "own", "four", "one"] ["pot"] (defScope st__law_right) := ⟨rfl, rfl, rfl, by decide +kernel, rfl, by decide +kernel, by decide +kernel⟩
theorem bp__law_right : BindP "_law_right" st__law_right ["pot"] := fun _ _ _ _ _ _ us hl => match us, hl with | [_], _ => rfl
theorem ok__law_right (e : Env K mg) : DefG P w K mg "_law_right" "_law_right" st__law_right ["pot"] 10 m__law_right := by
  exact defG_of (k := 9) e.f__law_right sc__law_right (fun f base cdv A outer s H E hr hgd => by
      have nd := sc__law_right.nd
      refine sms_cons ?_ ?_
      · exact sm_set 1 nd (em_callD 3 (ok__law_metric e) hr hgd takes_body bp__law_metric (am_cons (em_var 0) (am_cons (em_int) (am_cons (em_int) (am_nil)))))
      refine sms_cons ?_ ?_
      · refine sm_asg [2, 3, 4] ?_ ?_
        · exact gm_tup rfl (gms_cons (gm_name 2 nd) (gms_cons (gm_name 3 nd) (gms_cons (gm_name 4 nd) (gms_nil))))
        · refine em_tup ?_
          · refine am_cons ?_ ?_
            · exact em_callB (c_repr hgd (room64 hr)) e.b_repr rfl (am_cons (em_var 1) (am_nil))
            · refine am_cons ?_ ?_
              · exact em_op (o_add false) (em_callB c_len e.b_len rfl (am_cons (em_ix (em_var 1) (em_int)) (am_nil))) (em_int)
              · exact am_cons (em_callD 1 (ok__law_bad e) hr hgd takes_body bp__law_bad (am_cons (em_var 1) (am_nil))) (am_nil)
      refine sms_cons ?_ ?_
      · exact sm_set 5 nd (em_listR1 false e.b_list e.b_range (em_var 3) rfl)
      refine sms_cons ?_ ?_
      · exact sm_set 6 nd (em_callD 2 (ok__law_cures e) hr hgd takes_body bp__law_cures (am_cons (em_var 4) (am_cons (em_var 5) (am_nil))))
      refine sms_cons ?_ ?_
      · refine sm_set 7 nd ?_
        · refine em_lc false id (fe_id rfl) (own := [("lot", 15)]) rfl nd (blkOk_by (by kernel_rfl)) ?_ ?_ ?_ ?_
          · exact im_seq (em_var 6)
          · intro _ _ _ _ _
            exact gm_name 15 nd
          · intro _ _ _ _ _
            refine tms_one ?_
            · exact tm_cmp (o_eq (room64 hr)) (em_callB c_len e.b_len rfl (am_cons (em_var 15) (am_nil))) (em_callB c_len e.b_len rfl (am_cons (em_ix (em_var 6) (em_int)) (am_nil)))
          · intro _ _ _ _ _
            exact em_var 15
      refine sms_cons ?_ ?_
      · refine sm_set 8 nd ?_
        · refine em_callTy c_tuple e.b_tuple rfl ?_
          · refine am_cons ?_ ?_
            · refine em_lc false id (fe_id rfl) (own := [("town", 17)]) rfl nd (blkOk_by (by kernel_rfl)) ?_ ?_ ?_ ?_
              · exact im_seq (em_var 5)
              · intro _ _ _ _ _
                exact gm_name 17 nd
              · intro _ _ _ _ _
                refine tms_one ?_
                · refine tm_val ?_
                  · refine em_callB (c_all rfl) e.b_all rfl ?_
                    · refine am_cons ?_ ?_
                      · refine em_lc false id (fe_id rfl) (own := [("lot", 15)]) rfl nd (blkOk_by (by kernel_rfl)) ?_ ?_ ?_ ?_
                        · exact im_seq (em_var 7)
                        · intro _ _ _ _ _
                          exact gm_name 15 nd
                        · intro _ _ _ _ _
                          exact tms_nil
                        · intro _ _ _ _ _
                          exact em_cmp (o_in (room65 hr)) (em_var 17) (em_var 15)
                      · exact am_nil
              · intro _ _ _ _ _
                exact em_var 17
            · exact am_nil
      refine sms_cons ?_ ?_
      · refine sm_set 9 nd ?_
        · refine em_callTy c_tuple e.b_tuple rfl ?_
          · refine am_cons ?_ ?_
            · refine em_lc false id (fe_id rfl) (own := [("town", 17)]) rfl nd (blkOk_by (by kernel_rfl)) ?_ ?_ ?_ ?_
              · exact im_seq (em_var 5)
              · intro _ _ _ _ _
                exact gm_name 17 nd
              · intro _ _ _ _ _
                refine tms_one ?_
                · refine tm_not ?_
                  · refine tm_val ?_
                    · refine em_callB (c_any rfl) e.b_any rfl ?_
                      · refine am_cons ?_ ?_
                        · refine em_lc false id (fe_id rfl) (own := [("lot", 15)]) rfl nd (blkOk_by (by kernel_rfl)) ?_ ?_ ?_ ?_
                          · exact im_seq (em_var 7)
                          · intro _ _ _ _ _
                            exact gm_name 15 nd
                          · intro _ _ _ _ _
                            exact tms_nil
                          · intro _ _ _ _ _
                            exact em_cmp (o_in (room65 hr)) (em_var 17) (em_var 15)
                        · exact am_nil
              · intro _ _ _ _ _
                exact em_var 17
            · exact am_nil
      refine sms_cons ?_ ?_
      · refine sm_set 10 nd ?_
        · refine em_callTy c_tuple e.b_tuple rfl ?_
          · refine am_cons ?_ ?_
            · refine em_lc false id (fe_id rfl) (own := [("town", 17)]) rfl nd (blkOk_by (by kernel_rfl)) ?_ ?_ ?_ ?_
              · exact im_seq (em_var 5)
              · intro _ _ _ _ _
                exact gm_name 17 nd
              · intro _ _ _ _ _
                exact tms_one (tm_cmp (o_nin (room65 hr)) (em_var 17) (em_op (o_add false) (em_var 8) (em_var 9)))
              · intro _ _ _ _ _
                exact em_var 17
            · exact am_nil
      refine sms_cons ?_ ?_
      · refine sm_set 11 nd ?_
        · refine em_lst false ?_
          · refine am_cons ?_ ?_
            · exact em_callD 1 (ok_suspects e) hr hgd takes_body bp_suspects (am_cons (em_var 1) (am_nil))
            · refine am_cons ?_ ?_
              · exact em_callD 1 (ok_trusted e) hr hgd takes_body bp_trusted (am_cons (em_var 1) (am_nil))
              · refine am_cons ?_ ?_
                · exact em_callD 1 (ok_open_towns e) hr hgd takes_body bp_open_towns (am_cons (em_var 1) (am_nil))
                · refine am_cons ?_ ?_
                  · refine em_callDK0 (ks := ["table"]) [0] (ok_suspects e) hr hgd takes_body (fun _ _ _ _ _ _ us ws h1 h2 => match us, ws, h1, h2 with | [], [_], _, _ => rfl) ?_
                    · exact km_cons (em_var 1) (km_nil)
                  · refine am_cons ?_ ?_
                    · refine em_callDK0 (ks := ["table"]) [0] (ok_trusted e) hr hgd takes_body (fun _ _ _ _ _ _ us ws h1 h2 => match us, ws, h1, h2 with | [], [_], _, _ => rfl) ?_
                      · exact km_cons (em_var 1) (km_nil)
                    · refine am_cons ?_ ?_
                      · refine em_callDK0 (ks := ["table"]) [0] (ok_open_towns e) hr hgd takes_body (fun _ _ _ _ _ _ us ws h1 h2 => match us, ws, h1, h2 with | [], [_], _, _ => rfl) ?_
                        · exact km_cons (em_var 1) (km_nil)
                      · exact am_nil
      refine sms_cons ?_ ?_
      · refine sm_if ?_ ?_ ?_
        · refine tm_not ?_
          · refine tm_val ?_
            · refine em_callD 2 (ok__law_same e) hr hgd takes_body bp__law_same ?_
              · exact am_cons (em_var 11) (am_cons (em_op (o_mul false) (em_lst false (am_cons (em_var 8) (am_cons (em_var 9) (am_cons (em_var 10) (am_nil))))) (em_int)) (am_nil))
        · exact sms_one (sm_ret (em_bl))
        · exact sms_nil
      refine sms_cons ?_ ?_
      · refine sm_setLc false id (fe_id rfl) 12 (own := [("town", 17)]) rfl nd (blkOk_by (by kernel_rfl)) ?_ ?_ ?_ ?_ (sw_true rfl rfl rfl (by decide +kernel))
        · exact im_seq (em_var 5)
        · intro _ _ _ _ _
          exact gm_name 17 nd
        · intro _ _ _ _ _
          refine tms_one ?_
          · exact tm_w (wm_and (tm_cmp (o_ne (room64 hr)) (em_var 4) (em_lst false (am_nil))) (wm_and1 (tm_cmp (o_in (room65 hr)) (em_tup (am_cons (em_var 17) (am_nil))) (em_var 6))))
        · intro _ _ _ _ _
          exact em_var 17
      refine sms_cons ?_ ?_
      · refine sm_setLc false id (fe_id rfl) 13 (own := [("town", 17)]) rfl nd (blkOk_by (by kernel_rfl)) ?_ ?_ ?_ ?_ (sw_true rfl rfl rfl (by decide +kernel))
        · exact im_seq (em_var 5)
        · intro _ _ _ _ _
          exact gm_name 17 nd
        · intro _ _ _ _ _
          exact tms_nil
        · intro _ _ _ _ _
          refine em_callB c_len e.b_len rfl ?_
          · refine am_cons ?_ ?_
            · refine em_lc false id (fe_id rfl) (own := [("four", 22)]) rfl nd (blkOk_by (by kernel_rfl)) ?_ ?_ ?_ ?_
              · exact im_seq (em_var 4)
              · intro _ _ _ _ _
                exact gm_name 22 nd
              · intro _ _ _ _ _
                exact tms_one (tm_cmp (o_in (room65 hr)) (em_var 17) (em_var 22))
              · intro _ _ _ _ _
                exact em_var 22
            · exact am_nil
      refine sms_cons ?_ ?_
      · refine sm_if ?_ ?_ ?_
        · refine tm_not ?_
          · refine tm_val ?_
            · refine em_callD 2 (ok__law_same e) hr hgd takes_body bp__law_same ?_
              · refine am_cons ?_ ?_
                · refine em_lst false ?_
                  · refine am_cons ?_ ?_
                    · exact em_callD 1 (ok_spoilers e) hr hgd takes_body bp_spoilers (am_cons (em_var 1) (am_nil))
                    · refine am_cons ?_ ?_
                      · exact em_callD 1 (ok_blames e) hr hgd takes_body bp_blames (am_cons (em_var 1) (am_nil))
                      · refine am_cons ?_ ?_
                        · refine em_callDK0 (ks := ["table"]) [0] (ok_spoilers e) hr hgd takes_body (fun _ _ _ _ _ _ us ws h1 h2 => match us, ws, h1, h2 with | [], [_], _, _ => rfl) ?_
                          · exact km_cons (em_var 1) (km_nil)
                        · refine am_cons ?_ ?_
                          · refine em_callDK0 (ks := ["table"]) [0] (ok_blames e) hr hgd takes_body (fun _ _ _ _ _ _ us ws h1 h2 => match us, ws, h1, h2 with | [], [_], _, _ => rfl) ?_
                            · exact km_cons (em_var 1) (km_nil)
                          · exact am_nil
                · exact am_cons (em_lst false (am_cons (em_var 12) (am_cons (em_var 13) (am_cons (em_var 12) (am_cons (em_var 13) (am_nil)))))) (am_nil)
        · exact sms_one (sm_ret (em_bl))
        · exact sms_nil
      refine sms_cons ?_ ?_
      · refine sm_if ?_ ?_ ?_
        · refine tm_w ?_
          · refine wm_or ?_ ?_
            · refine tm_cmp (o_ne (room64 hr)) ?_ ?_
              · exact em_callB (c_sum rfl) e.b_sum rfl (am_cons (em_var 13) (am_nil))
              · exact em_op (o_mul false) (em_int) (em_callB c_len e.b_len rfl (am_cons (em_var 4) (am_nil)))
            · exact wm_or1 (tm_w (wm_and (tm_cmp (o_in (room65 hr)) (em_int) (em_var 13)) (wm_and1 (tm_cmp o_gt (em_callB (c_sum rfl) e.b_sum rfl (am_cons (em_var 13) (am_nil))) (em_int)))))
        · exact sms_one (sm_ret (em_bl))
        · exact sms_nil
      refine sms_cons ?_ ?_
      · refine sm_for [14] (passes_of rfl) rfl ?_ ?_ ?_
        · exact im_range1 e.b_range (am_cons (em_int) (am_nil))
        · exact gm_name 14 nd
        · refine sms_cons ?_ ?_
          · refine sm_set 15 nd ?_
            · refine em_callTy c_tuple e.b_tuple rfl ?_
              · refine am_cons ?_ ?_
                · refine em_lc false id (fe_id rfl) (own := [("town", 17)]) rfl nd (blkOk_by (by kernel_rfl)) ?_ ?_ ?_ ?_
                  · exact im_seq (em_var 5)
                  · intro _ _ _ _ _
                    exact gm_name 17 nd
                  · intro _ _ _ _ _
                    exact tms_one (tm_cmp (o_eq (room64 hr)) (em_callD 2 (ok__law_draw e) hr hgd takes_W0 bp__law_draw (am_cons (em_var 0) (am_cons (em_int) (am_nil)))) (em_int))
                  · intro _ _ _ _ _
                    exact em_var 17
                · exact am_nil
          · refine sms_cons ?_ ?_
            · exact sm_set 16 nd (em_callD 2 (ok__law_among e) hr hgd takes_body bp__law_among (am_cons (em_var 6) (am_cons (em_var 15) (am_nil))))
            · refine sms_one ?_
              · refine sm_if ?_ ?_ ?_
                · refine tm_not ?_
                  · refine tm_val ?_
                    · refine em_callD 2 (ok__law_same e) hr hgd takes_body bp__law_same ?_
                      · refine am_cons ?_ ?_
                        · refine em_lst false ?_
                          · refine am_cons ?_ ?_
                            · exact em_callD 2 (ok_least_among e) hr hgd takes_body bp_least_among (am_cons (em_var 1) (am_cons (em_var 15) (am_nil)))
                            · refine am_cons ?_ ?_
                              · refine em_callDK0 (ks := ["lot", "table"]) [1, 0] (ok_least_among e) hr hgd takes_body (fun _ _ _ _ _ _ us ws h1 h2 => match us, ws, h1, h2 with | [], [_, _], _, _ => rfl) ?_
                                · exact km_cons (em_var 15) (km_cons (em_var 1) (km_nil))
                              · exact am_nil
                        · exact am_cons (em_lst false (am_cons (em_var 16) (am_cons (em_var 16) (am_nil)))) (am_nil)
                · exact sms_one (sm_ret (em_bl))
                · exact sms_nil
      refine sms_cons ?_ ?_
      · refine sm_for [17] (passes_of rfl) rfl ?_ ?_ ?_
        · exact im_seq (em_var 5)
        · exact gm_name 17 nd
        · refine sms_cons ?_ ?_
          · refine sm_set 16 nd ?_
            · refine em_callD 2 (ok__law_among e) hr hgd takes_body bp__law_among ?_
              · refine am_cons ?_ ?_
                · exact em_var 6
                · refine am_cons ?_ ?_
                  · refine em_callTy c_tuple e.b_tuple rfl ?_
                    · refine am_cons ?_ ?_
                      · refine em_lc false id (fe_id rfl) (own := [("one", 23)]) rfl nd (blkOk_by (by kernel_rfl)) ?_ ?_ ?_ ?_
                        · exact im_seq (em_var 5)
                        · intro _ _ _ _ _
                          exact gm_name 23 nd
                        · intro _ _ _ _ _
                          exact tms_one (tm_cmp (o_ne (room64 hr)) (em_var 23) (em_var 17))
                        · intro _ _ _ _ _
                          exact em_var 23
                      · exact am_nil
                  · exact am_nil
          · refine sms_cons ?_ ?_
            · exact sm_set 18 nd (em_op o_sub (em_callB c_len e.b_len rfl (am_cons (em_var 16) (am_nil))) (em_callB c_len e.b_len rfl (am_cons (em_ix (em_var 6) (em_int)) (am_nil))))
            · refine sms_cons ?_ ?_
              · refine sm_if ?_ ?_ ?_
                · refine tm_not ?_
                  · refine tm_val ?_
                    · refine em_callD 2 (ok__law_same e) hr hgd takes_body bp__law_same ?_
                      · refine am_cons ?_ ?_
                        · refine em_lst false ?_
                          · refine am_cons ?_ ?_
                            · exact em_callD 2 (ok_believing e) hr hgd takes_body bp_believing (am_cons (em_var 1) (am_cons (em_var 17) (am_nil)))
                            · refine am_cons ?_ ?_
                              · exact em_callD 2 (ok_price e) hr hgd takes_body bp_price (am_cons (em_var 1) (am_cons (em_var 17) (am_nil)))
                              · refine am_cons ?_ ?_
                                · refine em_callDK0 (ks := ["town", "table"]) [1, 0] (ok_believing e) hr hgd takes_body (fun _ _ _ _ _ _ us ws h1 h2 => match us, ws, h1, h2 with | [], [_, _], _, _ => rfl) ?_
                                  · exact km_cons (em_var 17) (km_cons (em_var 1) (km_nil))
                                · refine am_cons ?_ ?_
                                  · refine em_callDK0 (ks := ["town", "table"]) [1, 0] (ok_price e) hr hgd takes_body (fun _ _ _ _ _ _ us ws h1 h2 => match us, ws, h1, h2 with | [], [_, _], _, _ => rfl) ?_
                                    · exact km_cons (em_var 17) (km_cons (em_var 1) (km_nil))
                                  · exact am_nil
                        · exact am_cons (em_lst false (am_cons (em_var 16) (am_cons (em_var 18) (am_cons (em_var 16) (am_cons (em_var 18) (am_nil)))))) (am_nil)
                · exact sms_one (sm_ret (em_bl))
                · exact sms_nil
              · refine sms_cons ?_ ?_
                · refine sm_if ?_ ?_ ?_
                  · exact tm_cmp (o_ne (room64 hr)) (em_cmp (o_eq (room64 hr)) (em_var 18) (em_int)) (em_cmp (o_nin (room65 hr)) (em_var 17) (em_var 8))
                  · exact sms_one (sm_ret (em_bl))
                  · exact sms_nil
                · refine sms_cons ?_ ?_
                  · refine sm_set 19 nd ?_
                    · refine em_lc false id (fe_id rfl) (own := [("four", 22)]) rfl nd (blkOk_by (by kernel_rfl)) ?_ ?_ ?_ ?_
                      · exact im_seq (em_var 4)
                      · intro _ _ _ _ _
                        exact gm_name 22 nd
                      · intro _ _ _ _ _
                        exact tms_one (tm_cmp (o_in (room65 hr)) (em_var 17) (em_var 22))
                      · intro _ _ _ _ _
                        exact em_var 22
                  · refine sms_cons ?_ ?_
                    · refine sm_setLc false id (fe_id rfl) 20 (own := [("lot", 15)]) rfl nd (blkOk_by (by kernel_rfl)) ?_ ?_ ?_ ?_ (sw_true rfl rfl rfl (by decide +kernel))
                      · refine im_seq ?_
                        · refine em_callD 1 (ok__law_lots e) hr hgd takes_body bp__law_lots ?_
                          · refine am_cons ?_ ?_
                            · refine em_lc false id (fe_id rfl) (own := [("one", 23)]) rfl nd (blkOk_by (by kernel_rfl)) ?_ ?_ ?_ ?_
                              · exact im_seq (em_var 5)
                              · intro _ _ _ _ _
                                exact gm_name 23 nd
                              · intro _ _ _ _ _
                                exact tms_one (tm_cmp (o_ne (room64 hr)) (em_var 23) (em_var 17))
                              · intro _ _ _ _ _
                                exact em_var 23
                            · exact am_nil
                      · intro _ _ _ _ _
                        exact gm_name 15 nd
                      · intro _ _ _ _ _
                        refine tms_one ?_
                        · refine tm_val ?_
                          · refine em_callB (c_all rfl) e.b_all rfl ?_
                            · refine am_cons ?_ ?_
                              · refine em_lc false id (fe_id rfl) (own := [("four", 22)]) rfl nd (blkOk_by (by kernel_rfl)) ?_ ?_ ?_ ?_
                                · exact im_seq (em_var 19)
                                · intro _ _ _ _ _
                                  exact gm_name 22 nd
                                · intro _ _ _ _ _
                                  exact tms_nil
                                · intro _ _ _ _ _
                                  refine em_callD 2 (ok__law_meets e) hr hgd takes_W0 bp__law_meets ?_
                                  · refine am_cons ?_ ?_
                                    · exact em_var 15
                                    · refine am_cons ?_ ?_
                                      · refine em_callTy c_tuple e.b_tuple rfl ?_
                                        · refine am_cons ?_ ?_
                                          · refine em_lc false id (fe_id rfl) (own := [("one", 23)]) rfl nd (blkOk_by (by kernel_rfl)) ?_ ?_ ?_ ?_
                                            · exact im_seq (em_var 22)
                                            · intro _ _ _ _ _
                                              exact gm_name 23 nd
                                            · intro _ _ _ _ _
                                              exact tms_one (tm_cmp (o_ne (room64 hr)) (em_var 23) (em_var 17))
                                            · intro _ _ _ _ _
                                              exact em_var 23
                                          · exact am_nil
                                      · exact am_nil
                              · exact am_nil
                      · intro _ _ _ _ _
                        exact em_var 15
                    · refine sms_cons ?_ ?_
                      · exact sm_if (tm_cmp (o_ne (room64 hr)) (em_ix (em_var 20) (em_int)) (em_var 16)) (sms_one (sm_ret (em_bl))) (sms_nil)
                      · refine sms_cons ?_ ?_
                        · exact sm_set 21 nd (em_callD 3 (ok__law_need e) hr hgd takes_body bp__law_need (am_cons (em_var 4) (am_cons (em_var 3) (am_cons (em_var 17) (am_nil)))))
                        · refine sms_one ?_
                          · refine sm_if ?_ ?_ ?_
                            · refine tm_w ?_
                              · refine wm_or ?_ ?_
                                · refine tm_not ?_
                                  · refine tm_val ?_
                                    · refine em_callD 2 (ok__law_same e) hr hgd takes_body bp__law_same ?_
                                      · refine am_cons ?_ ?_
                                        · refine em_lst false ?_
                                          · refine am_cons ?_ ?_
                                            · exact em_callD 2 (ok_need e) hr hgd takes_body bp_need (am_cons (em_var 1) (am_cons (em_var 17) (am_nil)))
                                            · refine am_cons ?_ ?_
                                              · refine em_callDK0 (ks := ["town", "table"]) [1, 0] (ok_need e) hr hgd takes_body (fun _ _ _ _ _ _ us ws h1 h2 => match us, ws, h1, h2 with | [], [_, _], _, _ => rfl) ?_
                                                · exact km_cons (em_var 17) (km_cons (em_var 1) (km_nil))
                                              · exact am_nil
                                        · exact am_cons (em_lst false (am_cons (em_var 21) (am_cons (em_var 21) (am_nil)))) (am_nil)
                                · exact wm_or1 (tm_w (wm_and (tm_notN (em_var 21)) (wm_and1 (tm_cmp (o_ne (room64 hr)) (em_var 21) (em_callB c_len e.b_len rfl (am_cons (em_var 16) (am_nil)))))))
                            · exact sms_one (sm_ret (em_bl))
                            · exact sms_nil
      refine sms_cons ?_ ?_
      · refine sm_expr ?_
        · refine em_bm isSeq_ty PySem.F.plainAttrs_list PySem.F.slot_list_append PySem.F.type_list_append m_append ?_ ?_
          · exact em_callD 1 (ok_blames e) hr hgd takes_body bp_blames (am_cons (em_var 1) (am_nil))
          · exact am_cons (em_non) (am_nil)
      refine sms_cons ?_ ?_
      · refine sm_expr ?_
        · refine em_bm isSeq_ty PySem.F.plainAttrs_list PySem.F.slot_list_append PySem.F.type_list_append m_append ?_ ?_
          · exact em_callD 1 (ok_spoilers e) hr hgd takes_body bp_spoilers (am_cons (em_var 1) (am_nil))
          · exact am_cons (em_non) (am_nil)
      refine sms_one ?_
      · refine sm_ret ?_
        · refine em_and ?_ ?_
          · refine em_callD 2 (ok__law_same e) hr hgd takes_body bp__law_same ?_
            · refine am_cons ?_ ?_
              · refine em_lst false ?_
                · refine am_cons ?_ ?_
                  · exact em_callD 1 (ok_blames e) hr hgd takes_body bp_blames (am_cons (em_var 1) (am_nil))
                  · exact am_cons (em_callD 1 (ok_spoilers e) hr hgd takes_body bp_spoilers (am_cons (em_var 1) (am_nil))) (am_nil)
              · exact am_cons (em_lst false (am_cons (em_var 13) (am_cons (em_var 12) (am_nil)))) (am_nil)
          · exact em_one (em_cmp (o_eq (room64 hr)) (em_callB (c_repr hgd (room64 hr)) e.b_repr rfl (am_cons (em_var 1) (am_nil))) (em_var 2)))
theorem sc_law : FnScope ["script", "pot", "step"] ["script"] (defScope st_law) := ⟨rfl, rfl, rfl, by decide +kernel, rfl, by decide +kernel, by decide +kernel⟩
theorem bp_law : BindP "law" st_law ["script"] := fun _ _ _ _ _ _ us hl => match us, hl with | [_], _ => rfl
theorem ok_law (e : Env K mg) : DefG P w K mg "law" "law" st_law ["script"] 11 m_law := by
  exact defG_of (k := 10) e.f_law sc_law (fun f base cdv A outer s H E hr hgd => by
      have nd := sc_law.nd
      refine sms_cons ?_ ?_
      · exact sm_set 1 nd (em_callD 2 (ok__law_pot e) hr hgd takes_body bp__law_pot (am_cons (em_var 0) (am_cons (em_int) (am_nil))))
      refine sms_one ?_
      · refine sm_ret ?_
        · refine em_callB (c_all rfl) e.b_all rfl ?_
          · refine am_cons ?_ ?_
            · refine em_lc false id (fe_id rfl) (own := [("step", 2)]) rfl nd (blkOk_by (by kernel_rfl)) ?_ ?_ ?_ ?_
              · exact im_range1 e.b_range (am_cons (em_int) (am_nil))
              · intro _ _ _ _ _
                exact gm_name 2 nd
              · intro _ _ _ _ _
                exact tms_nil
              · intro _ _ _ _ _
                exact em_callD 1 (ok__law_right e) hr hgd takes_W0 bp__law_right (am_cons (em_var 1) (am_nil))
            · exact am_nil)
end
theorem fo_value : Low.FldOk "value" := ⟨by decide, fun _ _ _ _ _ _ _ _ _ _ _ _ _ _ => rfl, fun _ _ => rfl, fun _ _ _ _ _ _ => rfl, fun _ _ _ _ _ _ => rfl, fun _ _ _ _ => rfl⟩
end Mk81


set_option Elab.async false
set_option linter.all false
set_option maxRecDepth 100000
set_option autoImplicit false
set_option maxHeartbeats 4000000
set_option synthInstance.maxHeartbeats 2000000
set_option synthInstance.maxSize 100000
namespace Mk81
open ML PySem PySem.Spec PyProof.Rows L2
instance : RMS b_is_integer := by unfold b_is_integer; infer_instance
instance : RPL m_is_integer := by unfold m_is_integer; infer_instance
instance : RMS b_is_count := by unfold b_is_count; infer_instance
instance : RPL m_is_count := by unfold m_is_count; infer_instance
instance : RMS b_is_position := by unfold b_is_position; infer_instance
instance : RPL m_is_position := by unfold m_is_position; infer_instance
instance : RL c1_is_rising := by unfold c1_is_rising; infer_instance
instance : RL c2_is_rising := by unfold c2_is_rising; infer_instance
instance : RMS b_is_rising := by unfold b_is_rising; infer_instance
instance : RPL m_is_rising := by unfold m_is_rising; infer_instance
instance : RL c1_sizes_are_right := by unfold c1_sizes_are_right; infer_instance
instance : RMS b_sizes_are_right := by unfold b_sizes_are_right; infer_instance
instance : RPL m_sizes_are_right := by unfold m_sizes_are_right; infer_instance
instance : RL c1_flaw_of := by unfold c1_flaw_of; infer_instance
instance : RL c2_flaw_of := by unfold c2_flaw_of; infer_instance
instance : RMS w1_flaw_of := by unfold w1_flaw_of; infer_instance
instance : RMS l1_flaw_of := by unfold l1_flaw_of; infer_instance
instance : RMS b_flaw_of := by unfold b_flaw_of; infer_instance
instance : RPL m_flaw_of := by unfold m_flaw_of; infer_instance
instance : RMS b_table_is_right := by unfold b_table_is_right; infer_instance
instance : RPL m_table_is_right := by unfold m_table_is_right; infer_instance
instance : RMS b_many_of_tables := by unfold b_many_of_tables; infer_instance
instance : RPL m_many_of_tables := by unfold m_many_of_tables; infer_instance
instance : RMS b_far_of := by unfold b_far_of; infer_instance
instance : RPL m_far_of := by unfold m_far_of; infer_instance
instance : RMS w1_short_of := by unfold w1_short_of; infer_instance
instance : RMS l1_short_of := by unfold l1_short_of; infer_instance
instance : RMS w2_short_of := by unfold w2_short_of; infer_instance
instance : RMS l2_short_of := by unfold l2_short_of; infer_instance
instance : RMS w3_short_of := by unfold w3_short_of; infer_instance
instance : RMS l3_short_of := by unfold l3_short_of; infer_instance
instance : RMS b_short_of := by unfold b_short_of; infer_instance
instance : RPL m_short_of := by unfold m_short_of; infer_instance
instance : RMS b_check_table_tables := by unfold b_check_table_tables; infer_instance
instance : RPL m_check_table_tables := by unfold m_check_table_tables; infer_instance
instance : RMS b_is_table := by unfold b_is_table; infer_instance
instance : RPL m_is_table := by unfold m_is_table; infer_instance
instance : RMS b_short_triple := by unfold b_short_triple; infer_instance
instance : RPL m_short_triple := by unfold m_short_triple; infer_instance
instance : RMS b_many_of := by unfold b_many_of; infer_instance
instance : RPL m_many_of := by unfold m_many_of; infer_instance
instance : RMS b_three_sums := by unfold b_three_sums; infer_instance
instance : RPL m_three_sums := by unfold m_three_sums; infer_instance
instance : RMS b_four_badness := by unfold b_four_badness; infer_instance
instance : RPL m_four_badness := by unfold m_four_badness; infer_instance
instance : RL c1_fours_of := by unfold c1_fours_of; infer_instance
instance : RMS w1_fours_of := by unfold w1_fours_of; infer_instance
instance : RMS l1_fours_of := by unfold l1_fours_of; infer_instance
instance : RMS w2_fours_of := by unfold w2_fours_of; infer_instance
instance : RMS l2_fours_of := by unfold l2_fours_of; infer_instance
instance : RMS b_fours_of := by unfold b_fours_of; infer_instance
instance : RPL m_fours_of := by unfold m_fours_of; infer_instance
instance : RL c1_bad_fours := by unfold c1_bad_fours; infer_instance
instance : RMS b_bad_fours := by unfold b_bad_fours; infer_instance
instance : RPL m_bad_fours := by unfold m_bad_fours; infer_instance
instance : RL c1_lots_of := by unfold c1_lots_of; infer_instance
instance : RMS w1_lots_of := by unfold w1_lots_of; infer_instance
instance : RMS l1_lots_of := by unfold l1_lots_of; infer_instance
instance : RMS w2_lots_of := by unfold w2_lots_of; infer_instance
instance : RMS l2_lots_of := by unfold l2_lots_of; infer_instance
instance : RMS b_lots_of := by unfold b_lots_of; infer_instance
instance : RPL m_lots_of := by unfold m_lots_of; infer_instance
instance : RL c1_meets := by unfold c1_meets; infer_instance
instance : RMS b_meets := by unfold b_meets; infer_instance
instance : RPL m_meets := by unfold m_meets; infer_instance
instance : RL c1_cures := by unfold c1_cures; infer_instance
instance : RMS b_cures := by unfold b_cures; infer_instance
instance : RPL m_cures := by unfold m_cures; infer_instance
instance : RMS w1_first_cure := by unfold w1_first_cure; infer_instance
instance : RMS l1_first_cure := by unfold l1_first_cure; infer_instance
instance : RMS b_first_cure := by unfold b_first_cure; infer_instance
instance : RPL m_first_cure := by unfold m_first_cure; infer_instance
instance : RMS b_least_of := by unfold b_least_of; infer_instance
instance : RPL m_least_of := by unfold m_least_of; infer_instance
instance : RL c1_least_ones := by unfold c1_least_ones; infer_instance
instance : RMS b_least_ones := by unfold b_least_ones; infer_instance
instance : RPL m_least_ones := by unfold m_least_ones; infer_instance
instance : RL c1_believing_of := by unfold c1_believing_of; infer_instance
instance : RMS b_believing_of := by unfold b_believing_of; infer_instance
instance : RPL m_believing_of := by unfold m_believing_of; infer_instance
instance : RMS b_lot_is_right := by unfold b_lot_is_right; infer_instance
instance : RPL m_lot_is_right := by unfold m_lot_is_right; infer_instance
instance : RMS b_check_table := by unfold b_check_table; infer_instance
instance : RPL m_check_table := by unfold m_check_table; infer_instance
instance : RMS b_check_metric := by unfold b_check_metric; infer_instance
instance : RPL m_check_metric := by unfold m_check_metric; infer_instance
instance : RMS b_check_known := by unfold b_check_known; infer_instance
instance : RPL m_check_known := by unfold m_check_known; infer_instance
instance : RMS b_check_town := by unfold b_check_town; infer_instance
instance : RPL m_check_town := by unfold m_check_town; infer_instance
instance : RL c1_suspects := by unfold c1_suspects; infer_instance
instance : RL c2_suspects := by unfold c2_suspects; infer_instance
instance : RMS b_suspects := by unfold b_suspects; infer_instance
instance : RPL m_suspects := by unfold m_suspects; infer_instance
instance : RL c1_trusted := by unfold c1_trusted; infer_instance
instance : RL c2_trusted := by unfold c2_trusted; infer_instance
instance : RMS b_trusted := by unfold b_trusted; infer_instance
instance : RPL m_trusted := by unfold m_trusted; infer_instance
instance : RL c1_open_towns := by unfold c1_open_towns; infer_instance
instance : RMS w1_open_towns := by unfold w1_open_towns; infer_instance
instance : RMS l1_open_towns := by unfold l1_open_towns; infer_instance
instance : RMS b_open_towns := by unfold b_open_towns; infer_instance
instance : RPL m_open_towns := by unfold m_open_towns; infer_instance
instance : RL c1_spoilers := by unfold c1_spoilers; infer_instance
instance : RMS b_spoilers := by unfold b_spoilers; infer_instance
instance : RPL m_spoilers := by unfold m_spoilers; infer_instance
instance : RL c1_blames := by unfold c1_blames; infer_instance
instance : RL c2_blames := by unfold c2_blames; infer_instance
instance : RMS b_blames := by unfold b_blames; infer_instance
instance : RPL m_blames := by unfold m_blames; infer_instance
instance : RMS b_least_among := by unfold b_least_among; infer_instance
instance : RPL m_least_among := by unfold m_least_among; infer_instance
instance : RMS b_believing := by unfold b_believing; infer_instance
instance : RPL m_believing := by unfold m_believing; infer_instance
instance : RMS b_price := by unfold b_price; infer_instance
instance : RPL m_price := by unfold m_price; infer_instance
instance : RMS b_need := by unfold b_need; infer_instance
instance : RPL m_need := by unfold m_need; infer_instance
instance : RMS b__law_pot := by unfold b__law_pot; infer_instance
instance : RPL m__law_pot := by unfold m__law_pot; infer_instance
instance : RMS b__law_draw := by unfold b__law_draw; infer_instance
instance : RPL m__law_draw := by unfold m__law_draw; infer_instance
instance (r : List D → Sto → R D) [RPL r] : RL (c1__law_same r) := by unfold c1__law_same; infer_instance
instance (r : List D → Sto → R D) [RPL r] : RL (c2__law_same r) := by unfold c2__law_same; infer_instance
instance (r : List D → Sto → R D) [RPL r] : RMS (b__law_same r) := by unfold b__law_same; infer_instance
theorem rr__law_same : ∀ n, RPL (r__law_same n)
  | 0 => rpl_no
  | n + 1 => by have := rr__law_same n; unfold r__law_same; infer_instance
instance : RPL m__law_same := rr__law_same _
instance : RMS b__law_far := by unfold b__law_far; infer_instance
instance : RPL m__law_far := by unfold m__law_far; infer_instance
instance : RL c1__law_table := by unfold c1__law_table; infer_instance
instance : RMS b__law_table := by unfold b__law_table; infer_instance
instance : RPL m__law_table := by unfold m__law_table; infer_instance
instance : RL c1__law_closed := by unfold c1__law_closed; infer_instance
instance : RL c2__law_closed := by unfold c2__law_closed; infer_instance
instance : RL c3__law_closed := by unfold c3__law_closed; infer_instance
instance : RMS w1__law_closed := by unfold w1__law_closed; infer_instance
instance : RMS l1__law_closed := by unfold l1__law_closed; infer_instance
instance : RMS w2__law_closed := by unfold w2__law_closed; infer_instance
instance : RMS l2__law_closed := by unfold l2__law_closed; infer_instance
instance : RL c4__law_closed := by unfold c4__law_closed; infer_instance
instance : RMS b__law_closed := by unfold b__law_closed; infer_instance
instance : RPL m__law_closed := by unfold m__law_closed; infer_instance
instance : RMS w1__law_tree_rows := by unfold w1__law_tree_rows; infer_instance
instance : RMS l1__law_tree_rows := by unfold l1__law_tree_rows; infer_instance
instance : RMS w2__law_tree_rows := by unfold w2__law_tree_rows; infer_instance
instance : RMS l2__law_tree_rows := by unfold l2__law_tree_rows; infer_instance
instance : RMS b__law_tree_rows := by unfold b__law_tree_rows; infer_instance
instance : RPL m__law_tree_rows := by unfold m__law_tree_rows; infer_instance
instance : RMS w1__law_metric := by unfold w1__law_metric; infer_instance
instance : RMS l1__law_metric := by unfold l1__law_metric; infer_instance
instance : RMS b__law_metric := by unfold b__law_metric; infer_instance
instance : RPL m__law_metric := by unfold m__law_metric; infer_instance
instance : RL c1__law_fours := by unfold c1__law_fours; infer_instance
instance : RMS w1__law_fours := by unfold w1__law_fours; infer_instance
instance : RMS l1__law_fours := by unfold l1__law_fours; infer_instance
instance : RL c2__law_fours := by unfold c2__law_fours; infer_instance
instance : RMS b__law_fours := by unfold b__law_fours; infer_instance
instance : RPL m__law_fours := by unfold m__law_fours; infer_instance
instance : RMS b__law_sums := by unfold b__law_sums; infer_instance
instance : RPL m__law_sums := by unfold m__law_sums; infer_instance
instance : RMS w1__law_bad := by unfold w1__law_bad; infer_instance
instance : RMS l1__law_bad := by unfold l1__law_bad; infer_instance
instance : RMS b__law_bad := by unfold b__law_bad; infer_instance
instance : RPL m__law_bad := by unfold m__law_bad; infer_instance
instance : RL c1__law_lots := by unfold c1__law_lots; infer_instance
instance : RMS w1__law_lots := by unfold w1__law_lots; infer_instance
instance : RMS l1__law_lots := by unfold l1__law_lots; infer_instance
instance : RL c2__law_lots := by unfold c2__law_lots; infer_instance
instance : RL c3__law_lots := by unfold c3__law_lots; infer_instance
instance : RMS b__law_lots := by unfold b__law_lots; infer_instance
instance : RPL m__law_lots := by unfold m__law_lots; infer_instance
instance : RL c1__law_meets := by unfold c1__law_meets; infer_instance
instance : RMS b__law_meets := by unfold b__law_meets; infer_instance
instance : RPL m__law_meets := by unfold m__law_meets; infer_instance
instance : RL c1__law_cures := by unfold c1__law_cures; infer_instance
instance : RL c2__law_cures := by unfold c2__law_cures; infer_instance
instance : RMS b__law_cures := by unfold b__law_cures; infer_instance
instance : RPL m__law_cures := by unfold m__law_cures; infer_instance
instance : RL c1__law_among := by unfold c1__law_among; infer_instance
instance : RL c2__law_among := by unfold c2__law_among; infer_instance
instance : RMS b__law_among := by unfold b__law_among; infer_instance
instance : RPL m__law_among := by unfold m__law_among; infer_instance
instance : RL c1__law_need := by unfold c1__law_need; infer_instance
instance : RL c2__law_need := by unfold c2__law_need; infer_instance
instance : RL c3__law_need := by unfold c3__law_need; infer_instance
instance : RL c4__law_need := by unfold c4__law_need; infer_instance
instance : RMS b__law_need := by unfold b__law_need; infer_instance
instance : RPL m__law_need := by unfold m__law_need; infer_instance
instance : RL c1__law_right := by unfold c1__law_right; infer_instance
instance : RL c2__law_right := by unfold c2__law_right; infer_instance
instance : RL c3__law_right := by unfold c3__law_right; infer_instance
instance : RL c4__law_right := by unfold c4__law_right; infer_instance
instance : RL c5__law_right := by unfold c5__law_right; infer_instance
instance : RL c6__law_right := by unfold c6__law_right; infer_instance
instance : RL c7__law_right := by unfold c7__law_right; infer_instance
instance : RL c8__law_right := by unfold c8__law_right; infer_instance
instance : RL c9__law_right := by unfold c9__law_right; infer_instance
instance : RL c10__law_right := by unfold c10__law_right; infer_instance
instance : RMS w1__law_right := by unfold w1__law_right; infer_instance
instance : RMS l1__law_right := by unfold l1__law_right; infer_instance
instance : RL c11__law_right := by unfold c11__law_right; infer_instance
instance : RL c12__law_right := by unfold c12__law_right; infer_instance
instance : RL c13__law_right := by unfold c13__law_right; infer_instance
instance : RL c14__law_right := by unfold c14__law_right; infer_instance
instance : RL c15__law_right := by unfold c15__law_right; infer_instance
instance : RL c16__law_right := by unfold c16__law_right; infer_instance
instance : RMS w2__law_right := by unfold w2__law_right; infer_instance
instance : RMS l2__law_right := by unfold l2__law_right; infer_instance
instance : RMS b__law_right := by unfold b__law_right; infer_instance
instance : RPL m__law_right := by unfold m__law_right; infer_instance
instance : RL c1_law := by unfold c1_law; infer_instance
instance : RMS b_law := by unfold b_law; infer_instance
instance : RPL m_law := by unfold m_law; infer_instance
end Mk81


set_option Elab.async false
set_option linter.all false
set_option maxRecDepth 100000
set_option autoImplicit false
set_option maxHeartbeats 4000000
namespace Mk81
open ML PySem PySem.Spec PyProof.Rows L2
theorem far_ok {n : Nat} {M : Nat → Nat → Int} (hM : Far n M) {i j : Nat} (hi : i < n) (hj : j < n) (S : Sto) : m_far_of [tblF n M, .int (i : Int), .int (j : Int)] S = .ok (.int (M i j)) S := by
  rcases Nat.lt_trichotomy i j with h | h | h
  · have e0 : ¬ (i : Int) = (j : Int) := by omega
    have e1 : (j : Int) - 1 = ((j - 1 : Nat) : Int) := by omega
    have r1 : atD ((List.range (n - 1)).map (rowF M)) ((j - 1 : Nat) : Int) = some (rowF M (j - 1)) := atD_map (by omega)
    have e2 : j - 1 + 1 = j := by omega
    have r2 : atD ((List.range (j - 1 + 1)).map fun k => D.int (M (j - 1 + 1) k)) (i : Int) = some (.int (M (j - 1 + 1) i)) := atD_map (by omega)
    rw [e2] at r2
    have a0 : atD [D.str "table", .tup ((List.range (n - 1)).map (rowF M))] 1 = some (.tup ((List.range (n - 1)).map (rowF M))) := rfl
    have mx : pmax2 [.int (i : Int), .int (j : Int)] S = .ok (.int (j : Int)) S := by simp [pmax2, h]
    have mn : pmin2 [.int (i : Int), .int (j : Int)] S = .ok (.int (i : Int)) S := by simp [pmin2]; omega
    unfold m_far_of b_far_of tblF
    simp [mDef, endS, startD, sCons, seqS, sRet, sRetN, sSet, sIf, sNil, sAsg, sExpr, sPar, par2, bindS, noEx, ML.R.bind, m1, m2, mT, mTr, asB, asTr, mC, mVar, asV_non, asV_bl, asV_int, asV_str, asV_tup, asV_lst, asV_rol, asV_ref, mL, mCons, mNil, mIf, mCall, tgN, tgSub, tgT, tgCons, tgNil, setAt, tNotM, tAndM, tOrM, mAnd, mOr, pnot, pix, pcmp, padd, psub, pmul, pfdiv, pmod, pint, plen, ptup, pisN, pnotN, seqOf, pneg, mSl, oNone, oSome, asI, mLc, mSrc, asSrc, drawn, mYes, evWipe, mkL, plst, peq, e0, a0, mx, mn, e1, r1, rowF, e2, r2]
    exact hM.sym j i hj hi
  · subst h
    unfold m_far_of b_far_of tblF
    simp [mDef, endS, startD, sCons, seqS, sRet, sRetN, sSet, sIf, sNil, sAsg, sExpr, sPar, par2, bindS, noEx, ML.R.bind, m1, m2, mT, mTr, asB, asTr, mC, mVar, asV_non, asV_bl, asV_int, asV_str, asV_tup, asV_lst, asV_rol, asV_ref, mL, mCons, mNil, mIf, mCall, tgN, tgSub, tgT, tgCons, tgNil, setAt, tNotM, tAndM, tOrM, mAnd, mOr, pnot, pix, pcmp, padd, psub, pmul, pfdiv, pmod, pint, plen, ptup, pisN, pnotN, seqOf, pneg, mSl, oNone, oSome, asI, mLc, mSrc, asSrc, drawn, mYes, evWipe, mkL, plst, peq]
    exact (hM.diag i hi).symm
  · have e0 : ¬ (i : Int) = (j : Int) := by omega
    have e1 : (i : Int) - 1 = ((i - 1 : Nat) : Int) := by omega
    have r1 : atD ((List.range (n - 1)).map (rowF M)) ((i - 1 : Nat) : Int) = some (rowF M (i - 1)) := atD_map (by omega)
    have e2 : i - 1 + 1 = i := by omega
    have r2 : atD ((List.range (i - 1 + 1)).map fun k => D.int (M (i - 1 + 1) k)) (j : Int) = some (.int (M (i - 1 + 1) j)) := atD_map (by omega)
    rw [e2] at r2
    have a0 : atD [D.str "table", .tup ((List.range (n - 1)).map (rowF M))] 1 = some (.tup ((List.range (n - 1)).map (rowF M))) := rfl
    have mx : pmax2 [.int (i : Int), .int (j : Int)] S = .ok (.int (i : Int)) S := by simp [pmax2]; omega
    have mn : pmin2 [.int (i : Int), .int (j : Int)] S = .ok (.int (j : Int)) S := by simp [pmin2, h]
    unfold m_far_of b_far_of tblF
    simp [mDef, endS, startD, sCons, seqS, sRet, sRetN, sSet, sIf, sNil, sAsg, sExpr, sPar, par2, bindS, noEx, ML.R.bind, m1, m2, mT, mTr, asB, asTr, mC, mVar, asV_non, asV_bl, asV_int, asV_str, asV_tup, asV_lst, asV_rol, asV_ref, mL, mCons, mNil, mIf, mCall, tgN, tgSub, tgT, tgCons, tgNil, setAt, tNotM, tAndM, tOrM, mAnd, mOr, pnot, pix, pcmp, padd, psub, pmul, pfdiv, pmod, pint, plen, ptup, pisN, pnotN, seqOf, pneg, mSl, oNone, oSome, asI, mLc, mSrc, asSrc, drawn, mYes, evWipe, mkL, plst, peq, e0, a0, mx, mn, e1, r1, rowF, e2, r2]
theorem tbl_rows (n : Nat) (M : Nat → Nat → Int) : atD [D.str "table", .tup ((List.range (n - 1)).map (rowF M))] 1 = some (.tup ((List.range (n - 1)).map (rowF M))) := rfl
theorem tbl_word (n : Nat) (M : Nat → Nat → Int) : atD [D.str "table", .tup ((List.range (n - 1)).map (rowF M))] 0 = some (.str "table") := rfl
theorem many_ok {n : Nat} {M : Nat → Nat → Int} (hn : 2 ≤ n) (S : Sto) : m_many_of [tblF n M] S = .ok (.int (n : Int)) S := by
  have e : ((n - 1 : Nat) : Int) + 1 = (n : Int) := by omega
  unfold m_many_of b_many_of tblF
  simp [mDef, endS, startD, sCons, seqS, sRet, sRetN, sSet, sIf, sNil, sAsg, sExpr, sPar, par2, bindS, noEx, ML.R.bind, m1, m2, mT, mTr, asB, asTr, mC, mVar, asV_non, asV_bl, asV_int, asV_str, asV_tup, asV_lst, asV_rol, asV_ref, mL, mCons, mNil, mIf, mCall, tgN, tgSub, tgT, tgCons, tgNil, setAt, tNotM, tAndM, tOrM, mAnd, mOr, pnot, pix, pcmp, padd, psub, pmul, pfdiv, pmod, pint, plen, ptup, pisN, pnotN, seqOf, pneg, mSl, oNone, oSome, asI, mLc, mSrc, asSrc, drawn, mYes, evWipe, mkL, plst, tbl_rows, e]
theorem manyT_ok {n : Nat} {M : Nat → Nat → Int} (hn : 2 ≤ n) (S : Sto) : m_many_of_tables [tblF n M] S = .ok (.int (n : Int)) S := many_ok hn S
theorem isint_ok (i : Int) (S : Sto) : m_is_integer [.int i] S = .ok (.bl true) S := by
  unfold m_is_integer b_is_integer
  simp [mDef, endS, startD, sCons, seqS, sRet, sRetN, sSet, sIf, sNil, sAsg, sExpr, sPar, par2, bindS, noEx, ML.R.bind, m1, m2, mT, mTr, asB, asTr, mC, mVar, asV_non, asV_bl, asV_int, asV_str, asV_tup, asV_lst, asV_rol, asV_ref, mL, mCons, mNil, mIf, mCall, tgN, tgSub, tgT, tgCons, tgNil, setAt, tNotM, tAndM, tOrM, mAnd, mOr, pnot, pix, pcmp, padd, psub, pmul, pfdiv, pmod, pint, plen, ptup, pisN, pnotN, seqOf, pneg, mSl, oNone, oSome, asI, mLc, mSrc, asSrc, drawn, mYes, evWipe, mkL, plst, isi_int]
theorem count_ok (i : Int) (h : 0 ≤ i) (S : Sto) : m_is_count [.int i] S = .ok (.bl true) S := by
  unfold m_is_count b_is_count
  simp [mDef, endS, startD, sCons, seqS, sRet, sRetN, sSet, sIf, sNil, sAsg, sExpr, sPar, par2, bindS, noEx, ML.R.bind, m1, m2, mT, mTr, asB, asTr, mC, mVar, asV_non, asV_bl, asV_int, asV_str, asV_tup, asV_lst, asV_rol, asV_ref, mL, mCons, mNil, mIf, mCall, tgN, tgSub, tgT, tgCons, tgNil, setAt, tNotM, tAndM, tOrM, mAnd, mOr, pnot, pix, pcmp, padd, psub, pmul, pfdiv, pmod, pint, plen, ptup, pisN, pnotN, seqOf, pneg, mSl, oNone, oSome, asI, mLc, mSrc, asSrc, drawn, mYes, evWipe, mkL, plst, isint_ok, h]
theorem mapBl {α : Type} (xs : List α) (p : α → Bool) (h : ∀ x ∈ xs, p x = true) : xs.all p = true := List.all_eq_true.mpr h
theorem sizes_ok {n : Nat} {M : Nat → Nat → Int} (hn : 2 ≤ n) (h8 : n ≤ 8) (S : Sto) : m_sizes_are_right [.tup ((List.range (n - 1)).map (rowF M))] S = .ok (.bl true) S := by
  have hen : ∀ k m : Nat, enumD k ((List.range' k m).map (rowF M)) = (List.range' k m).map fun (t : Nat) => D.tup [.int (t : Int), rowF M t] := by
    intro k m
    induction m generalizing k with
    | zero => rfl
    | succ m ih =>
      rw [List.range'_succ, List.map_cons, List.map_cons]
      show D.tup [.int (k : Nat), rowF M k] :: enumD (k + 1) _ = _
      rw [ih (k + 1)]
  have hsrc : mEnum (mCons (mVar 0) mNil) [some (D.tup ((List.range (n - 1)).map (rowF M))), none, none] S = .ok ⟨(List.range (n - 1)).map fun (t : Nat) => D.tup [.int (t : Int), rowF M t], []⟩ S := by
    show R.ok (Src.mk (enumD 0 ((List.range (n - 1)).map (rowF M))) []) S = _
    rw [List.range_eq_range', hen]
  have hc : c1_sizes_are_right [some (D.tup ((List.range (n - 1)).map (rowF M))), none, none] S = .ok (.lst ((List.range (n - 1)).map fun t => D.bl ((fun _ => true) t))) S := by
    unfold c1_sizes_are_right
    refine lc_mp _ _ _ hsrc rfl (by simp; omega) fun t ht => ?_
    refine ⟨[some (D.tup ((List.range (n - 1)).map (rowF M))), some (.int (t : Int)), some (rowF M t)], rfl, rfl, ?_⟩
    unfold rowF
    simp [mDef, endS, startD, sCons, seqS, sRet, sRetN, sSet, sIf, sNil, sAsg, sExpr, sPar, par2, bindS, noEx, ML.R.bind, m1, m2, mT, mTr, asB, asTr, mC, mVar, asV_non, asV_bl, asV_int, asV_str, asV_tup, asV_lst, asV_rol, asV_ref, mL, mCons, mNil, mIf, mCall, tgN, tgSub, tgT, tgCons, tgNil, setAt, tNotM, tAndM, tOrM, mAnd, mOr, pnot, pix, pcmp, padd, psub, pmul, pfdiv, pmod, pint, plen, ptup, pisN, pnotN, seqOf, pneg, mSl, oNone, oSome, asI, mLc, mSrc, asSrc, drawn, mYes, evWipe, mkL, plst, peq]
  have ha := all_ok hc
  rw [mapBl _ _ fun _ _ => rfl] at ha
  have l1 : (1 : Int) ≤ ((n - 1 : Nat) : Int) := by omega
  have l2 : ((n - 1 : Nat) : Int) < 8 := by omega
  unfold m_sizes_are_right b_sizes_are_right
  refine def_rt (ev1 := [some (D.tup ((List.range (n - 1)).map (rowF M))), none, none]) (ret_eq ?_)
  refine (and_t (S1 := S) ?_).trans ha
  simp [mDef, endS, startD, sCons, seqS, sRet, sRetN, sSet, sIf, sNil, sAsg, sExpr, sPar, par2, bindS, noEx, ML.R.bind, m1, m2, mT, mTr, asB, asTr, mC, mVar, asV_non, asV_bl, asV_int, asV_str, asV_tup, asV_lst, asV_rol, asV_ref, mL, mCons, mNil, mIf, mCall, tgN, tgSub, tgT, tgCons, tgNil, setAt, tNotM, tAndM, tOrM, mAnd, mOr, pnot, pix, pcmp, padd, psub, pmul, pfdiv, pmod, pint, plen, ptup, pisN, pnotN, seqOf, pneg, mSl, oNone, oSome, asI, mLc, mSrc, asSrc, drawn, mYes, evWipe, mkL, plst, mChain, chain2, l1, l2]
theorem flaw_ok {n : Nat} {M : Nat → Nat → Int} (hM : Far n M) (hn : 2 ≤ n) (h8 : n ≤ 8) (S : Sto) : m_flaw_of [tblF n M] S = .ok .non S := by
  have c1 : c1_flaw_of [some (tblF n M), none, none] S = .ok (.lst ((List.range (n - 1)).map fun t => D.bl ((fun _ => true) t))) S := by
    unfold c1_flaw_of
    refine lc_mp (List.range (n - 1)) (rowF M) _ (deps := []) (S1 := S) ?_ rfl (by simp; omega) fun t ht => ?_
    · refine src_seq (d := .tup ((List.range (n - 1)).map (rowF M))) ?_ rfl
      unfold tblF
      simp [mDef, endS, startD, sCons, seqS, sRet, sRetN, sSet, sIf, sNil, sAsg, sExpr, sPar, par2, bindS, noEx, ML.R.bind, m1, m2, mT, mTr, asB, asTr, mC, mVar, asV_non, asV_bl, asV_int, asV_str, asV_tup, asV_lst, asV_rol, asV_ref, mL, mCons, mNil, mIf, mCall, tgN, tgSub, tgT, tgCons, tgNil, setAt, tNotM, tAndM, tOrM, mAnd, mOr, pnot, pix, pcmp, padd, psub, pmul, pfdiv, pmod, pint, plen, ptup, pisN, pnotN, seqOf, pneg, mSl, oNone, oSome, asI, mLc, mSrc, asSrc, drawn, mYes, evWipe, mkL, plst, tbl_rows]
    · exact ⟨[some (tblF n M), some (rowF M t), none], rfl, rfl, by unfold rowF; simp [mDef, endS, startD, sCons, seqS, sRet, sRetN, sSet, sIf, sNil, sAsg, sExpr, sPar, par2, bindS, noEx, ML.R.bind, m1, m2, mT, mTr, asB, asTr, mC, mVar, asV_non, asV_bl, asV_int, asV_str, asV_tup, asV_lst, asV_rol, asV_ref, mL, mCons, mNil, mIf, mCall, tgN, tgSub, tgT, tgCons, tgNil, setAt, tNotM, tAndM, tOrM, mAnd, mOr, pnot, pix, pcmp, padd, psub, pmul, pfdiv, pmod, pint, plen, ptup, pisN, pnotN, seqOf, pneg, mSl, oNone, oSome, asI, mLc, mSrc, asSrc, drawn, mYes, evWipe, mkL, plst, isi_tup]⟩
  have a1 := all_ok c1
  rw [mapBl _ _ fun _ _ => rfl] at a1
  have loop : ∃ ev', l1_flaw_of [some (tblF n M), none, none] S = .ok .nx ev' S := by
    have hs : mSrc (m2 pix (mVar 0) (mC (.int 1))) [some (tblF n M), none, none] S = .ok ⟨(List.range (n - 1)).map (rowF M), []⟩ S := by
      refine src_seq (d := .tup ((List.range (n - 1)).map (rowF M))) ?_ rfl
      unfold tblF
      simp [mDef, endS, startD, sCons, seqS, sRet, sRetN, sSet, sIf, sNil, sAsg, sExpr, sPar, par2, bindS, noEx, ML.R.bind, m1, m2, mT, mTr, asB, asTr, mC, mVar, asV_non, asV_bl, asV_int, asV_str, asV_tup, asV_lst, asV_rol, asV_ref, mL, mCons, mNil, mIf, mCall, tgN, tgSub, tgT, tgCons, tgNil, setAt, tNotM, tAndM, tOrM, mAnd, mOr, pnot, pix, pcmp, padd, psub, pmul, pfdiv, pmod, pint, plen, ptup, pisN, pnotN, seqOf, pneg, mSl, oNone, oSome, asI, mLc, mSrc, asSrc, drawn, mYes, evWipe, mkL, plst, tbl_rows]
    obtain ⟨ev', S', q1, q2⟩ := for_nx (tg := tgN 1) (body := w1_flaw_of) (c := ⟨(List.range (n - 1)).map (rowF M), []⟩) (rowF M) (fun _ ev S' => S' = S ∧ ∃ x, ev = [some (tblF n M), x, none]) (fun _ _ _ _ => rfl) (List.range (n - 1)) 0 [some (tblF n M), none, none] S (fun j t ht ev S' hI => by
      obtain ⟨rfl, x, rfl⟩ := hI
      have ht' : t < n - 1 := by have := List.mem_range.mp (List.mem_of_getElem? ht); exact this
      refine ⟨[some (tblF n M), some (rowF M t), none], [some (tblF n M), some (rowF M t), none], S', rfl, .inl ?_, rfl, _, rfl⟩
      have c2 : c2_flaw_of [some (tblF n M), some (rowF M t), none] S' = .ok (.lst ((List.range (t + 1)).map fun j => D.bl ((fun _ => true) j))) S' := by
        unfold c2_flaw_of
        refine lc_mp (List.range (t + 1)) (fun j => D.int (M (t + 1) j)) _ (deps := []) (S1 := S') rfl rfl (by simp; omega) fun j hj => ?_
        have hj' : j < t + 1 := List.mem_range.mp hj
        have p1 := hM.pos (t + 1) j (by omega) (by omega)
        have p2 := hM.le (t + 1) j (by omega) (by omega)
        exact ⟨[some (tblF n M), some (rowF M t), some (.int (M (t + 1) j))], rfl, rfl, by simp [mDef, endS, startD, sCons, seqS, sRet, sRetN, sSet, sIf, sNil, sAsg, sExpr, sPar, par2, bindS, noEx, ML.R.bind, m1, m2, mT, mTr, asB, asTr, mC, mVar, asV_non, asV_bl, asV_int, asV_str, asV_tup, asV_lst, asV_rol, asV_ref, mL, mCons, mNil, mIf, mCall, tgN, tgSub, tgT, tgCons, tgNil, setAt, tNotM, tAndM, tOrM, mAnd, mOr, pnot, pix, pcmp, padd, psub, pmul, pfdiv, pmod, pint, plen, ptup, pisN, pnotN, seqOf, pneg, mSl, oNone, oSome, asI, mLc, mSrc, asSrc, drawn, mYes, evWipe, mkL, plst, count_ok, p1, p2]⟩
      have a2 := all_ok c2
      rw [mapBl _ _ fun _ _ => rfl] at a2
      unfold w1_flaw_of
      exact if_no (not_ok (tr_bl a2))) ⟨rfl, none, rfl⟩
    obtain ⟨rfl, x, rfl⟩ := q2
    exact ⟨_, by unfold l1_flaw_of; rw [sFor_eq hs]; exact q1⟩
  obtain ⟨ev', hl⟩ := loop
  have e2 : ∀ S : Sto, (m2 pix (mVar 0) (mC (.int 1))) [some (tblF n M), none, none] S = .ok (.tup ((List.range (n - 1)).map (rowF M))) S := fun S => by unfold tblF; simp [mDef, endS, startD, sCons, seqS, sRet, sRetN, sSet, sIf, sNil, sAsg, sExpr, sPar, par2, bindS, noEx, ML.R.bind, m1, m2, mT, mTr, asB, asTr, mC, mVar, asV_non, asV_bl, asV_int, asV_str, asV_tup, asV_lst, asV_rol, asV_ref, mL, mCons, mNil, mIf, mCall, tgN, tgSub, tgT, tgCons, tgNil, setAt, tNotM, tAndM, tOrM, mAnd, mOr, pnot, pix, pcmp, padd, psub, pmul, pfdiv, pmod, pint, plen, ptup, pisN, pnotN, seqOf, pneg, mSl, oNone, oSome, asI, mLc, mSrc, asSrc, drawn, mYes, evWipe, mkL, plst, tbl_rows]
  unfold m_flaw_of b_flaw_of
  refine def_rt (cons_nx (if_no (S1 := S) ?_) (cons_nx (if_no (S1 := S) ?_) (cons_nx (if_no (S1 := S) ?_) (cons_nx hl (ret_eq rfl)))))
  · show tOrM _ _ [some (tblF n M), none, none] S = _
    unfold tblF
    simp [mDef, endS, startD, sCons, seqS, sRet, sRetN, sSet, sIf, sNil, sAsg, sExpr, sPar, par2, bindS, noEx, ML.R.bind, m1, m2, mT, mTr, asB, asTr, mC, mVar, asV_non, asV_bl, asV_int, asV_str, asV_tup, asV_lst, asV_rol, asV_ref, mL, mCons, mNil, mIf, mCall, tgN, tgSub, tgT, tgCons, tgNil, setAt, tNotM, tAndM, tOrM, mAnd, mOr, pnot, pix, pcmp, padd, psub, pmul, pfdiv, pmod, pint, plen, ptup, pisN, pnotN, seqOf, pneg, mSl, oNone, oSome, asI, mLc, mSrc, asSrc, drawn, mYes, evWipe, mkL, plst, isi_tup, isi_str, tbl_word, pne]
  · exact (tor_f (not_ok (b := true) (tr_bl ((mL_eq (cons_ok (e2 S) (cons_ok rfl nil_ok))).trans (isi_tup _ S).2.2.2.1)))).trans (not_ok (tr_bl a1))
  · exact not_ok (tr_bl ((call_eq (cons_ok (e2 S) nil_ok) rfl).trans (sizes_ok hn h8 S)))
theorem right_ok {n : Nat} {M : Nat → Nat → Int} (hM : Far n M) (hn : 2 ≤ n) (h8 : n ≤ 8) (S : Sto) : m_table_is_right [tblF n M] S = .ok (.bl true) S := by
  unfold m_table_is_right b_table_is_right
  exact def_rt (ret_eq ((m1_eq ((call_eq (cons_ok rfl nil_ok) rfl).trans (flaw_ok hM hn h8 S))).trans rfl))
theorem checkTT_ok {n : Nat} {M : Nat → Nat → Int} (hM : Far n M) (hn : 2 ≤ n) (h8 : n ≤ 8) (S : Sto) : m_check_table_tables [tblF n M] S = .ok .non S := by
  unfold m_check_table_tables b_check_table_tables
  exact def_nx (if_no (not_ok (tr_bl ((call_eq (cons_ok rfl nil_ok) rfl).trans (right_ok hM hn h8 S)))))
theorem istbl_ok {n : Nat} {M : Nat → Nat → Int} (hM : Far n M) (hn : 2 ≤ n) (h8 : n ≤ 8) (S : Sto) : m_is_table [tblF n M] S = .ok (.bl true) S := by
  unfold m_is_table b_is_table
  exact def_rt (ret_eq ((call_eq (cons_ok rfl nil_ok) rfl).trans (right_ok hM hn h8 S)))
theorem far3 {n : Nat} {M : Nat → Nat → Int} (hM : Far n M) {ev : Ev} {S : Sto} {ma mb mc : ML.M D} {i j : Nat} (ha : ma ev S = .ok (tblF n M) S) (hb : mb ev S = .ok (.int (i : Int)) S) (hc : mc ev S = .ok (.int (j : Int)) S) (hi : i < n) (hj : j < n) :
    mCall 3 m_far_of (mCons ma (mCons mb (mCons mc mNil))) ev S = .ok (.int (M i j)) S := (call_eq (cons_ok ha (cons_ok hb (cons_ok hc nil_ok))) rfl).trans (far_ok hM hi hj S)
theorem short_ok {n : Nat} {M : Nat → Nat → Int} (hM : Met n M) (hn : 2 ≤ n) (h8 : n ≤ 8) (S : Sto) : m_short_of [tblF n M] S = .ok .non S := by
  have l1 : ∀ i j z, i < n → j < n → ∃ z', l1_short_of [some (tblF n M), some (.rng 0 (n : Int)), some (.int (i : Int)), some (.int (j : Int)), z] S = .ok .nx [some (tblF n M), some (.rng 0 (n : Int)), some (.int (i : Int)), some (.int (j : Int)), z'] S := by
    intro i j z hi hj
    have hs : mRange2 (mCons (m2 (padd false) (mVar 2) (mC (.int 1))) (mCons (mCall 1 m_many_of_tables (mCons (mVar 0) (mNil))) (mNil))) [some (tblF n M), some (.rng 0 (n : Int)), some (.int (i : Int)), some (.int (j : Int)), z] S = _ :=
      src_range2 (a := i + 1) (b := n) (S1 := S) (cons_ok (S1 := S) (by simp [mDef, endS, startD, sCons, seqS, sRet, sRetN, sSet, sIf, sNil, sAsg, sExpr, sPar, par2, bindS, noEx, ML.R.bind, m1, m2, mT, mTr, asB, asTr, mC, mVar, asV_non, asV_bl, asV_int, asV_str, asV_tup, asV_lst, asV_rol, asV_ref, mL, mCons, mNil, mIf, mCall, tgN, tgSub, tgT, tgCons, tgNil, setAt, tNotM, tAndM, tOrM, mAnd, mOr, pnot, pix, pcmp, padd, psub, pmul, pfdiv, pmod, pint, plen, ptup, pisN, pnotN, seqOf, pneg, mSl, oNone, oSome, asI, mLc, mSrc, asSrc, drawn, mYes, evWipe, mkL, plst]) (cons_ok ((call_eq (cons_ok rfl nil_ok) rfl).trans (manyT_ok hn S)) nil_ok)) (by omega) (by omega)
    obtain ⟨ev', S', q1, q2⟩ := for_nx (tg := tgN 4) (body := w1_short_of) (c := ⟨((List.range (n - (i + 1))).map (i + 1 + ·)).map fun (i : Nat) => D.int (i : Int), []⟩) (fun (i : Nat) => D.int (i : Int)) (fun _ ev S' => S' = S ∧ ∃ z, ev = [some (tblF n M), some (.rng 0 (n : Int)), some (.int (i : Int)), some (.int (j : Int)), z]) (fun _ _ _ _ => rfl)
      ((List.range (n - (i + 1))).map (i + 1 + ·)) 0 [some (tblF n M), some (.rng 0 (n : Int)), some (.int (i : Int)), some (.int (j : Int)), z] S (fun _ k hk ev S' hI => by
        obtain ⟨rfl, z, rfl⟩ := hI
        obtain ⟨k', hk', rfl⟩ := List.mem_map.mp (List.mem_of_getElem? hk)
        have hk2 : i + 1 + k' < n := by have := List.mem_range.mp hk'; omega
        refine ⟨[some (tblF n M), some (.rng 0 (n : Int)), some (.int (i : Int)), some (.int (j : Int)), some (.int ((i + 1 + k' : Nat) : Int))], [some (tblF n M), some (.rng 0 (n : Int)), some (.int (i : Int)), some (.int (j : Int)), some (.int ((i + 1 + k' : Nat) : Int))], S', rfl, .inl ?_, rfl, _, rfl⟩
        generalize i + 1 + k' = k at hk2
        have f1 := far3 (ev := [some (tblF n M), some (.rng 0 (n : Int)), some (.int (i : Int)), some (.int (j : Int)), some (.int (k : Int))]) (S := S') (ma := mVar 0) (mb := mVar 2) (mc := mVar 4) hM.toFar rfl rfl rfl hi hk2
        have f2 := far3 (ev := [some (tblF n M), some (.rng 0 (n : Int)), some (.int (i : Int)), some (.int (j : Int)), some (.int (k : Int))]) (S := S') (ma := mVar 0) (mb := mVar 2) (mc := mVar 3) hM.toFar rfl rfl rfl hi hj
        have f3 := far3 (ev := [some (tblF n M), some (.rng 0 (n : Int)), some (.int (i : Int)), some (.int (j : Int)), some (.int (k : Int))]) (S := S') (ma := mVar 0) (mb := mVar 3) (mc := mVar 4) hM.toFar rfl rfl rfl hj hk2
        have t := hM.tri i j k hi hj hk2
        have hin : ∃ b, mT (m2 pnin (mVar 3) (mL ptup (mCons (mVar 2) (mCons (mVar 4) (mNil))))) [some (tblF n M), some (.rng 0 (n : Int)), some (.int (i : Int)), some (.int (j : Int)), some (.int (k : Int))] S' = .ok b S' := ⟨_, by simp [mDef, endS, startD, sCons, seqS, sRet, sRetN, sSet, sIf, sNil, sAsg, sExpr, sPar, par2, bindS, noEx, ML.R.bind, m1, m2, mT, mTr, asB, asTr, mC, mVar, asV_non, asV_bl, asV_int, asV_str, asV_tup, asV_lst, asV_rol, asV_ref, mL, mCons, mNil, mIf, mCall, tgN, tgSub, tgT, tgCons, tgNil, setAt, tNotM, tAndM, tOrM, mAnd, mOr, pnot, pix, pcmp, padd, psub, pmul, pfdiv, pmod, pint, plen, ptup, pisN, pnotN, seqOf, pneg, mSl, oNone, oSome, asI, mLc, mSrc, asSrc, drawn, mYes, evWipe, mkL, plst, pnin, isIn, py, pyL, deep]; rfl⟩
        obtain ⟨b, hb⟩ := hin
        have hq : mT (m2 (pcmp fun i j => decide (j < i)) (mCall 3 m_far_of (mCons (mVar 0) (mCons (mVar 2) (mCons (mVar 4) (mNil))))) (m2 (padd false) (mCall 3 m_far_of (mCons (mVar 0) (mCons (mVar 2) (mCons (mVar 3) (mNil))))) (mCall 3 m_far_of (mCons (mVar 0) (mCons (mVar 3) (mCons (mVar 4) (mNil))))))) [some (tblF n M), some (.rng 0 (n : Int)), some (.int (i : Int)), some (.int (j : Int)), some (.int (k : Int))] S' = .ok false S' :=
          mT_bl ((m2_eq f1 ((m2_eq f2 f3).trans rfl)).trans (by
            show R.ok (D.bl (decide (M i j + M j k < M i k))) S' = _
            rw [decide_eq_false (by omega)]))
        unfold w1_short_of
        cases b with
        | true => exact (if_yes hb).trans (if_no hq)
        | false => exact if_no hb) ⟨rfl, z, rfl⟩
    obtain ⟨rfl, z', rfl⟩ := q2
    exact ⟨z', by unfold l1_short_of; rw [sFor_eq hs]; exact q1⟩
  have hr : ∀ (a b c : Option D), mRng (mVar 1) [some (tblF n M), some (.rng 0 (n : Int)), a, b, c] S = .ok ⟨(List.range n).map fun (i : Nat) => D.int (i : Int), []⟩ S := fun a b c => src_rng rfl (by omega)
  have l2 : ∀ i y z, i < n → ∃ y' z', l2_short_of [some (tblF n M), some (.rng 0 (n : Int)), some (.int (i : Int)), y, z] S = .ok .nx [some (tblF n M), some (.rng 0 (n : Int)), some (.int (i : Int)), y', z'] S := by
    intro i y z hi
    obtain ⟨ev', S', q1, q2⟩ := for_nx (tg := tgN 3) (body := w2_short_of) (c := ⟨(List.range n).map fun (i : Nat) => D.int (i : Int), []⟩) (fun (i : Nat) => D.int (i : Int)) (fun _ ev S' => S' = S ∧ ∃ y z, ev = [some (tblF n M), some (.rng 0 (n : Int)), some (.int (i : Int)), y, z]) (fun _ _ _ _ => rfl)
      (List.range n) 0 [some (tblF n M), some (.rng 0 (n : Int)), some (.int (i : Int)), y, z] S (fun _ j hj ev S' hI => by
        obtain ⟨rfl, y, z, rfl⟩ := hI
        have hj2 : j < n := List.mem_range.mp (List.mem_of_getElem? hj)
        obtain ⟨z', q⟩ := l1 i j z hi hj2
        exact ⟨_, _, _, rfl, .inl q, rfl, _, _, rfl⟩) ⟨rfl, y, z, rfl⟩
    obtain ⟨rfl, y', z', rfl⟩ := q2
    exact ⟨y', z', by unfold l2_short_of; rw [sFor_eq (hr _ _ _)]; exact q1⟩
  have l3 : ∃ x' y' z', l3_short_of [some (tblF n M), some (.rng 0 (n : Int)), none, none, none] S = .ok .nx [some (tblF n M), some (.rng 0 (n : Int)), x', y', z'] S := by
    obtain ⟨ev', S', q1, q2⟩ := for_nx (tg := tgN 2) (body := w3_short_of) (c := ⟨(List.range n).map fun (i : Nat) => D.int (i : Int), []⟩) (fun (i : Nat) => D.int (i : Int)) (fun _ ev S' => S' = S ∧ ∃ x y z, ev = [some (tblF n M), some (.rng 0 (n : Int)), x, y, z]) (fun _ _ _ _ => rfl)
      (List.range n) 0 [some (tblF n M), some (.rng 0 (n : Int)), none, none, none] S (fun _ i hi ev S' hI => by
        obtain ⟨rfl, x, y, z, rfl⟩ := hI
        obtain ⟨y', z', q⟩ := l2 i y z (List.mem_range.mp (List.mem_of_getElem? hi))
        exact ⟨_, _, _, rfl, .inl q, rfl, _, _, _, rfl⟩) ⟨rfl, none, none, none, rfl⟩
    obtain ⟨rfl, x', y', z', rfl⟩ := q2
    exact ⟨x', y', z', by unfold l3_short_of; rw [sFor_eq (hr _ _ _)]; exact q1⟩
  obtain ⟨x', y', z', h3⟩ := l3
  unfold m_short_of b_short_of
  refine def_rt (cons_nx (set_eq ((mL_eq (cons_ok ((call_eq (cons_ok rfl nil_ok) rfl).trans (manyT_ok hn S)) nil_ok)).trans rfl)) (cons_nx h3 (ret_eq rfl)))
end Mk81


set_option Elab.async false
set_option linter.all false
set_option maxRecDepth 100000
set_option autoImplicit false
set_option maxHeartbeats 4000000
namespace Mk81
open ML PySem PySem.Spec PyProof.Rows L2
theorem check_ok {n : Nat} {M : Nat → Nat → Int} (hM : Far n M) (hn : 2 ≤ n) (h8 : n ≤ 8) (S : Sto) : m_check_table [tblF n M] S = .ok .non S := by
  unfold m_check_table b_check_table
  exact def_nx (if_no (not_ok (tr_bl ((call_eq (cons_ok rfl nil_ok) rfl).trans (istbl_ok hM hn h8 S)))))
theorem triple_ok {n : Nat} {M : Nat → Nat → Int} (hM : Met n M) (hn : 2 ≤ n) (h8 : n ≤ 8) (S : Sto) : m_short_triple [tblF n M] S = .ok .non S := by
  unfold m_short_triple b_short_triple
  exact def_rt (cons_nx (expr_nx ((call_eq (cons_ok rfl nil_ok) rfl).trans (checkTT_ok hM.toFar hn h8 S))) (ret_eq ((call_eq (cons_ok rfl nil_ok) rfl).trans (short_ok hM hn h8 S))))
theorem metric_ok {n : Nat} {M : Nat → Nat → Int} (hM : Met n M) (hn : 2 ≤ n) (h8 : n ≤ 8) (S : Sto) : m_check_metric [tblF n M] S = .ok .non S := by
  unfold m_check_metric b_check_metric
  exact def_nx (cons_nx (set_eq ((call_eq (cons_ok rfl nil_ok) rfl).trans (triple_ok hM hn h8 S))) (if_no (mT_bl (S1 := S) rfl)))
theorem known_ok {n : Nat} {M : Nat → Nat → Int} (hM : Met n M) (hn : 2 ≤ n) (h8 : n ≤ 8) (S : Sto) : m_check_known [tblF n M] S = .ok .non S := by
  unfold m_check_known b_check_known
  exact def_nx (cons_nx (expr_nx ((call_eq (cons_ok rfl nil_ok) rfl).trans (check_ok hM.toFar hn h8 S))) (expr_nx ((call_eq (cons_ok rfl nil_ok) rfl).trans (metric_ok hM hn h8 S))))
/-! ### fours -/
def lotD (l : List Nat) : D := .tup (l.map fun (n : Nat) => D.int (n : Int))
/-- all rising lists of k out of these -/
def risers : Nat → List Nat → List (List Nat)
  | 0, _ => [[]]
  | _ + 1, [] => []
  | k + 1, x :: r => (risers k r).map (x :: ·) ++ risers (k + 1) r
def foursN (n : Nat) : List (List Nat) := risers 4 (List.range n)
def okFour (n : Nat) (q : List Nat) : Bool := match q with
  | [a, b, c, d] => decide (a < b) && decide (b < c) && decide (c < d) && decide (d < n)
  | _ => false
theorem two_eight {P : Nat → Prop} (h : P 2 ∧ P 3 ∧ P 4 ∧ P 5 ∧ P 6 ∧ P 7 ∧ P 8) (n : Nat) (h2 : 2 ≤ n) (h8 : n ≤ 8) : P n := by
  have e : n = 2 ∨ n = 3 ∨ n = 4 ∨ n = 5 ∨ n = 6 ∨ n = 7 ∨ n = 8 := by omega
  rcases e with rfl | rfl | rfl | rfl | rfl | rfl | rfl
  · exact h.1
  · exact h.2.1
  · exact h.2.2.1
  · exact h.2.2.2.1
  · exact h.2.2.2.2.1
  · exact h.2.2.2.2.2.1
  · exact h.2.2.2.2.2.2
theorem foursN_ok (n : Nat) (h2 : 2 ≤ n) (h8 : n ≤ 8) : (foursN n).all (okFour n) = true := two_eight (P := fun n => (foursN n).all (okFour n) = true) (by decide +kernel) n h2 h8
theorem foursN_sub (n : Nat) (h2 : 2 ≤ n) (h8 : n ≤ 8) : (foursN n).all (fun q => (foursN 8).contains q) = true := two_eight (P := fun n => (foursN n).all (fun q => (foursN 8).contains q) = true) (by decide +kernel) n h2 h8
theorem foursN_len (n : Nat) (h2 : 2 ≤ n) (h8 : n ≤ 8) : (foursN n).length ≤ 70 := two_eight (P := fun n => (foursN n).length ≤ 70) (by decide +kernel) n h2 h8
theorem mem_four {n : Nat} (h2 : 2 ≤ n) (h8 : n ≤ 8) {q : List Nat} (h : q ∈ foursN n) : ∃ a b c d, q = [a, b, c, d] ∧ a < b ∧ b < c ∧ c < d ∧ d < n := by
  have := List.all_eq_true.mp (foursN_ok n h2 h8) q h
  unfold okFour at this
  split at this
  · rename_i a b c d
    simp only [Bool.and_eq_true, decide_eq_true_eq] at this
    exact ⟨a, b, c, d, rfl, this.1.1.1, this.1.1.2, this.1.2, this.2⟩
  · cases this
def refIs (r : R D) (ds : List D) : Bool := match r with
  | .ok (.ref k) T => match T[k]? with
    | some (.lst es) => beqL es ds
    | _ => false
  | _ => false
def valIs (r : R D) (d : D) : Bool := match r with
  | .ok e _ => e.beq d
  | _ => false
theorem refIs_ok {r : R D} {ds : List D} (h : refIs r ds = true) : ∃ k T, r = .ok (.ref k) T ∧ T[k]? = some (.lst ds) := by
  unfold refIs at h
  split at h
  · rename_i k T
    split at h
    · rename_i es he
      rw [of_beqL h] at he
      exact ⟨k, T, rfl, he⟩
    · cases h
  · cases h
theorem valIs_ok {r : R D} {d : D} (h : valIs r d = true) : ∃ T, r = .ok d T := by
  unfold valIs at h
  split at h
  · rename_i e T
    rw [D.of_beq h]
    exact ⟨T, rfl⟩
  · cases h
theorem flat_lots : ∀ ls : List (List Nat), flatL (ls.map lotD) = true
  | [] => rfl
  | l :: ls => by
    have h : ∀ l : List Nat, flatL (l.map fun (n : Nat) => D.int (n : Int)) = true := by
      intro l
      induction l with
      | nil => rfl
      | cons a l ih => exact ih
    show (flatL (l.map fun (n : Nat) => D.int (n : Int)) && flatL (ls.map lotD)) = true
    rw [h l, flat_lots ls]
    rfl
theorem fours0 (n : Nat) (h2 : 2 ≤ n) (h8 : n ≤ 8) : refIs (m_fours_of [.int (n : Int)] []) ((foursN n).map lotD) = true := two_eight (P := fun n => refIs (m_fours_of [.int (n : Int)] []) ((foursN n).map lotD) = true) (by decide +kernel) n h2 h8
theorem fours_ok {n : Nat} (h2 : 2 ≤ n) (h8 : n ≤ 8) (S : Sto) : ∃ k T, m_fours_of [.int (n : Int)] S = .ok (.ref k) (S ++ T) ∧ (S ++ T)[k]? = some (.lst ((foursN n).map lotD)) ∧ S.length ≤ k := by
  obtain ⟨k, T, e1, e2⟩ := refIs_ok (fours0 n h2 h8)
  exact lift_ref e1 rfl e2 (flat_lots _) S
theorem lfours0 (n : Nat) (h2 : 2 ≤ n) (h8 : n ≤ 8) : valIs (m__law_fours [.lst (rangeD 0 n)] []) (.lst ((foursN n).map lotD)) = true := two_eight (P := fun n => valIs (m__law_fours [.lst (rangeD 0 n)] []) (.lst ((foursN n).map lotD)) = true) (by decide +kernel) n h2 h8
theorem flat_range (a : Int) (n : Nat) : flatL (rangeD a n) = true := by
  unfold rangeD
  induction List.range n with
  | nil => rfl
  | cons x l ih => exact ih
theorem lfours_ok {n : Nat} (h2 : 2 ≤ n) (h8 : n ≤ 8) (S : Sto) : ∃ T, m__law_fours [.lst (rangeD 0 n)] S = .ok (.lst ((foursN n).map lotD)) (S ++ T) := by
  obtain ⟨T, e1⟩ := valIs_ok (lfours0 n h2 h8)
  exact lift1 e1 (by show (flatL (rangeD 0 n) && true) = true; rw [flat_range]; rfl) (flat_lots _) S
/-! ### bad fours -/
def sums3 (M : Nat → Nat → Int) : List Nat → List Int
  | [a, b, c, d] => [M a b + M c d, M a c + M b d, M a d + M b c]
  | _ => []
def badB (M : Nat → Nat → Int) (q : List Nat) : Bool := match sortI (sums3 M q) with
  | [_, y, z] => decide (y < z)
  | _ => false
def badL (n : Nat) (M : Nat → Nat → Int) : List (List Nat) := (foursN n).filter (badB M)
theorem sort3 (l : List Int) (h : l.length = 3) : ∃ x y z, sortI l = [x, y, z] := by
  have e : (sortI l).length = 3 := by unfold sortI; rw [isort_len, h]
  match sortI l, e with
  | [x, y, z], _ => exact ⟨x, y, z, rfl⟩
theorem av_tbl (n : Nat) (M : Nat → Nat → Int) (S : Sto) : asVal (some (some (tblF n M))) S = .ok (tblF n M) S := rfl
theorem av_lot (l : List Nat) (S : Sto) : asVal (some (some (lotD l))) S = .ok (lotD l) S := rfl
theorem three_ok {n : Nat} {M : Nat → Nat → Int} (hM : Far n M) {a b c d : Nat} (ha : a < n) (hb : b < n) (hc : c < n) (hd : d < n) (S : Sto) : m_three_sums [tblF n M, lotD [a, b, c, d]] S = .ok (.lst ((sortI (sums3 M [a, b, c, d])).map D.int)) S := by
  have f1 := fun S => far_ok hM ha hb S
  have f2 := fun S => far_ok hM hc hd S
  have f3 := fun S => far_ok hM ha hc S
  have f4 := fun S => far_ok hM hb hd S
  have f5 := fun S => far_ok hM ha hd S
  have f6 := fun S => far_ok hM hb hc S
  have ps := psorted_ints false [M a b + M c d, M a c + M b d, M a d + M b c] S (by simp)
  simp only [List.map_cons, List.map_nil] at ps
  unfold m_three_sums b_three_sums lotD sums3
  simp [mDef, endS, startD, sCons, seqS, sRet, sRetN, sSet, sIf, sNil, sAsg, sExpr, sPar, par2, bindS, noEx, ML.R.bind, m1, m2, mT, mTr, asB, asTr, mC, mVar, asV_non, asV_bl, asV_int, asV_str, asV_tup, asV_lst, asV_rol, asV_ref, mL, mCons, mNil, mIf, mCall, tgN, tgSub, tgT, tgCons, tgNil, setAt, tNotM, tAndM, tOrM, mAnd, mOr, pnot, pix, pcmp, padd, psub, pmul, pfdiv, pmod, pint, plen, ptup, pisN, pnotN, seqOf, pneg, mSl, oNone, oSome, asI, mLc, mSrc, asSrc, drawn, mYes, evWipe, mkL, plst, av_tbl, f1, f2, f3, f4, f5, f6, ps, seqM]
theorem four_ok {n : Nat} {M : Nat → Nat → Int} (hM : Far n M) {a b c d : Nat} (ha : a < n) (hb : b < n) (hc : c < n) (hd : d < n) (S : Sto) : ∃ i : Int, m_four_badness [tblF n M, lotD [a, b, c, d]] S = .ok (.int i) S ∧ decide (0 < i) = badB M [a, b, c, d] := by
  obtain ⟨x, y, z, e⟩ := sort3 (sums3 M [a, b, c, d]) rfl
  have t := three_ok hM ha hb hc hd S
  rw [e] at t
  simp only [List.map_cons, List.map_nil] at t
  refine ⟨z - y, ?_, ?_⟩
  · have a1 : atD [D.int x, .int y, .int z] 1 = some (.int y) := rfl
    have a2 : atD [D.int x, .int y, .int z] 2 = some (.int z) := rfl
    unfold m_four_badness b_four_badness
    simp [mDef, endS, startD, sCons, seqS, sRet, sRetN, sSet, sIf, sNil, sAsg, sExpr, sPar, par2, bindS, noEx, ML.R.bind, m1, m2, mT, mTr, asB, asTr, mC, mVar, asV_non, asV_bl, asV_int, asV_str, asV_tup, asV_lst, asV_rol, asV_ref, mL, mCons, mNil, mIf, mCall, tgN, tgSub, tgT, tgCons, tgNil, setAt, tNotM, tAndM, tOrM, mAnd, mOr, pnot, pix, pcmp, padd, psub, pmul, pfdiv, pmod, pint, plen, ptup, pisN, pnotN, seqOf, pneg, mSl, oNone, oSome, asI, mLc, mSrc, asSrc, drawn, mYes, evWipe, mkL, plst, av_tbl, av_lot, t, a1, a2]
  · unfold badB
    rw [e]
    simp only []
    congr 1
    exact propext ⟨fun h => by omega, fun h => by omega⟩
theorem bad_ok {n : Nat} {M : Nat → Nat → Int} (hM : Far n M) (h2 : 2 ≤ n) (h8 : n ≤ 8) (S : Sto) : ∃ T, m_bad_fours [tblF n M] S = .ok (.lst ((badL n M).map lotD)) (S ++ T) := by
  obtain ⟨k, T, e1, e2, e3⟩ := fours_ok h2 h8 S
  refine ⟨T, ?_⟩
  have hl := foursN_len n h2 h8
  have dr : drawn (S ++ T) (.ref k) = some ⟨(foursN n).map lotD, [(k, (foursN n).map lotD)]⟩ := by simp only [drawn, e2]
  have hs : mSrc (mCall 1 m_fours_of (mCons (mCall 1 m_many_of (mCons (mVar 0) (mNil))) (mNil))) [some (tblF n M), none] S = _ :=
    src_seq ((call_eq (cons_ok ((call_eq (cons_ok rfl nil_ok) rfl).trans (many_ok h2 S)) nil_ok) rfl).trans e1) dr
  have hc : c1_bad_fours [some (tblF n M), none] S = .ok (.lst ((badL n M).map lotD)) (S ++ T) := by
    unfold c1_bad_fours
    refine lc_if (foursN n) lotD (badB M) lotD hs (drawn_live dr) (by omega) fun q hq => ?_
    obtain ⟨a, b, c, d, rfl, q1, q2, q3, q4⟩ := mem_four h2 h8 hq
    obtain ⟨i, f1, f2⟩ := four_ok hM (a := a) (b := b) (c := c) (d := d) (by omega) (by omega) (by omega) (by omega) (S ++ T)
    refine ⟨[some (tblF n M), some (lotD [a, b, c, d])], rfl, ?_, fun _ => rfl⟩
    rw [← f2]
    exact mT_bl ((m2_eq ((call_eq (cons_ok rfl (cons_ok rfl nil_ok)) rfl).trans f1) rfl).trans rfl)
  unfold m_bad_fours b_bad_fours
  exact def_rt (ret_eq hc)
end Mk81


set_option Elab.async false
set_option linter.all false
set_option maxRecDepth 100000
set_option autoImplicit false
set_option maxHeartbeats 4000000
namespace Mk81
open ML PySem PySem.Spec PyProof.Rows L2
theorem get_mid (S T : Sto) (c : Cell) : (S ++ c :: T)[S.length]? = some c := by
  rw [List.getElem?_append_right (Nat.le_refl _), Nat.sub_self]
  rfl
theorem set_mid (S T : Sto) (c c' : Cell) : (S ++ c :: T).set S.length c' = S ++ c' :: T := by
  rw [List.set_append_right _ _ (Nat.le_refl _), Nat.sub_self]
  rfl
theorem lfar_ok {n : Nat} {M : Nat → Nat → Int} (hM : Far n M) {i j : Nat} (hi : i < n) (hj : j < n) (S : Sto) : m__law_far [tblF n M, .int (i : Int), .int (j : Int)] S = .ok (.int (M i j)) S := far_ok hM hi hj S
theorem lsums_ok {n : Nat} {M : Nat → Nat → Int} (hM : Far n M) {a b c d : Nat} (ha : a < n) (hb : b < n) (hc : c < n) (hd : d < n) (S : Sto) : m__law_sums [tblF n M, lotD [a, b, c, d]] S = .ok (.lst ((sums3 M [a, b, c, d]).map D.int)) S := by
  have f1 := fun S => lfar_ok hM ha hb S
  have f2 := fun S => lfar_ok hM hc hd S
  have f3 := fun S => lfar_ok hM ha hc S
  have f4 := fun S => lfar_ok hM hb hd S
  have f5 := fun S => lfar_ok hM ha hd S
  have f6 := fun S => lfar_ok hM hb hc S
  unfold m__law_sums b__law_sums lotD sums3
  simp [mDef, endS, startD, sCons, seqS, sRet, sRetN, sSet, sIf, sNil, sAsg, sExpr, sPar, par2, bindS, noEx, ML.R.bind, m1, m2, mT, mTr, asB, asTr, mC, mVar, asV_non, asV_bl, asV_int, asV_str, asV_tup, asV_lst, asV_rol, asV_ref, mL, mCons, mNil, mIf, mCall, tgN, tgSub, tgT, tgCons, tgNil, setAt, tNotM, tAndM, tOrM, mAnd, mOr, pnot, pix, pcmp, padd, psub, pmul, pfdiv, pmod, pint, plen, ptup, pisN, pnotN, seqOf, pneg, mSl, oNone, oSome, asI, mLc, mSrc, asSrc, drawn, mYes, evWipe, mkL, plst, av_tbl, f1, f2, f3, f4, f5, f6]
theorem lbad_ok {n : Nat} {M : Nat → Nat → Int} (hM : Far n M) (h2 : 2 ≤ n) (h8 : n ≤ 8) (S : Sto) : ∃ T, m__law_bad [tblF n M] S = .ok (.ref S.length) (S ++ .lst ((badL n M).map lotD) :: T) := by
  obtain ⟨T, e1⟩ := lfours_ok h2 h8 (S ++ [.lst []])
  refine ⟨T, ?_⟩
  have hl := foursN_len n h2 h8
  have e0 : ((n - 1 : Nat) : Int) + 1 = (n : Int) := by omega
  have hrg : ∀ (S : Sto), mL (plistR false) (mCons (m2 (padd false) (mL plen (mCons (m2 pix (mVar 0) (mC (.int 1))) (mNil))) (mC (.int 1))) (mNil)) [some (tblF n M), some (.ref S.length), none, none] (S ++ [.lst []]) = .ok (.lst (rangeD 0 n)) (S ++ [.lst []]) := fun S => by
    have h : m2 (padd false) (mL plen (mCons (m2 pix (mVar 0) (mC (.int 1))) (mNil))) (mC (.int 1)) [some (tblF n M), some (.ref S.length), none, none] (S ++ [.lst []]) = .ok (.int (n : Int)) (S ++ [.lst []]) := by
      unfold tblF
      simp [mDef, endS, startD, sCons, seqS, sRet, sRetN, sSet, sIf, sNil, sAsg, sExpr, sPar, par2, bindS, noEx, ML.R.bind, m1, m2, mT, mTr, asB, asTr, mC, mVar, asV_non, asV_bl, asV_int, asV_str, asV_tup, asV_lst, asV_rol, asV_ref, mL, mCons, mNil, mIf, mCall, tgN, tgSub, tgT, tgCons, tgNil, setAt, tNotM, tAndM, tOrM, mAnd, mOr, pnot, pix, pcmp, padd, psub, pmul, pfdiv, pmod, pint, plen, ptup, pisN, pnotN, seqOf, pneg, mSl, oNone, oSome, asI, mLc, mSrc, asSrc, drawn, mYes, evWipe, mkL, plst, tbl_rows, e0]
    refine (mL_eq (cons_ok h nil_ok)).trans ?_
    show (if RgM 0 (n : Int) then mkL false (rangeD 0 (n : Int).toNat) _ else .no) = _
    rw [if_pos (by unfold RgM; omega), Int.toNat_natCast]
    rfl
  have hs : mSrc (mCall 1 m__law_fours (mCons (mL (plistR false) (mCons (m2 (padd false) (mL plen (mCons (m2 pix (mVar 0) (mC (.int 1))) (mNil))) (mC (.int 1))) (mNil))) (mNil))) [some (tblF n M), some (.ref S.length), none, none] (S ++ [.lst []]) = _ :=
    src_seq ((call_eq (cons_ok (hrg S) nil_ok) rfl).trans e1) rfl
  obtain ⟨ev', S', q1, q2⟩ := for_nx (tg := tgN 2) (body := w1__law_bad) (c := ⟨(foursN n).map lotD, []⟩) lotD (fun i ev S' => S' = S ++ .lst (((foursN n).take i).filter (badB M) |>.map lotD) :: T ∧ ∃ x y, ev = [some (tblF n M), some (.ref S.length), x, y]) (fun _ _ _ _ => rfl)
    (foursN n) 0 [some (tblF n M), some (.ref S.length), none, none] (S ++ [.lst []] ++ T) (fun i q hq ev S' hI => by
      obtain ⟨rfl, x, y, rfl⟩ := hI
      rw [Nat.zero_add] at *
      obtain ⟨a, b, c, d, rfl, q1, q2, q3, q4⟩ := mem_four h2 h8 (List.mem_of_getElem? hq)
      have ls := fun S => lsums_ok hM (a := a) (b := b) (c := c) (d := d) (by omega) (by omega) (by omega) (by omega) S
      obtain ⟨x1, x2, x3, e3⟩ := sort3 (sums3 M [a, b, c, d]) rfl
      have hbd : badB M [a, b, c, d] = decide (x2 < x3) := by unfold badB; rw [e3]
      have ps : ∀ S, psorted false [.lst ((sums3 M [a, b, c, d]).map D.int)] S = .ok (.lst [.int x1, .int x2, .int x3]) S := fun S => by
        rw [psorted_ints false _ S (by show 3 ≤ 16777216; omega), e3]
        rfl
      have tk : (foursN n).take (i + 1) = (foursN n).take i ++ [[a, b, c, d]] := by rw [List.take_add_one, hq]; rfl
      have hz : (((foursN n).take i).filter (badB M)).length ≤ 70 := Nat.le_trans (List.length_filter_le _ _) (by rw [List.length_take]; omega)
      generalize hX : ((foursN n).take i).filter (badB M) = X at *
      have nx : ((foursN n).take (i + 1)).filter (badB M) = X ++ (if badB M [a, b, c, d] = true then [[a, b, c, d]] else []) := by
        have e : [[a, b, c, d]].filter (badB M) = (if badB M [a, b, c, d] = true then [[a, b, c, d]] else []) := by
          by_cases h : badB M [a, b, c, d] = true
          · rw [if_pos h, List.filter_cons_of_pos h, List.filter_nil]
          · rw [if_neg h, List.filter_cons_of_neg h, List.filter_nil]
        rw [tk, List.filter_append, hX, e]
      rw [nx]
      have g1 := get_mid S T (.lst (X.map lotD))
      have st := fun c' => set_mid S T (.lst (X.map lotD)) c'
      have a1 : atD [D.int x1, .int x2, .int x3] 1 = some (.int x2) := rfl
      have a2 : atD [D.int x1, .int x2, .int x3] 2 = some (.int x3) := rfl
      refine ⟨[some (tblF n M), some (.ref S.length), some (lotD [a, b, c, d]), y], [some (tblF n M), some (.ref S.length), some (lotD [a, b, c, d]), some (.lst [.int x1, .int x2, .int x3])], _, rfl, .inl ?_, rfl, _, _, rfl⟩
      unfold w1__law_bad
      refine cons_nx (set_eq ((mL_eq (cons_ok ((call_eq (cons_ok rfl (cons_ok rfl nil_ok)) rfl).trans (ls _)) nil_ok)).trans (ps _))) ?_
      have hcond : mT (m2 (pcmp fun i j => decide (i < j)) (m2 pix (mVar 3) (mC (.int 1))) (m2 pix (mVar 3) (mC (.int 2)))) [some (tblF n M), some (.ref S.length), some (lotD [a, b, c, d]), some (.lst [.int x1, .int x2, .int x3])] = fun S' => .ok (badB M [a, b, c, d]) S' := by
        funext S'
        rw [hbd]
        simp [mDef, endS, startD, sCons, seqS, sRet, sRetN, sSet, sIf, sNil, sAsg, sExpr, sPar, par2, bindS, noEx, ML.R.bind, m1, m2, mT, mTr, asB, asTr, mC, mVar, asV_non, asV_bl, asV_int, asV_str, asV_tup, asV_lst, asV_rol, asV_ref, mL, mCons, mNil, mIf, mCall, tgN, tgSub, tgT, tgCons, tgNil, setAt, tNotM, tAndM, tOrM, mAnd, mOr, pnot, pix, pcmp, padd, psub, pmul, pfdiv, pmod, pint, plen, ptup, pisN, pnotN, seqOf, pneg, mSl, oNone, oSome, asI, mLc, mSrc, asSrc, drawn, mYes, evWipe, mkL, plst, a1, a2]
      refine expr_nx (d := .non) ?_
      show mMe isSeq pextend (mVar 1) _ [some (tblF n M), some (.ref S.length), some (lotD [a, b, c, d]), some (.lst [.int x1, .int x2, .int x3])] _ = _
      cases hb : badB M [a, b, c, d] with
      | true =>
        have hif : mIf (mT (m2 (pcmp fun i j => decide (i < j)) (m2 pix (mVar 3) (mC (.int 1))) (m2 pix (mVar 3) (mC (.int 2))))) (mL (plst false) (mCons (mVar 2) (mNil))) (mL (plst false) (mNil)) [some (tblF n M), some (.ref S.length), some (lotD [a, b, c, d]), some (.lst [.int x1, .int x2, .int x3])] (S ++ .lst (X.map lotD) :: T) = .ok (.lst [lotD [a, b, c, d]]) (S ++ .lst (X.map lotD) :: T) := by
          refine (ife_t (S1 := S ++ .lst (X.map lotD) :: T) ?_).trans ?_
          · rw [hcond, hb]
          · simp [mDef, endS, startD, sCons, seqS, sRet, sRetN, sSet, sIf, sNil, sAsg, sExpr, sPar, par2, bindS, noEx, ML.R.bind, m1, m2, mT, mTr, asB, asTr, mC, mVar, asV_non, asV_bl, asV_int, asV_str, asV_tup, asV_lst, asV_rol, asV_ref, mL, mCons, mNil, mIf, mCall, tgN, tgSub, tgT, tgCons, tgNil, setAt, tNotM, tAndM, tOrM, mAnd, mOr, pnot, pix, pcmp, padd, psub, pmul, pfdiv, pmod, pint, plen, ptup, pisN, pnotN, seqOf, pneg, mSl, oNone, oSome, asI, mLc, mSrc, asSrc, drawn, mYes, evWipe, mkL, plst, av_lot]
        have hz2 : X.length + 1 ≤ 16777216 := by omega
        simp [mMe, mVar, asV_ref, R.bind, isSeq, seqOf, g1, mCons, mNil, hif, pextend, seqX, seqM, hz2, st]
      | false =>
        have hif : mIf (mT (m2 (pcmp fun i j => decide (i < j)) (m2 pix (mVar 3) (mC (.int 1))) (m2 pix (mVar 3) (mC (.int 2))))) (mL (plst false) (mCons (mVar 2) (mNil))) (mL (plst false) (mNil)) [some (tblF n M), some (.ref S.length), some (lotD [a, b, c, d]), some (.lst [.int x1, .int x2, .int x3])] (S ++ .lst (X.map lotD) :: T) = .ok (.lst []) (S ++ .lst (X.map lotD) :: T) := by
          refine (ife_f (S1 := S ++ .lst (X.map lotD) :: T) ?_).trans ?_
          · rw [hcond, hb]
          · simp [mDef, endS, startD, sCons, seqS, sRet, sRetN, sSet, sIf, sNil, sAsg, sExpr, sPar, par2, bindS, noEx, ML.R.bind, m1, m2, mT, mTr, asB, asTr, mC, mVar, asV_non, asV_bl, asV_int, asV_str, asV_tup, asV_lst, asV_rol, asV_ref, mL, mCons, mNil, mIf, mCall, tgN, tgSub, tgT, tgCons, tgNil, setAt, tNotM, tAndM, tOrM, mAnd, mOr, pnot, pix, pcmp, padd, psub, pmul, pfdiv, pmod, pint, plen, ptup, pisN, pnotN, seqOf, pneg, mSl, oNone, oSome, asI, mLc, mSrc, asSrc, drawn, mYes, evWipe, mkL, plst, av_lot]
        have hz2 : X.length ≤ 16777216 := by omega
        simp [mMe, mVar, asV_ref, R.bind, isSeq, seqOf, g1, mCons, mNil, hif, pextend, seqX, seqM, hz2, st]) ⟨by rw [List.append_assoc]; rfl, _, _, rfl⟩
  obtain ⟨rfl, x, y, rfl⟩ := q2
  rw [Nat.zero_add, List.take_length] at q1
  have h0 : mL (plst true) mNil [some (tblF n M), none, none, none] S = .ok (.ref S.length) (S ++ [.lst []]) := by simp [mDef, endS, startD, sCons, seqS, sRet, sRetN, sSet, sIf, sNil, sAsg, sExpr, sPar, par2, bindS, noEx, ML.R.bind, m1, m2, mT, mTr, asB, asTr, mC, mVar, asV_non, asV_bl, asV_int, asV_str, asV_tup, asV_lst, asV_rol, asV_ref, mL, mCons, mNil, mIf, mCall, tgN, tgSub, tgT, tgCons, tgNil, setAt, tNotM, tAndM, tOrM, mAnd, mOr, pnot, pix, pcmp, padd, psub, pmul, pfdiv, pmod, pint, plen, ptup, pisN, pnotN, seqOf, pneg, mSl, oNone, oSome, asI, mLc, mSrc, asSrc, drawn, mYes, evWipe, mkL, plst]
  have hloop : l1__law_bad [some (tblF n M), some (.ref S.length), none, none] (S ++ [.lst []]) = .ok .nx [some (tblF n M), some (.ref S.length), x, y] (S ++ .lst ((badL n M).map lotD) :: T) := by
    unfold l1__law_bad
    rw [sFor_eq hs]
    exact q1
  have hset : sSet 1 (mL (plst true) mNil) [some (tblF n M), none, none, none] S = .ok .nx [some (tblF n M), some (.ref S.length), none, none] (S ++ [.lst []]) := set_eq h0
  have hv : mVar 1 [some (tblF n M), some (.ref S.length), x, y] (S ++ .lst ((badL n M).map lotD) :: T) = .ok (.ref S.length) (S ++ .lst ((badL n M).map lotD) :: T) := rfl
  unfold m__law_bad b__law_bad
  exact def_rt (cons_nx hset (cons_nx hloop (ret_eq hv)))
end Mk81


set_option Elab.async false
set_option linter.all false
set_option maxRecDepth 100000
set_option autoImplicit false
set_option maxHeartbeats 4000000
namespace Mk81
open ML PySem PySem.Spec PyProof.Rows L2
/-! ### lots meet -/
def intsP (l : List Nat) : List PyData := l.map fun (n : Nat) => PyData.int (n : Int)
theorem py_ints (n : Nat) (S : Sto) (l : List Nat) : pyL (py (n + 1) S) (l.map fun (n : Nat) => D.int (n : Int)) = some (intsP l) := pyL_map _ _ l fun _ _ => rfl
theorem py_lot (n : Nat) (S : Sto) (l : List Nat) : py (n + 2) S (lotD l) = some (.tuple (intsP l)) := by
  show (match pyL (py (n + 1) S) (l.map fun (n : Nat) => D.int (n : Int)) with | some xs => some (PyData.tuple xs) | none => none) = _
  rw [py_ints]
theorem eqv_int (a b : Int) : PyData.eqv (.int a) (.int b) = decide (a = b) := by rw [Bool.eq_iff_iff]; simp [PyData.eqv]
theorem in_lot (t : Nat) (l : List Nat) (S : Sto) : pin (.int (t : Int)) (lotD l) S = .ok (.bl (l.contains t)) S := by
  have e : isIn S (.int (t : Int)) (lotD l) = some (l.contains t) := by
    show (match py deep S (.int (t : Int)), py deep S (lotD l) with
      | some a, some (.tuple bs) => some (bs.any fun b => PyData.eqv b a)
      | some a, some (.list bs) => some (bs.any fun b => PyData.eqv b a)
      | _, _ => none) = _
    rw [show deep = 10 + 2 from rfl, py_lot]
    show some ((intsP l).any fun b => PyData.eqv b (.int (t : Int))) = _
    congr 1
    unfold intsP
    rw [List.any_map]
    induction l with
    | nil => rfl
    | cons a l ih =>
      rw [List.any_cons, ih, List.contains_cons]
      congr 1
      show PyData.eqv (.int (a : Int)) (.int (t : Int)) = _
      rw [eqv_int, Bool.eq_iff_iff]
      simp
      omega
  show (match isIn S (.int (t : Int)) (lotD l) with | some b => R.ok (D.bl b) S | none => .no) = _
  rw [e]
def meetsB (l q : List Nat) : Bool := l.any fun t => q.contains t
theorem meets_ok (l q : List Nat) (hz : l.length ≤ 16777216) (S : Sto) : m_meets [lotD l, lotD q] S = .ok (.bl (meetsB l q)) S := by
  have hc : c1_meets [some (lotD l), some (lotD q), none] S = .ok (.lst (l.map fun t => D.bl ((fun t => q.contains t) t))) S := by
    unfold c1_meets
    refine lc_mp l (fun (n : Nat) => D.int (n : Int)) _ (deps := []) (S1 := S) rfl rfl hz fun t ht => ?_
    exact ⟨[some (lotD l), some (lotD q), some (.int (t : Int))], rfl, rfl, (m2_eq rfl rfl).trans (in_lot t q S)⟩
  unfold m_meets b_meets
  exact def_rt (ret_eq (any_ok hc))
theorem lmeets_ok (l q : List Nat) (hz : q.length ≤ 16777216) (S : Sto) : m__law_meets [lotD l, lotD q] S = .ok (.bl (meetsB q l)) S := by
  have hc : c1__law_meets [some (lotD l), some (lotD q), none] S = .ok (.lst (q.map fun t => D.bl ((fun t => l.contains t) t))) S := by
    unfold c1__law_meets
    refine lc_mp q (fun (n : Nat) => D.int (n : Int)) _ (deps := []) (S1 := S) rfl rfl hz fun t ht => ?_
    exact ⟨[some (lotD l), some (lotD q), some (.int (t : Int))], rfl, rfl, (m2_eq rfl rfl).trans (in_lot t l S)⟩
  unfold m__law_meets b__law_meets
  exact def_rt (ret_eq (any_ok hc))
theorem meets_iff {l q : List Nat} : meetsB l q = true ↔ ∃ t, t ∈ l ∧ t ∈ q := by
  unfold meetsB
  rw [List.any_eq_true]
  constructor
  · rintro ⟨t, h1, h2⟩
    exact ⟨t, h1, by simpa using h2⟩
  · rintro ⟨t, h1, h2⟩
    exact ⟨t, h1, by simpa using h2⟩
theorem meets_comm (l q : List Nat) : meetsB l q = meetsB q l := by
  rw [Bool.eq_iff_iff, meets_iff, meets_iff]
  constructor <;> rintro ⟨t, h1, h2⟩ <;> exact ⟨t, h2, h1⟩
end Mk81


set_option Elab.async false
set_option linter.all false
set_option maxRecDepth 100000
set_option autoImplicit false
set_option maxHeartbeats 4000000
namespace Mk81
open ML PySem PySem.Spec PyProof.Rows L2
/-! ### cures -/
def intsD (l : List Nat) : List D := l.map fun (n : Nat) => D.int (n : Int)
def curesB (bad : List (List Nat)) (l : List Nat) : Bool := bad.all fun q => meetsB l q
theorem cures_ok (bad : List (List Nat)) (l : List Nat) (hz : bad.length ≤ 16777216) (hl : l.length ≤ 16777216) (S : Sto) : m_cures [.lst (bad.map lotD), lotD l] S = .ok (.bl (curesB bad l)) S := by
  have hc : c1_cures [some (.lst (bad.map lotD)), some (lotD l), none] S = .ok (.lst (bad.map fun q => D.bl ((fun q => meetsB l q) q))) S := by
    unfold c1_cures
    refine lc_mp bad lotD _ (deps := []) (S1 := S) rfl rfl hz fun q hq => ?_
    exact ⟨[some (.lst (bad.map lotD)), some (lotD l), some (lotD q)], rfl, rfl, (call_eq (cons_ok rfl (cons_ok rfl nil_ok)) rfl).trans (meets_ok l q hl S)⟩
  unfold m_cures b_cures
  exact def_rt (ret_eq (all_ok hc))
/-- all lots out of these, the fewest towns first -/
def lotsOf (s : List Nat) : List (List Nat) := (List.range (s.length + 1)).flatMap fun k => risers k s
def lotsN (n : Nat) : List (List Nat) := lotsOf (List.range n)
theorem two_seven {P : Nat → Prop} (h : P 2 ∧ P 3 ∧ P 4 ∧ P 5 ∧ P 6 ∧ P 7) (n : Nat) (h2 : 2 ≤ n) (h7 : n ≤ 7) : P n := by
  have e : n = 2 ∨ n = 3 ∨ n = 4 ∨ n = 5 ∨ n = 6 ∨ n = 7 := by omega
  rcases e with rfl | rfl | rfl | rfl | rfl | rfl
  · exact h.1
  · exact h.2.1
  · exact h.2.2.1
  · exact h.2.2.2.1
  · exact h.2.2.2.2.1
  · exact h.2.2.2.2.2
/-- all but one -/
def but (n t : Nat) : List Nat := (List.range n).filter fun x => !decide (x = t)
theorem lots0 (n : Nat) (h2 : 2 ≤ n) (h7 : n ≤ 7) : (lotsN n).all (fun s => valIs (m_lots_of [.lst (intsD s)] []) (.lst ((lotsOf s).map lotD))) = true := two_seven (P := fun n => (lotsN n).all (fun s => valIs (m_lots_of [.lst (intsD s)] []) (.lst ((lotsOf s).map lotD))) = true) (by decide +kernel) n h2 h7
theorem llots0 (n : Nat) (h2 : 2 ≤ n) (h7 : n ≤ 7) : (List.range n :: (List.range n).map (but n)).all (fun s => valIs (m__law_lots [.lst (intsD s)] []) (.lst ((lotsOf s).map lotD))) = true := two_seven (P := fun n => (List.range n :: (List.range n).map (but n)).all (fun s => valIs (m__law_lots [.lst (intsD s)] []) (.lst ((lotsOf s).map lotD))) = true) (by decide +kernel) n h2 h7
def okLot (n : Nat) (l : List Nat) : Bool := decide (l.length ≤ n) && l.all (fun t => decide (t < n)) && (l.zip l.tail).all fun p => decide (p.1 < p.2)
def pwB (f : List Nat → List Nat → Bool) : List (List Nat) → Bool
  | [] => true
  | q :: r => r.all (f q) && pwB f r
theorem pwB_is {f : List Nat → List Nat → Bool} : ∀ {l : List (List Nat)}, pwB f l = true → l.Pairwise fun a b => f a b = true
  | [], _ => List.Pairwise.nil
  | q :: r, h => by
    simp only [pwB, Bool.and_eq_true] at h
    exact List.pairwise_cons.mpr ⟨fun o ho => List.all_eq_true.mp h.1 o ho, pwB_is h.2⟩
/-- what holds of lots -/
def lotsB (n : Nat) : Bool := (lotsN n).all (okLot n) && (lotsN n).contains (List.range n) && decide ((lotsN n).length ≤ 256) && pwB (fun a b => decide (a.length ≤ b.length)) (lotsN n) && (List.range n).all (fun t => (lotsN n).contains [t] && (lotsN n).contains (but n t)) &&
  (lotsN n).all (fun s => decide (lotsOf s = (lotsN n).filter fun l => l.all fun t => s.contains t))
theorem lotsN_ok (n : Nat) (h2 : 2 ≤ n) (h7 : n ≤ 7) : lotsB n = true := two_seven (P := fun n => lotsB n = true) (by decide +kernel) n h2 h7
end Mk81


set_option Elab.async false
set_option linter.all false
set_option maxRecDepth 100000
set_option autoImplicit false
set_option maxHeartbeats 4000000
namespace Mk81
open ML PySem PySem.Spec PyProof.Rows L2
/-! ### lots, plainly -/
theorem lotsB_parts {n : Nat} (h2 : 2 ≤ n) (h7 : n ≤ 7) : (∀ l ∈ lotsN n, okLot n l = true) ∧ List.range n ∈ lotsN n ∧ (lotsN n).length ≤ 256 ∧ (lotsN n).Pairwise (fun a b => a.length ≤ b.length) ∧ (∀ t, t < n → [t] ∈ lotsN n ∧ but n t ∈ lotsN n) ∧ ∀ s ∈ lotsN n, lotsOf s = (lotsN n).filter fun l => l.all fun t => s.contains t := by
  have h := lotsN_ok n h2 h7
  unfold lotsB at h
  simp only [Bool.and_eq_true] at h
  obtain ⟨⟨⟨⟨⟨a, b⟩, c⟩, d⟩, e⟩, f⟩ := h
  refine ⟨fun l hl => List.all_eq_true.mp a l hl, by simpa using b, of_decide_eq_true c, (pwB_is d).imp fun h => of_decide_eq_true h, fun t ht => ?_, fun s hs => of_decide_eq_true (List.all_eq_true.mp f s hs)⟩
  have := List.all_eq_true.mp e t (List.mem_range.mpr ht)
  rw [Bool.and_eq_true] at this
  exact ⟨by simpa using this.1, by simpa using this.2⟩
theorem mem_lot {n : Nat} (h2 : 2 ≤ n) (h7 : n ≤ 7) {l : List Nat} (h : l ∈ lotsN n) : l.length ≤ n ∧ ∀ t ∈ l, t < n := by
  have := (lotsB_parts h2 h7).1 l h
  unfold okLot at this
  simp only [Bool.and_eq_true, decide_eq_true_eq] at this
  exact ⟨this.1.1, fun t ht => by simpa using List.all_eq_true.mp this.1.2 t ht⟩
theorem lots_sub {n : Nat} (h2 : 2 ≤ n) (h7 : n ≤ 7) {s l : List Nat} (hs : s ∈ lotsN n) : l ∈ lotsOf s ↔ l ∈ lotsN n ∧ ∀ t ∈ l, t ∈ s := by
  rw [(lotsB_parts h2 h7).2.2.2.2.2 s hs, List.mem_filter, List.all_eq_true]
  simp
theorem flat_intsD (l : List Nat) : flatL (intsD l) = true := by
  unfold intsD
  induction l with
  | nil => rfl
  | cons a l ih => exact ih
theorem lots_ok {n : Nat} (h2 : 2 ≤ n) (h7 : n ≤ 7) {s : List Nat} (hs : s ∈ lotsN n) (S : Sto) : ∃ T, m_lots_of [.lst (intsD s)] S = .ok (.lst ((lotsOf s).map lotD)) (S ++ T) := by
  obtain ⟨T, e1⟩ := valIs_ok (List.all_eq_true.mp (lots0 n h2 h7) s hs)
  exact lift1 e1 (by show (flatL (intsD s) && true) = true; rw [flat_intsD]; rfl) (flat_lots _) S
theorem llots_ok {n : Nat} (h2 : 2 ≤ n) (h7 : n ≤ 7) {s : List Nat} (hs : s = List.range n ∨ ∃ t, t < n ∧ s = but n t) (S : Sto) : ∃ T, m__law_lots [.lst (intsD s)] S = .ok (.lst ((lotsOf s).map lotD)) (S ++ T) := by
  have hm : s ∈ List.range n :: (List.range n).map (but n) := by
    rcases hs with rfl | ⟨t, ht, rfl⟩
    · exact List.mem_cons_self
    · exact List.mem_cons_of_mem _ (List.mem_map.mpr ⟨t, List.mem_range.mpr ht, rfl⟩)
  obtain ⟨T, e1⟩ := valIs_ok (List.all_eq_true.mp (llots0 n h2 h7) s hm)
  exact lift1 e1 (by show (flatL (intsD s) && true) = true; rw [flat_intsD]; rfl) (flat_lots _) S
/-- the first cure out of these -/
def firstC (bad : List (List Nat)) (s : List Nat) : Option (List Nat) := (lotsOf s).find? (curesB bad)
def resD : Option (List Nat) → D
  | some l => lotD l
  | none => .non
theorem first_ok {n : Nat} (h2 : 2 ≤ n) (h7 : n ≤ 7) {s : List Nat} (hs : s ∈ lotsN n) (bad : List (List Nat)) (hz : bad.length ≤ 1000) (S : Sto) : ∃ T, m_first_cure [.lst (bad.map lotD), .lst (intsD s)] S = .ok (resD (firstC bad s)) (S ++ T) := by
  obtain ⟨T, e1⟩ := lots_ok h2 h7 hs S
  refine ⟨T, ?_⟩
  have hsr : mSrc (mCall 1 m_lots_of (mCons (mVar 1) (mNil))) [some (.lst (bad.map lotD)), some (.lst (intsD s)), none] S = _ := src_seq ((call_eq (cons_ok rfl nil_ok) rfl).trans e1) rfl
  obtain ⟨ev', S', q1, rfl, x, rfl⟩ := for_find (tg := tgN 2) (body := w1_first_cure) (c := ⟨(lotsOf s).map lotD, []⟩) lotD (curesB bad) lotD (fun ev S' => S' = S ++ T ∧ ∃ x, ev = [some (.lst (bad.map lotD)), some (.lst (intsD s)), x]) (fun _ _ _ => rfl) (lotsOf s)
    [some (.lst (bad.map lotD)), some (.lst (intsD s)), none] (S ++ T) (fun x hx ev S' hI => by
      obtain ⟨rfl, y, rfl⟩ := hI
      have hc : ∀ S, mCall 2 m_cures (mCons (mVar 0) (mCons (mVar 2) (mNil))) [some (.lst (bad.map lotD)), some (.lst (intsD s)), some (lotD x)] S = .ok (.bl (curesB bad x)) S := fun S =>
        (call_eq (cons_ok rfl (cons_ok rfl nil_ok)) rfl).trans (cures_ok bad x (by omega) (by have := (mem_lot h2 h7 ((lots_sub h2 h7 hs).mp hx).1).1; omega) S)
      refine ⟨[some (.lst (bad.map lotD)), some (.lst (intsD s)), some (lotD x)], [some (.lst (bad.map lotD)), some (.lst (intsD s)), some (lotD x)], S ++ T, rfl, ?_, rfl, _, rfl⟩
      cases hb : curesB bad x with
      | true =>
        rw [if_pos rfl]
        exact (if_yes ((tr_bl (hc _)).trans (by rw [hb]))).trans (ret_eq rfl)
      | false =>
        rw [if_neg Bool.false_ne_true]
        exact .inl (if_no ((tr_bl (hc _)).trans (by rw [hb])))) ⟨rfl, none, rfl⟩
  have e0 : l1_first_cure [some (.lst (bad.map lotD)), some (.lst (intsD s)), none] S = forL (tgN 2) w1_first_cure ⟨(lotsOf s).map lotD, []⟩ ((lotsOf s).map lotD) [some (.lst (bad.map lotD)), some (.lst (intsD s)), none] (S ++ T) := by
    unfold l1_first_cure
    rw [sFor_eq hsr]
  unfold m_first_cure b_first_cure firstC
  cases hf : (lotsOf s).find? (curesB bad) with
  | some l =>
    rw [hf] at q1
    exact def_rt (cons_rt (e0.trans q1))
  | none =>
    rw [hf] at q1
    exact def_rt (cons_nx (e0.trans q1) (ret_eq rfl))
theorem bad_small {n : Nat} {M : Nat → Nat → Int} (h2 : 2 ≤ n) (h8 : n ≤ 8) : (badL n M).length ≤ 70 := Nat.le_trans (List.length_filter_le _ _) (foursN_len n h2 h8)
theorem listR_ok {ev : Ev} {S : Sto} {m : ML.M D} {n : Nat} (h : m ev S = .ok (.int (n : Int)) S) (hn : n ≤ 8) : mL (plistR false) (mCons m mNil) ev S = .ok (.lst (intsD (List.range n))) S := by
  refine (mL_eq (cons_ok h nil_ok)).trans ?_
  show (if RgM 0 (n : Int) then mkL false (rangeD 0 (n : Int).toNat) _ else .no) = _
  rw [if_pos (by unfold RgM; omega), Int.toNat_natCast, rangeD0]
  rfl
/-! ### the cures of a table -/
theorem full_cures {n : Nat} {M : Nat → Nat → Int} (h2 : 2 ≤ n) (h8 : n ≤ 8) {s : List Nat} (hs : ∀ a b : Nat, a < n → b < n → a ≠ b → a ∈ s ∨ b ∈ s) : curesB (badL n M) s = true := by
  unfold curesB
  rw [List.all_eq_true]
  intro f hf
  obtain ⟨a, b, c, d, rfl, q1, q2, q3, q4⟩ := mem_four h2 h8 (List.mem_filter.mp hf).1
  rw [meets_iff]
  rcases hs a b (by omega) (by omega) (by omega) with h | h
  · exact ⟨a, h, by simp⟩
  · exact ⟨b, h, by simp⟩
theorem firstC_some {bad : List (List Nat)} {s l : List Nat} (hl : l ∈ lotsOf s) (hc : curesB bad l = true) : ∃ l, firstC bad s = some l := by
  unfold firstC
  cases q : (lotsOf s).find? (curesB bad) with
  | some l => exact ⟨l, rfl⟩
  | none =>
    rw [List.find?_eq_none] at q
    exact absurd hc (q _ hl)
theorem firstC_prop {bad : List (List Nat)} {s l : List Nat} (h : firstC bad s = some l) : l ∈ lotsOf s ∧ curesB bad l = true := ⟨List.mem_of_find?_eq_some h, List.find?_some (p := curesB bad) h⟩
/-- none has fewer towns -/
theorem find_least {p : List Nat → Bool} : ∀ {ls : List (List Nat)} {l : List Nat}, ls.Pairwise (fun a b => a.length ≤ b.length) → ls.find? p = some l → ∀ m ∈ ls, p m = true → l.length ≤ m.length
  | x :: ls, l, hp, h, m, hm, hq => by
    have hpc := List.pairwise_cons.mp hp
    rw [List.find?_cons] at h
    cases hx : p x with
    | true =>
      rw [hx] at h
      cases h
      rcases List.mem_cons.mp hm with rfl | hm
      · exact Nat.le_refl _
      · exact hpc.1 m hm
    | false =>
      rw [hx] at h
      rcases List.mem_cons.mp hm with rfl | hm
      · rw [hq] at hx; cases hx
      · exact find_least hpc.2 h m hm hq
theorem firstC_least {n : Nat} (h2 : 2 ≤ n) (h7 : n ≤ 7) {bad : List (List Nat)} {s l : List Nat} (hs : s ∈ lotsN n) (h : firstC bad s = some l) {m : List Nat} (hm : m ∈ lotsN n) (hms : ∀ t ∈ m, t ∈ s) (hc : curesB bad m = true) : l.length ≤ m.length := by
  have hb := lotsB_parts h2 h7
  unfold firstC at h
  have hmm : m ∈ lotsOf s := (lots_sub h2 h7 hs).mpr ⟨hm, hms⟩
  refine find_least ?_ h m hmm hc
  rw [hb.2.2.2.2.2 s hs]
  exact hb.2.2.2.1.filter _
theorem least_ok {n : Nat} {M : Nat → Nat → Int} (hM : Far n M) (h2 : 2 ≤ n) (h7 : n ≤ 7) (S : Sto) : ∃ l T, m_least_of [tblF n M] S = .ok (lotD l) (S ++ T) ∧ firstC (badL n M) (List.range n) = some l := by
  obtain ⟨T, e1⟩ := bad_ok hM h2 (by omega) S
  have hr := (lotsB_parts h2 h7).2.1
  have hrl : List.range n ∈ lotsOf (List.range n) := (lots_sub h2 h7 hr).mpr ⟨hr, fun _ h => h⟩
  obtain ⟨l, hl⟩ := firstC_some hrl (full_cures (M := M) h2 (by omega) fun a b ha hb _ => .inl (List.mem_range.mpr ha))
  obtain ⟨T2, e2⟩ := first_ok h2 h7 hr (badL n M) (by have := bad_small (M := M) h2 (show n ≤ 8 by omega); omega) (S ++ T)
  rw [hl] at e2
  refine ⟨l, T ++ T2, ?_, hl⟩
  have hm : ∀ S, mCall 1 m_many_of (mCons (mVar 0) (mNil)) [some (tblF n M)] S = .ok (.int (n : Int)) S := fun S => (call_eq (cons_ok rfl nil_ok) rfl).trans (many_ok h2 S)
  unfold m_least_of b_least_of
  refine def_rt (ret_eq ((call_eq (cons_ok ((call_eq (cons_ok rfl nil_ok) rfl).trans e1) (cons_ok (listR_ok (hm (S ++ T)) (by omega)) nil_ok)) rfl).trans ?_))
  rw [e2, List.append_assoc]
  rfl
/-- all least ones -/
def bestL (n : Nat) (bad : List (List Nat)) (k : Nat) : List (List Nat) := (lotsN n).filter fun l => decide (l.length = k) && curesB bad l
theorem lones_ok {n : Nat} {M : Nat → Nat → Int} (hM : Far n M) (h2 : 2 ≤ n) (h7 : n ≤ 7) {l : List Nat} (hl : firstC (badL n M) (List.range n) = some l) (S : Sto) : ∃ T, m_least_ones [tblF n M] S = .ok (.lst ((bestL n (badL n M) l.length).map lotD)) (S ++ T) := by
  obtain ⟨T, e1⟩ := bad_ok hM h2 (by omega) S
  obtain ⟨l', T2, e2, hl'⟩ := least_ok hM h2 h7 (S ++ T)
  rw [hl] at hl'
  cases hl'
  have hr := (lotsB_parts h2 h7).2.1
  obtain ⟨T3, e3⟩ := lots_ok h2 h7 hr (S ++ T ++ T2)
  refine ⟨T ++ T2 ++ T3, ?_⟩
  rw [← List.append_assoc, ← List.append_assoc]
  have hbz := bad_small (M := M) h2 (show n ≤ 8 by omega)
  generalize badL n M = B at *
  have ha : sAsg (tgT 2 (tgCons (tgN 1) (tgCons (tgN 2) (tgNil)))) (mL ptup (mCons (mCall 1 m_bad_fours (mCons (mVar 0) (mNil))) (mCons (mL plen (mCons (mCall 1 m_least_of (mCons (mVar 0) (mNil))) (mNil))) (mNil)))) [some (tblF n M), none, none, none] S = .ok .nx [some (tblF n M), some (.lst (B.map lotD)), some (.int (l.length : Int)), none] (S ++ T ++ T2) := by
    have h1 : mL ptup (mCons (mCall 1 m_bad_fours (mCons (mVar 0) (mNil))) (mCons (mL plen (mCons (mCall 1 m_least_of (mCons (mVar 0) (mNil))) (mNil))) (mNil))) [some (tblF n M), none, none, none] S = .ok (.tup [.lst (B.map lotD), .int (l.length : Int)]) (S ++ T ++ T2) := by
      refine (mL_eq (cons_ok ((call_eq (cons_ok rfl nil_ok) rfl).trans e1) (cons_ok ((mL_eq (cons_ok ((call_eq (cons_ok rfl nil_ok) rfl).trans e2) nil_ok)).trans (Sq.tup _).len) nil_ok))).trans ?_
      rw [List.length_map]
      rfl
    unfold sAsg
    rw [h1]
    rfl
  have hm : ∀ ev S, ev[0]? = some (some (tblF n M)) → mCall 1 m_many_of (mCons (mVar 0) (mNil)) ev S = .ok (.int (n : Int)) S := fun ev S h => (call_eq (cons_ok (show mVar 0 ev S = .ok (tblF n M) S by unfold mVar; rw [h]; rfl) nil_ok) rfl).trans (many_ok h2 S)
  have hs : mSrc (mCall 1 m_lots_of (mCons (mL (plistR false) (mCons (mCall 1 m_many_of (mCons (mVar 0) (mNil))) (mNil))) (mNil))) [some (tblF n M), some (.lst (B.map lotD)), some (.int (l.length : Int)), none] (S ++ T ++ T2) = .ok ⟨(lotsN n).map lotD, []⟩ (S ++ T ++ T2 ++ T3) :=
    src_seq ((call_eq (cons_ok (listR_ok (hm _ _ rfl) (by omega)) nil_ok) rfl).trans e3) rfl
  have hc : c1_least_ones [some (tblF n M), some (.lst (B.map lotD)), some (.int (l.length : Int)), none] (S ++ T ++ T2) = .ok (.lst ((bestL n B l.length).map lotD)) (S ++ T ++ T2 ++ T3) := by
    unfold c1_least_ones
    refine lc_if (lotsN n) lotD (fun m => decide (m.length = l.length) && curesB B m) lotD hs live_nil (by have := (lotsB_parts h2 h7).2.2.1; omega) fun m hm => ?_
    refine ⟨[some (tblF n M), some (.lst (B.map lotD)), some (.int (l.length : Int)), some (lotD m)], rfl, ?_, fun _ => rfl⟩
    have hlen : mT (m2 peq (mL plen (mCons (mVar 3) (mNil))) (mVar 2)) [some (tblF n M), some (.lst (B.map lotD)), some (.int (l.length : Int)), some (lotD m)] (S ++ T ++ T2 ++ T3) = .ok (decide (m.length = l.length)) (S ++ T ++ T2 ++ T3) := by
      refine mT_bl ((m2_eq ((mL_eq (cons_ok rfl nil_ok)).trans (Sq.tup _).len) rfl).trans ?_)
      show R.ok (D.bl (decide (((m.map fun (n : Nat) => D.int (n : Int)).length : Int) = (l.length : Int)))) _ = _
      rw [List.length_map, show decide (((m.length : Nat) : Int) = (l.length : Int)) = decide (m.length = l.length) by rw [Bool.eq_iff_iff]; simp; omega]
    have hcu : mTr (mCall 2 m_cures (mCons (mVar 1) (mCons (mVar 3) (mNil)))) [some (tblF n M), some (.lst (B.map lotD)), some (.int (l.length : Int)), some (lotD m)] (S ++ T ++ T2 ++ T3) = .ok (curesB B m) (S ++ T ++ T2 ++ T3) :=
      tr_bl ((call_eq (cons_ok rfl (cons_ok rfl nil_ok)) rfl).trans (cures_ok B m (by omega) (by have := (mem_lot h2 h7 hm).1; omega) _))
    cases hd : decide (m.length = l.length) with
    | true => rw [hd] at hlen; rw [Bool.true_and]; exact (tand_t hlen).trans hcu
    | false => rw [hd] at hlen; rw [Bool.false_and]; exact tand_f hlen
  unfold m_least_ones b_least_ones
  exact def_rt (cons_nx ha (ret_eq hc))
end Mk81


set_option Elab.async false
set_option linter.all false
set_option maxRecDepth 100000
set_option autoImplicit false
set_option maxHeartbeats 4000000
namespace Mk81
open ML PySem PySem.Spec PyProof.Rows L2
/-! ### towns by lots -/
def sureL (n : Nat) (K : List (List Nat)) : List Nat := (List.range n).filter fun t => K.all fun l => l.contains t
def freeL (n : Nat) (K : List (List Nat)) : List Nat := (List.range n).filter fun t => !K.any fun l => l.contains t
def cntL (K : List (List Nat)) (t : Nat) : Nat := (K.filter fun l => l.contains t).length
def openL (n : Nat) (K : List (List Nat)) : List Nat := (List.range n).filter fun t => decide (0 < cntL K t) && decide (cntL K t < K.length)
theorem many_ev {n : Nat} {M : Nat → Nat → Int} (h2 : 2 ≤ n) {ev : Ev} (h : ev[0]? = some (some (tblF n M))) (S : Sto) : mCall 1 m_many_of (mCons (mVar 0) (mNil)) ev S = .ok (.int (n : Int)) S := (call_eq (cons_ok (show mVar 0 ev S = .ok (tblF n M) S by unfold mVar; rw [h]; rfl) nil_ok) rfl).trans (many_ok h2 S)
theorem known_ev {n : Nat} {M : Nat → Nat → Int} (hM : Met n M) (h2 : 2 ≤ n) (h7 : n ≤ 7) {ev : Ev} (h : ev[0]? = some (some (tblF n M))) (S : Sto) : sExpr (mCall 1 m_check_known (mCons (mVar 0) (mNil))) ev S = .ok .nx ev S := expr_nx ((call_eq (cons_ok (show mVar 0 ev S = .ok (tblF n M) S by unfold mVar; rw [h]; rfl) nil_ok) rfl).trans (known_ok hM h2 (by omega) S))
theorem tup_ok {ev : Ev} {S S1 : Sto} {m : ML.M D} {ds : List D} (h : m ev S = .ok (.lst ds) S1) : mL ptuple (mCons m mNil) ev S = .ok (.tup ds) S1 := (mL_eq (cons_ok h nil_ok)).trans rfl
theorem suspects_ok {n : Nat} {M : Nat → Nat → Int} (hM : Met n M) (h2 : 2 ≤ n) (h7 : n ≤ 7) {l : List Nat} (hl : firstC (badL n M) (List.range n) = some l) (S : Sto) : ∃ T, m_suspects [tblF n M] S = .ok (lotD (sureL n (bestL n (badL n M) l.length))) (S ++ T) := by
  obtain ⟨T, e⟩ := lones_ok hM.toFar h2 h7 hl S
  refine ⟨T, ?_⟩
  have hz : (bestL n (badL n M) l.length).length ≤ 256 := Nat.le_trans (List.length_filter_le _ _) (lotsB_parts h2 h7).2.2.1
  generalize bestL n (badL n M) l.length = K at *
  have s1 : sSet 1 (mCall 1 m_least_ones (mCons (mVar 0) (mNil))) [some (tblF n M), none, none, none] S = .ok .nx [some (tblF n M), some (.lst (K.map lotD)), none, none] (S ++ T) := set_eq ((call_eq (cons_ok rfl nil_ok) rfl).trans e)
  generalize S ++ T = S1 at *
  have c2 : c2_suspects [some (tblF n M), some (.lst (K.map lotD)), none, none] S1 = .ok (.lst ((sureL n K).map fun (n : Nat) => D.int (n : Int))) S1 := by
    unfold c2_suspects
    refine lc_if (List.range n) (fun (t : Nat) => D.int (t : Int)) (fun t => K.all fun l => l.contains t) (fun (t : Nat) => D.int (t : Int)) (src_range1 (cons_ok (many_ev h2 rfl S1) nil_ok) (by omega)) rfl (by rw [List.length_range]; omega) fun t ht => ?_
    refine ⟨[some (tblF n M), some (.lst (K.map lotD)), some (.int (t : Int)), none], rfl, tr_bl (all_ok (p := fun l : List Nat => l.contains t) ?_), fun _ => rfl⟩
    unfold c1_suspects
    refine lc_mp K lotD _ (deps := []) (S1 := S1) rfl rfl (by omega) fun m hm => ?_
    exact ⟨[some (tblF n M), some (.lst (K.map lotD)), some (.int (t : Int)), some (lotD m)], rfl, rfl, (m2_eq rfl rfl).trans (in_lot t m S1)⟩
  unfold m_suspects b_suspects
  exact def_rt (cons_nx (known_ev hM h2 h7 rfl S) (cons_nx s1 (ret_eq (tup_ok c2))))
theorem trusted_ok {n : Nat} {M : Nat → Nat → Int} (hM : Met n M) (h2 : 2 ≤ n) (h7 : n ≤ 7) {l : List Nat} (hl : firstC (badL n M) (List.range n) = some l) (S : Sto) : ∃ T, m_trusted [tblF n M] S = .ok (lotD (freeL n (bestL n (badL n M) l.length))) (S ++ T) := by
  obtain ⟨T, e⟩ := lones_ok hM.toFar h2 h7 hl S
  refine ⟨T, ?_⟩
  have hz : (bestL n (badL n M) l.length).length ≤ 256 := Nat.le_trans (List.length_filter_le _ _) (lotsB_parts h2 h7).2.2.1
  generalize bestL n (badL n M) l.length = K at *
  have s1 : sSet 1 (mCall 1 m_least_ones (mCons (mVar 0) (mNil))) [some (tblF n M), none, none, none] S = .ok .nx [some (tblF n M), some (.lst (K.map lotD)), none, none] (S ++ T) := set_eq ((call_eq (cons_ok rfl nil_ok) rfl).trans e)
  generalize S ++ T = S1 at *
  have c2 : c2_trusted [some (tblF n M), some (.lst (K.map lotD)), none, none] S1 = .ok (.lst ((freeL n K).map fun (n : Nat) => D.int (n : Int))) S1 := by
    unfold c2_trusted
    refine lc_if (List.range n) (fun (t : Nat) => D.int (t : Int)) (fun t => !K.any fun l => l.contains t) (fun (t : Nat) => D.int (t : Int)) (src_range1 (cons_ok (many_ev h2 rfl S1) nil_ok) (by omega)) rfl (by rw [List.length_range]; omega) fun t ht => ?_
    refine ⟨[some (tblF n M), some (.lst (K.map lotD)), some (.int (t : Int)), none], rfl, not_ok (tr_bl (any_ok (p := fun l : List Nat => l.contains t) ?_)), fun _ => rfl⟩
    unfold c1_trusted
    refine lc_mp K lotD _ (deps := []) (S1 := S1) rfl rfl (by omega) fun m hm => ?_
    exact ⟨[some (tblF n M), some (.lst (K.map lotD)), some (.int (t : Int)), some (lotD m)], rfl, rfl, (m2_eq rfl rfl).trans (in_lot t m S1)⟩
  unfold m_trusted b_trusted
  exact def_rt (cons_nx (known_ev hM h2 h7 rfl S) (cons_nx s1 (ret_eq (tup_ok c2))))
theorem filter_take_succ {α : Type} (p : α → Bool) (l : List α) (i : Nat) (x : α) (h : l[i]? = some x) : (l.take (i + 1)).filter p = (l.take i).filter p ++ (if p x = true then [x] else []) := by
  rw [List.take_add_one, h]
  show (l.take i ++ [x]).filter p = _
  rw [List.filter_append]
  congr 1
  by_cases q : p x = true
  · rw [if_pos q, List.filter_cons_of_pos q, List.filter_nil]
  · rw [if_neg q, List.filter_cons_of_neg q, List.filter_nil]
theorem ext_ok {ev : Ev} {S : Sto} {k : Nat} {ds es : List D} {m : ML.M D} {x : Nat} (hx : ev[x]? = some (some (.ref k))) (hk : S[k]? = some (.lst ds)) (hm : m ev S = .ok (.lst es) S) (hz : ds.length + es.length ≤ 16777216) : sExpr (mMe isSeq pextend (mVar x) (mCons m mNil)) ev S = .ok .nx ev (S.set k (.lst (ds ++ es))) := by
  simp [sExpr, bindS, noEx, mMe, mVar, hx, asV_ref, R.bind, isSeq, seqOf, hk, mCons, mNil, hm, pextend, seqX, seqM, hz]
theorem open_ok {n : Nat} {M : Nat → Nat → Int} (hM : Met n M) (h2 : 2 ≤ n) (h7 : n ≤ 7) {l : List Nat} (hl : firstC (badL n M) (List.range n) = some l) (S : Sto) : ∃ T, m_open_towns [tblF n M] S = .ok (lotD (openL n (bestL n (badL n M) l.length))) (S ++ T) := by
  obtain ⟨T, e⟩ := lones_ok hM.toFar h2 h7 hl S
  have hz : (bestL n (badL n M) l.length).length ≤ 256 := Nat.le_trans (List.length_filter_le _ _) (lotsB_parts h2 h7).2.2.1
  generalize bestL n (badL n M) l.length = K at *
  refine ⟨T ++ [.lst (intsD (openL n K))], ?_⟩
  rw [← List.append_assoc]
  have s1 : sPar 1 2 (mCons (mCall 1 m_least_ones (mCons (mVar 0) (mNil))) (mCons (mL (plst true) (mNil)) (mNil))) [some (tblF n M), none, none, none, none, none] S = .ok .nx [some (tblF n M), some (.lst (K.map lotD)), some (.ref (S ++ T).length), none, none, none] (S ++ T ++ [.lst []]) :=
    par_eq (cons_ok ((call_eq (cons_ok rfl nil_ok) rfl).trans e) (cons_ok ((mL_eq nil_ok).trans (by simp [plst, mkL])) nil_ok))
  generalize S ++ T = S1 at *
  obtain ⟨ev', S', q1, rfl, x, y, z, rfl⟩ := for_nx (tg := tgN 3) (body := w1_open_towns) (c := ⟨(List.range n).map fun (i : Nat) => D.int (i : Int), []⟩) (fun (i : Nat) => D.int (i : Int))
    (fun i ev S' => S' = S1 ++ [.lst (intsD (((List.range n).take i).filter fun t => decide (0 < cntL K t) && decide (cntL K t < K.length)))] ∧ ∃ x y z, ev = [some (tblF n M), some (.lst (K.map lotD)), some (.ref S1.length), x, y, z])
    (fun _ _ _ _ => rfl) (List.range n) 0 [some (tblF n M), some (.lst (K.map lotD)), some (.ref S1.length), none, none, none] (S1 ++ [.lst []])
    (fun i t ht ev S' hI => by
      obtain ⟨rfl, x, y, z, rfl⟩ := hI
      rw [Nat.zero_add] at *
      rw [filter_take_succ _ _ i t ht]
      generalize hF : ((List.range n).take i).filter (fun t => decide (0 < cntL K t) && decide (cntL K t < K.length)) = F
      have hFl : F.length ≤ n := by
        rw [← hF]
        refine Nat.le_trans (List.length_filter_le _ _) ?_
        rw [List.length_take, List.length_range]
        omega
      have hc : c1_open_towns [some (tblF n M), some (.lst (K.map lotD)), some (.ref S1.length), some (.int (t : Int)), y, z] (S1 ++ [.lst (intsD F)]) = .ok (.lst ((K.filter fun l => l.contains t).map lotD)) (S1 ++ [.lst (intsD F)]) := by
        have hs : mSrc (mVar 1) [some (tblF n M), some (.lst (K.map lotD)), some (.ref S1.length), some (.int (t : Int)), y, z] (S1 ++ [.lst (intsD F)]) = .ok ⟨K.map lotD, []⟩ (S1 ++ [.lst (intsD F)]) := src_seq (d := .lst (K.map lotD)) rfl rfl
        unfold c1_open_towns
        refine lc_if K lotD (fun l => l.contains t) lotD hs rfl (by omega) fun m hm => ?_
        exact ⟨[some (tblF n M), some (.lst (K.map lotD)), some (.ref S1.length), some (.int (t : Int)), y, some (lotD m)], rfl, mT_bl ((m2_eq rfl rfl).trans (in_lot t m _)), fun _ => rfl⟩
      have e4 : sSet 4 (mL plen (mCons c1_open_towns mNil)) [some (tblF n M), some (.lst (K.map lotD)), some (.ref S1.length), some (.int (t : Int)), y, z] (S1 ++ [.lst (intsD F)]) = .ok .nx [some (tblF n M), some (.lst (K.map lotD)), some (.ref S1.length), some (.int (t : Int)), some (.int (cntL K t : Int)), z] (S1 ++ [.lst (intsD F)]) := by
        refine set_eq ((mL_eq (cons_ok hc nil_ok)).trans ((Sq.lst _).len.trans ?_))
        rw [List.length_map]
        rfl
      have hch : mT (mChain (pcmp fun i j => decide (i < j)) (pcmp fun i j => decide (i < j)) (mC (.int 0)) (mVar 4) (mL plen (mCons (mVar 1) (mNil)))) [some (tblF n M), some (.lst (K.map lotD)), some (.ref S1.length), some (.int (t : Int)), some (.int (cntL K t : Int)), z] (S1 ++ [.lst (intsD F)]) = .ok (decide (0 < cntL K t) && decide (cntL K t < K.length)) (S1 ++ [.lst (intsD F)]) := by
        refine mT_bl ?_
        have hv : mVar 4 [some (tblF n M), some (.lst (K.map lotD)), some (.ref S1.length), some (.int (t : Int)), some (.int (cntL K t : Int)), z] (S1 ++ [.lst (intsD F)]) = .ok (.int (cntL K t : Int)) (S1 ++ [.lst (intsD F)]) := rfl
        have hl2 : mL plen (mCons (mVar 1) (mNil)) [some (tblF n M), some (.lst (K.map lotD)), some (.ref S1.length), some (.int (t : Int)), some (.int (cntL K t : Int)), z] (S1 ++ [.lst (intsD F)]) = .ok (.int (K.length : Int)) (S1 ++ [.lst (intsD F)]) := by
          refine (mL_eq (cons_ok rfl nil_ok)).trans ((Sq.lst _).len.trans ?_)
          rw [List.length_map]
        simp only [mChain, mC, bind_ok, hv]
        have c0 : decide ((0 : Int) < (cntL K t : Int)) = decide (0 < cntL K t) := by rw [Bool.eq_iff_iff]; simp
        have c1 : decide ((cntL K t : Int) < (K.length : Int)) = decide (cntL K t < K.length) := by rw [Bool.eq_iff_iff]; simp
        simp only [pcmp, c0, bind_ok]
        cases decide (0 < cntL K t) with
        | false => rfl
        | true =>
          simp only [chain2, hl2, bind_ok, Bool.true_and]
          show R.ok (D.bl (decide ((cntL K t : Int) < (K.length : Int)))) _ = _
          rw [c1]
      refine ⟨_, [some (tblF n M), some (.lst (K.map lotD)), some (.ref S1.length), some (.int (t : Int)), some (.int (cntL K t : Int)), z], _, rfl, .inl (cons_nx e4 ?_), rfl, _, _, _, rfl⟩
      have hg : (S1 ++ [Cell.lst (intsD F)])[S1.length]? = some (.lst (intsD F)) := get_end S1 _
      cases hb : decide (0 < cntL K t) && decide (cntL K t < K.length) with
      | true =>
        rw [hb] at hch
        have hm : mIf (mT (mChain (pcmp fun i j => decide (i < j)) (pcmp fun i j => decide (i < j)) (mC (.int 0)) (mVar 4) (mL plen (mCons (mVar 1) (mNil))))) (mL (plst false) (mCons (mVar 3) (mNil))) (mL (plst false) (mNil)) [some (tblF n M), some (.lst (K.map lotD)), some (.ref S1.length), some (.int (t : Int)), some (.int (cntL K t : Int)), z] (S1 ++ [.lst (intsD F)]) = .ok (.lst [.int (t : Int)]) (S1 ++ [.lst (intsD F)]) := (ife_t hch).trans rfl
        refine (ext_ok rfl hg hm (by unfold intsD; rw [List.length_map]; simp; omega)).trans ?_
        rw [List.set_append_right _ _ (Nat.le_refl _), Nat.sub_self, if_pos rfl]
        unfold intsD
        rw [List.map_append]
        rfl
      | false =>
        rw [hb] at hch
        have hm : mIf (mT (mChain (pcmp fun i j => decide (i < j)) (pcmp fun i j => decide (i < j)) (mC (.int 0)) (mVar 4) (mL plen (mCons (mVar 1) (mNil))))) (mL (plst false) (mCons (mVar 3) (mNil))) (mL (plst false) (mNil)) [some (tblF n M), some (.lst (K.map lotD)), some (.ref S1.length), some (.int (t : Int)), some (.int (cntL K t : Int)), z] (S1 ++ [.lst (intsD F)]) = .ok (.lst []) (S1 ++ [.lst (intsD F)]) := (ife_f hch).trans rfl
        refine (ext_ok rfl hg hm (by unfold intsD; rw [List.length_map]; simp; omega)).trans ?_
        rw [List.set_append_right _ _ (Nat.le_refl _), Nat.sub_self, if_neg Bool.false_ne_true, List.append_nil, List.append_nil]
        rfl) ⟨rfl, none, none, none, rfl⟩
  have hloop : l1_open_towns [some (tblF n M), some (.lst (K.map lotD)), some (.ref S1.length), none, none, none] (S1 ++ [.lst []]) = .ok .nx [some (tblF n M), some (.lst (K.map lotD)), some (.ref S1.length), x, y, z] (S1 ++ [.lst (intsD (openL n K))]) := by
    unfold l1_open_towns
    rw [sFor_eq (src_range1 (n := n) (cons_ok (many_ev h2 rfl _) nil_ok) (by omega)), q1, List.length_range, Nat.zero_add, List.take_of_length_le (by rw [List.length_range]; omega)]
    rfl
  have hret : mL ptuple (mCons (mVar 2) mNil) [some (tblF n M), some (.lst (K.map lotD)), some (.ref S1.length), x, y, z] (S1 ++ [.lst (intsD (openL n K))]) = .ok (lotD (openL n K)) (S1 ++ [.lst (intsD (openL n K))]) := by
    refine (mL_eq (cons_ok rfl nil_ok)).trans ?_
    have hg := get_end S1 (.lst (intsD (openL n K)))
    simp [ptuple, seqOf, hg]
    rfl
  unfold m_open_towns b_open_towns
  exact def_rt (cons_nx (known_ev hM h2 h7 rfl S) (cons_nx s1 (cons_nx hloop (ret_eq hret))))
end Mk81


set_option Elab.async false
set_option linter.all false
set_option maxRecDepth 100000
set_option autoImplicit false
set_option maxHeartbeats 4000000
namespace Mk81
open ML PySem PySem.Spec PyProof.Rows L2
/-! ### spoilers, blames, believed towns -/
theorem pne_nil (B : List (List Nat)) (S : Sto) : pne (.lst (B.map lotD)) (.lst []) S = .ok (.bl (!decide (B = []))) S := by
  have h1 : py deep S (.lst (B.map lotD)) = some (.list (B.map fun l => .tuple (intsP l))) := by
    show (match pyL (py 11 S) (B.map lotD) with | some xs => some (PyData.list xs) | none => none) = _
    rw [pyL_map lotD (fun l => PyData.tuple (intsP l)) B fun l _ => py_lot 9 S l]
  have h2 : py deep S (.lst []) = some (.list []) := rfl
  show (match py deep S (.lst (B.map lotD)), py deep S (.lst []) with
    | some a, some b => R.ok (D.bl (!PyData.eqv a b)) S
    | _, _ => .no) = _
  rw [h1, h2]
  cases B with
  | nil => simp [PyData.eqv, PyData.eqvAll]
  | cons q r => simp [PyData.eqv, PyData.eqvAll]
def spoilL (n : Nat) (B : List (List Nat)) : List Nat := (List.range n).filter fun t => !decide (B = []) && curesB B [t]
def blameL (n : Nat) (B : List (List Nat)) : List Nat := (List.range n).map fun t => (B.filter fun q => q.contains t).length
theorem spoilers_ok {n : Nat} {M : Nat → Nat → Int} (hM : Met n M) (h2 : 2 ≤ n) (h7 : n ≤ 7) (S : Sto) : ∃ T, m_spoilers [tblF n M] S = .ok (.ref (S ++ T).length) (S ++ T ++ [.lst (intsD (spoilL n (badL n M)))]) := by
  obtain ⟨T, e⟩ := bad_ok hM.toFar h2 (by omega) S
  refine ⟨T, ?_⟩
  have hz := bad_small (M := M) h2 (show n ≤ 8 by omega)
  generalize badL n M = B at *
  have s1 : sSet 1 (mCall 1 m_bad_fours (mCons (mVar 0) (mNil))) [some (tblF n M), none, none] S = .ok .nx [some (tblF n M), some (.lst (B.map lotD)), none] (S ++ T) := set_eq ((call_eq (cons_ok rfl nil_ok) rfl).trans e)
  generalize S ++ T = S1 at *
  have c1 : c1_spoilers [some (tblF n M), some (.lst (B.map lotD)), none] S1 = .ok (.ref S1.length) (S1 ++ [.lst (intsD (spoilL n B))]) := by
    unfold c1_spoilers
    refine lc_if (List.range n) (fun (t : Nat) => D.int (t : Int)) (fun t => !decide (B = []) && curesB B [t]) (fun (t : Nat) => D.int (t : Int)) (src_range1 (cons_ok (many_ev h2 rfl S1) nil_ok) (by omega)) rfl (by rw [List.length_range]; omega) fun t ht => ?_
    refine ⟨[some (tblF n M), some (.lst (B.map lotD)), some (.int (t : Int))], rfl, ?_, fun _ => rfl⟩
    have p1 : mT (m2 pne (mVar 1) (mL (plst false) (mNil))) [some (tblF n M), some (.lst (B.map lotD)), some (.int (t : Int))] S1 = .ok (!decide (B = [])) S1 := mT_bl ((m2_eq rfl rfl).trans (pne_nil B S1))
    have p2 : mTr (mCall 2 m_cures (mCons (mVar 1) (mCons (mL ptup (mCons (mVar 2) (mNil))) (mNil)))) [some (tblF n M), some (.lst (B.map lotD)), some (.int (t : Int))] S1 = .ok (curesB B [t]) S1 :=
      tr_bl ((call_eq (cons_ok rfl (cons_ok (d := lotD [t]) rfl nil_ok)) rfl).trans (cures_ok B [t] (by omega) (by simp) S1))
    cases hb : (!decide (B = [])) with
    | true => rw [hb] at p1; rw [Bool.true_and]; exact (tand_t p1).trans p2
    | false => rw [hb] at p1; rw [Bool.false_and]; exact tand_f p1
  unfold m_spoilers b_spoilers
  exact def_rt (cons_nx (known_ev hM h2 h7 rfl S) (cons_nx s1 (ret_eq c1)))
theorem blames_ok {n : Nat} {M : Nat → Nat → Int} (hM : Met n M) (h2 : 2 ≤ n) (h7 : n ≤ 7) (S : Sto) : ∃ T, m_blames [tblF n M] S = .ok (.ref (S ++ T).length) (S ++ T ++ [.lst (intsD (blameL n (badL n M)))]) := by
  obtain ⟨T, e⟩ := bad_ok hM.toFar h2 (by omega) S
  refine ⟨T, ?_⟩
  have hz := bad_small (M := M) h2 (show n ≤ 8 by omega)
  generalize badL n M = B at *
  have s1 : sSet 1 (mCall 1 m_bad_fours (mCons (mVar 0) (mNil))) [some (tblF n M), none, none, none] S = .ok .nx [some (tblF n M), some (.lst (B.map lotD)), none, none] (S ++ T) := set_eq ((call_eq (cons_ok rfl nil_ok) rfl).trans e)
  generalize S ++ T = S1 at *
  have c2 : c2_blames [some (tblF n M), some (.lst (B.map lotD)), none, none] S1 = .ok (.ref S1.length) (S1 ++ [.lst (intsD (blameL n B))]) := by
    have e0 : intsD (blameL n B) = (List.range n).map fun t => D.int ((B.filter fun q => q.contains t).length : Int) := by unfold intsD blameL; rw [List.map_map]; rfl
    rw [e0]
    unfold c2_blames
    refine lc_mp (List.range n) (fun (t : Nat) => D.int (t : Int)) _ (src_range1 (cons_ok (many_ev h2 rfl S1) nil_ok) (by omega)) rfl (by rw [List.length_range]; omega) fun t ht => ?_
    refine ⟨[some (tblF n M), some (.lst (B.map lotD)), some (.int (t : Int)), none], rfl, rfl, ?_⟩
    have hs : mSrc (mVar 1) [some (tblF n M), some (.lst (B.map lotD)), some (.int (t : Int)), none] S1 = .ok ⟨B.map lotD, []⟩ S1 := src_seq (d := .lst (B.map lotD)) rfl rfl
    have c1 : c1_blames [some (tblF n M), some (.lst (B.map lotD)), some (.int (t : Int)), none] S1 = .ok (.lst ((B.filter fun q => q.contains t).map lotD)) S1 := by
      unfold c1_blames
      refine lc_if B lotD (fun q => q.contains t) lotD hs rfl (by omega) fun q hq => ?_
      exact ⟨[some (tblF n M), some (.lst (B.map lotD)), some (.int (t : Int)), some (lotD q)], rfl, mT_bl ((m2_eq rfl rfl).trans (in_lot t q S1)), fun _ => rfl⟩
    refine (mL_eq (cons_ok c1 nil_ok)).trans ((Sq.lst _).len.trans ?_)
    rw [List.length_map]
  unfold m_blames b_blames
  exact def_rt (cons_nx (known_ev hM h2 h7 rfl S) (cons_nx s1 (ret_eq c2)))
/-! ### among a lot -/
def valIs0 (r : R D) (d : D) : Bool := match r with
  | .ok e [] => e.beq d
  | _ => false
theorem valIs0_ok {r : R D} {d : D} (h : valIs0 r d = true) : r = .ok d [] := by
  unfold valIs0 at h
  split at h
  · rw [D.of_beq h]
  · cases h
theorem ris0 (n : Nat) (h2 : 2 ≤ n) (h7 : n ≤ 7) : (lotsN n).all (fun s => valIs0 (m_is_rising [lotD s, .int (n : Int)] []) (.bl true)) = true := two_seven (P := fun n => (lotsN n).all (fun s => valIs0 (m_is_rising [lotD s, .int (n : Int)] []) (.bl true)) = true) (by decide +kernel) n h2 h7
theorem lotr_ok {n : Nat} {M : Nat → Nat → Int} (h2 : 2 ≤ n) (h7 : n ≤ 7) {s : List Nat} (hs : s ∈ lotsN n) (S : Sto) : m_lot_is_right [tblF n M, lotD s] S = .ok (.bl true) S := by
  have h := valIs0_ok (List.all_eq_true.mp (ris0 n h2 h7) s hs)
  have hf : flatL [lotD s, .int (n : Int)] = true := by
    have := flat_lots [s]
    exact this
  have l := lift0 h hf S
  have l' : m_is_rising [lotD s, .int (n : Int)] S = .ok (.bl true) S := by simpa [stSh, D.sh] using l
  unfold m_lot_is_right b_lot_is_right
  exact def_rt (ev1 := [some (tblF n M), some (lotD s)]) (ret_eq ((call_eq (cons_ok (d := lotD s) rfl (cons_ok (many_ev h2 rfl S) nil_ok)) rfl).trans l'))
theorem among_ok {n : Nat} {M : Nat → Nat → Int} (hM : Met n M) (h2 : 2 ≤ n) (h7 : n ≤ 7) {s : List Nat} (hs : s ∈ lotsN n) (S : Sto) : ∃ T, m_least_among [tblF n M, lotD s] S = .ok (resD (firstC (badL n M) s)) (S ++ T) := by
  obtain ⟨T, e1⟩ := bad_ok hM.toFar h2 (by omega) S
  have hz := bad_small (M := M) h2 (show n ≤ 8 by omega)
  obtain ⟨T2, e2⟩ := first_ok h2 h7 hs (badL n M) (by omega) (S ++ T)
  refine ⟨T ++ T2, ?_⟩
  rw [← List.append_assoc]
  have a1 : sExpr (mCall 1 m_check_table (mCons (mVar 0) (mNil))) [some (tblF n M), some (lotD s)] S = .ok .nx [some (tblF n M), some (lotD s)] S := expr_nx ((call_eq (cons_ok rfl nil_ok) rfl).trans (check_ok hM.toFar h2 (by omega) S))
  have a2 : sExpr (mCall 1 m_check_metric (mCons (mVar 0) (mNil))) [some (tblF n M), some (lotD s)] S = .ok .nx [some (tblF n M), some (lotD s)] S := expr_nx ((call_eq (cons_ok rfl nil_ok) rfl).trans (metric_ok hM h2 (by omega) S))
  have a3 : tNotM (mTr (mCall 2 m_lot_is_right (mCons (mVar 0) (mCons (mVar 1) (mNil))))) [some (tblF n M), some (lotD s)] S = .ok false S := not_ok (tr_bl ((call_eq (cons_ok rfl (cons_ok rfl nil_ok)) rfl).trans (lotr_ok h2 h7 hs S)))
  unfold m_least_among b_least_among
  exact def_rt (cons_nx a1 (cons_nx (if_no a3) (cons_nx a2 (ret_eq ((call_eq (cons_ok ((call_eq (cons_ok rfl nil_ok) rfl).trans e1) (cons_ok (d := .lst (intsD s)) rfl nil_ok)) rfl).trans e2)))))
/-! ### without a town -/
theorem pos_ok {t n : Nat} (h : t < n) (S : Sto) : m_is_position [.int (t : Int), .int (n : Int)] S = .ok (.bl true) S := by
  have c := count_ok (t : Int) (by omega) S
  have e : decide ((t : Int) < (n : Int)) = true := decide_eq_true (by omega)
  unfold m_is_position b_is_position
  refine def_rt (ev1 := [some (.int (t : Int)), some (.int (n : Int))]) (ret_eq ((and_t ((call_eq (cons_ok rfl nil_ok) rfl).trans c)).trans ((m2_eq rfl rfl).trans ?_)))
  show R.ok (D.bl (decide ((t : Int) < (n : Int)))) S = _
  rw [e]
theorem town_ok {n : Nat} {M : Nat → Nat → Int} (hM : Met n M) (h2 : 2 ≤ n) (h7 : n ≤ 7) {t : Nat} (ht : t < n) (S : Sto) : m_check_town [tblF n M, .int (t : Int)] S = .ok .non S := by
  have a1 : sExpr (mCall 1 m_check_table (mCons (mVar 0) (mNil))) [some (tblF n M), some (.int (t : Int))] S = .ok .nx [some (tblF n M), some (.int (t : Int))] S := expr_nx ((call_eq (cons_ok rfl nil_ok) rfl).trans (check_ok hM.toFar h2 (by omega) S))
  have a2 : sExpr (mCall 1 m_check_metric (mCons (mVar 0) (mNil))) [some (tblF n M), some (.int (t : Int))] S = .ok .nx [some (tblF n M), some (.int (t : Int))] S := expr_nx ((call_eq (cons_ok rfl nil_ok) rfl).trans (metric_ok hM h2 (by omega) S))
  have a3 : tNotM (mTr (mCall 2 m_is_position (mCons (mVar 1) (mCons (mCall 1 m_many_of (mCons (mVar 0) (mNil))) (mNil))))) [some (tblF n M), some (.int (t : Int))] S = .ok false S := not_ok (tr_bl ((call_eq (cons_ok rfl (cons_ok (many_ev h2 rfl S) nil_ok)) rfl).trans (pos_ok ht S)))
  unfold m_check_town b_check_town
  exact def_nx (cons_nx a1 (cons_nx (if_no a3) a2))
theorem pne_int (i j : Int) (S : Sto) : pne (.int i) (.int j) S = .ok (.bl (!decide (i = j))) S := rfl
theorem believing_of_ok {n : Nat} {M : Nat → Nat → Int} (hM : Met n M) (h2 : 2 ≤ n) (h7 : n ≤ 7) {t : Nat} (ht : t < n) (S : Sto) : ∃ T, m_believing_of [tblF n M, .int (t : Int)] S = .ok (resD (firstC (badL n M) (but n t))) (S ++ T) := by
  obtain ⟨T, e1⟩ := bad_ok hM.toFar h2 (by omega) S
  have hz := bad_small (M := M) h2 (show n ≤ 8 by omega)
  obtain ⟨T2, e2⟩ := first_ok h2 h7 ((lotsB_parts h2 h7).2.2.2.2.1 t ht).2 (badL n M) (by omega) (S ++ T)
  refine ⟨T ++ T2, ?_⟩
  rw [← List.append_assoc]
  have c1 : c1_believing_of [some (tblF n M), some (.int (t : Int)), none] (S ++ T) = .ok (.lst (intsD (but n t))) (S ++ T) := by
    unfold c1_believing_of
    refine lc_if (List.range n) (fun (t : Nat) => D.int (t : Int)) (fun x => !decide (x = t)) (fun (t : Nat) => D.int (t : Int)) (src_range1 (cons_ok (many_ev h2 rfl _) nil_ok) (by omega)) rfl (by rw [List.length_range]; omega) fun x hx => ?_
    refine ⟨[some (tblF n M), some (.int (t : Int)), some (.int (x : Int))], rfl, ?_, fun _ => rfl⟩
    refine mT_bl ((m2_eq rfl rfl).trans ((pne_int _ _ _).trans ?_))
    rw [show decide ((x : Int) = (t : Int)) = decide (x = t) by rw [Bool.eq_iff_iff]; simp; omega]
  unfold m_believing_of b_believing_of
  exact def_rt (ret_eq ((call_eq (cons_ok ((call_eq (cons_ok rfl nil_ok) rfl).trans e1) (cons_ok c1 nil_ok)) rfl).trans e2))
theorem mem_but {n t x : Nat} : x ∈ but n t ↔ x < n ∧ x ≠ t := by
  unfold but
  rw [List.mem_filter, List.mem_range]
  simp
theorem but_first {n : Nat} (M : Nat → Nat → Int) (h2 : 2 ≤ n) (h7 : n ≤ 7) {t : Nat} (ht : t < n) : ∃ l, firstC (badL n M) (but n t) = some l := by
  have hb := ((lotsB_parts h2 h7).2.2.2.2.1 t ht).2
  exact firstC_some ((lots_sub h2 h7 hb).mpr ⟨hb, fun _ h => h⟩) (full_cures h2 (by omega) fun a b ha hb hab => by
    rw [mem_but, mem_but]
    omega)
theorem believing_ok {n : Nat} {M : Nat → Nat → Int} (hM : Met n M) (h2 : 2 ≤ n) (h7 : n ≤ 7) {t : Nat} (ht : t < n) {l : List Nat} (hl : firstC (badL n M) (but n t) = some l) (S : Sto) : ∃ T, m_believing [tblF n M, .int (t : Int)] S = .ok (lotD l) (S ++ T) := by
  obtain ⟨T, e⟩ := believing_of_ok hM h2 h7 ht S
  rw [hl] at e
  refine ⟨T, ?_⟩
  unfold m_believing b_believing
  exact def_rt (cons_nx (expr_nx ((call_eq (cons_ok rfl (cons_ok rfl nil_ok)) rfl).trans (town_ok hM h2 h7 ht S))) (ret_eq ((call_eq (cons_ok rfl (cons_ok rfl nil_ok)) rfl).trans e)))
theorem len_lot (l : List Nat) (S : Sto) : plen [lotD l] S = .ok (.int (l.length : Int)) S := by
  refine (Sq.tup _).len.trans ?_
  rw [List.length_map]
theorem price_ok {n : Nat} {M : Nat → Nat → Int} (hM : Met n M) (h2 : 2 ≤ n) (h7 : n ≤ 7) {t : Nat} (ht : t < n) {l m : List Nat} (hl : firstC (badL n M) (but n t) = some l) (hm : firstC (badL n M) (List.range n) = some m) (S : Sto) : ∃ T, m_price [tblF n M, .int (t : Int)] S = .ok (.int ((l.length : Int) - (m.length : Int))) (S ++ T) := by
  obtain ⟨T, e⟩ := believing_of_ok hM h2 h7 ht S
  rw [hl] at e
  obtain ⟨m', T2, e2, hm'⟩ := least_ok hM.toFar h2 h7 (S ++ T)
  rw [hm] at hm'
  cases hm'
  refine ⟨T ++ T2, ?_⟩
  rw [← List.append_assoc]
  unfold m_price b_price
  refine def_rt (cons_nx (expr_nx ((call_eq (cons_ok rfl (cons_ok rfl nil_ok)) rfl).trans (town_ok hM h2 h7 ht S))) (ret_eq ((m2_eq ((mL_eq (cons_ok ((call_eq (cons_ok rfl (cons_ok rfl nil_ok)) rfl).trans e) nil_ok)).trans (len_lot l _)) ((mL_eq (cons_ok ((call_eq (cons_ok rfl nil_ok) rfl).trans e2) nil_ok)).trans (len_lot m _))).trans rfl)))
def needD (B : List (List Nat)) (t : Nat) (l : List Nat) : D := if curesB B [t] = true then .int (l.length : Int) else .non
theorem need_ok {n : Nat} {M : Nat → Nat → Int} (hM : Met n M) (h2 : 2 ≤ n) (h7 : n ≤ 7) {t : Nat} (ht : t < n) {l : List Nat} (hl : firstC (badL n M) (but n t) = some l) (S : Sto) : ∃ T, m_need [tblF n M, .int (t : Int)] S = .ok (needD (badL n M) t l) (S ++ T) := by
  obtain ⟨T, e1⟩ := bad_ok hM.toFar h2 (by omega) S
  have hz := bad_small (M := M) h2 (show n ≤ 8 by omega)
  obtain ⟨T2, e⟩ := believing_of_ok hM h2 h7 ht (S ++ T)
  rw [hl] at e
  have hc : mTr (mCall 2 m_cures (mCons (mCall 1 m_bad_fours (mCons (mVar 0) (mNil))) (mCons (mL ptup (mCons (mVar 1) (mNil))) (mNil)))) [some (tblF n M), some (.int (t : Int))] S = .ok (curesB (badL n M) [t]) (S ++ T) :=
    tr_bl ((call_eq (cons_ok ((call_eq (cons_ok rfl nil_ok) rfl).trans e1) (cons_ok (d := lotD [t]) rfl nil_ok)) rfl).trans (cures_ok _ [t] (by omega) (by simp) _))
  have a1 : sExpr (mCall 2 m_check_town (mCons (mVar 0) (mCons (mVar 1) (mNil)))) [some (tblF n M), some (.int (t : Int))] S = .ok .nx [some (tblF n M), some (.int (t : Int))] S := expr_nx ((call_eq (cons_ok rfl (cons_ok rfl nil_ok)) rfl).trans (town_ok hM h2 h7 ht S))
  unfold m_need b_need needD
  cases hb : curesB (badL n M) [t] with
  | true =>
    rw [hb] at hc
    refine ⟨T ++ T2, ?_⟩
    rw [← List.append_assoc, if_pos rfl]
    exact def_rt (cons_nx a1 (ret_eq ((ife_t hc).trans ((mL_eq (cons_ok ((call_eq (cons_ok rfl (cons_ok rfl nil_ok)) rfl).trans e) nil_ok)).trans (len_lot l _)))))
  | false =>
    rw [hb] at hc
    refine ⟨T, ?_⟩
    rw [if_neg Bool.false_ne_true]
    exact def_rt (cons_nx a1 (ret_eq ((ife_f hc).trans rfl)))
end Mk81


set_option Elab.async false
set_option linter.all false
set_option maxRecDepth 100000
set_option autoImplicit false
set_option maxHeartbeats 4000000
namespace Mk81
open ML PySem PySem.Spec PyProof.Rows L2
/-! ### five towns -/
def goodP (M : Nat → Nat → Int) (a b c d : Nat) : Prop := M a b + M c d ≤ max (M a c + M b d) (M a d + M b c) ∧ M a c + M b d ≤ max (M a b + M c d) (M a d + M b c) ∧ M a d + M b c ≤ max (M a b + M c d) (M a c + M b d)
theorem le_mx (a b c : Int) : a ≤ max b c ↔ a ≤ b ∨ a ≤ c := by omega
theorem top_two (s1 s2 s3 : Int) : (match sortI [s1, s2, s3] with
    | [_, y, z] => decide (y < z)
    | _ => false) = false ↔ s1 ≤ max s2 s3 ∧ s2 ≤ max s1 s3 ∧ s3 ≤ max s1 s2 := by
  rw [le_mx, le_mx, le_mx]
  by_cases h1 : s2 ≤ s3 <;> by_cases h2 : s1 ≤ s2 <;> by_cases h3 : s1 ≤ s3 <;> simp [sortI, isort, insS, leI, h1, h2, h3] <;> omega
theorem badB_good {M : Nat → Nat → Int} {a b c d : Nat} : badB M [a, b, c, d] = false ↔ goodP M a b c d := top_two _ _ _
theorem good_five {M : Nat → Nat → Int} {t a b c d : Nat} (h1 : goodP M t a b c) (h2 : goodP M t a b d) (h3 : goodP M t a c d) (h4 : goodP M t b c d) : goodP M a b c d := by
  unfold goodP at *
  obtain ⟨p1, p2, p3⟩ := h1
  obtain ⟨q1, q2, q3⟩ := h2
  obtain ⟨r1, r2, r3⟩ := h3
  obtain ⟨s1, s2, s3⟩ := h4
  refine ⟨?_, ?_, ?_⟩
  · clear p1 p2 q1 q2 r2 r3 s2 s3
    omega
  · clear p1 p3 q2 q3 r1 r2 s1 s3
    omega
  · clear p2 p3 q1 q3 r1 r3 s1 s2
    omega
/-! ### fours, any way round -/
theorem good_12 {M : Nat → Nat → Int} {n a b c d : Nat} (sy : ∀ i j, i < n → j < n → M i j = M j i) (ha : a < n) (hb : b < n) (h : goodP M a b c d) : goodP M b a c d := by
  unfold goodP at *
  rw [sy b a hb ha]
  omega
theorem good_23 {M : Nat → Nat → Int} {n a b c d : Nat} (sy : ∀ i j, i < n → j < n → M i j = M j i) (hb : b < n) (hc : c < n) (h : goodP M a b c d) : goodP M a c b d := by
  unfold goodP at *
  rw [sy c b hc hb]
  omega
theorem good_34 {M : Nat → Nat → Int} {n a b c d : Nat} (sy : ∀ i j, i < n → j < n → M i j = M j i) (hc : c < n) (hd : d < n) (h : goodP M a b c d) : goodP M a b d c := by
  unfold goodP at *
  rw [sy d c hd hc]
  omega
theorem rising0 : ((List.range 8).all fun a => (List.range 8).all fun b => (List.range 8).all fun c => (List.range 8).all fun d => !(decide (a < b) && decide (b < c) && decide (c < d)) || (foursN 8).contains [a, b, c, d]) = true := by decide +kernel
theorem below0 (n : Nat) (h2 : 2 ≤ n) (h8 : n ≤ 8) : decide ((foursN 8).filter (fun q => q.all fun t => decide (t < n)) = foursN n) = true := two_eight (P := fun n => decide ((foursN 8).filter (fun q => q.all fun t => decide (t < n)) = foursN n) = true) (by decide +kernel) n h2 h8
theorem four_mem {n : Nat} (h2 : 2 ≤ n) (h8 : n ≤ 8) {a b c d : Nat} (hab : a < b) (hbc : b < c) (hcd : c < d) (hd : d < n) : [a, b, c, d] ∈ foursN n := by
  rw [← of_decide_eq_true (below0 n h2 h8), List.mem_filter]
  constructor
  · have r := List.all_eq_true.mp (List.all_eq_true.mp (List.all_eq_true.mp (List.all_eq_true.mp rising0 a (List.mem_range.mpr (by omega))) b (List.mem_range.mpr (by omega))) c (List.mem_range.mpr (by omega))) d (List.mem_range.mpr (by omega))
    simpa [hab, hbc, hcd] using r
  · simp
    omega
/-- a town among three others -/
theorem among_three {n : Nat} {M : Nat → Nat → Int} (sy : ∀ i j, i < n → j < n → M i j = M j i) (h2 : 2 ≤ n) (h8 : n ≤ 8) {t x y z : Nat} (hxy : x < y) (hyz : y < z) (hz : z < n) (ht : t < n) (n1 : t ≠ x) (n2 : t ≠ y) (n3 : t ≠ z) :
    ∃ G ∈ foursN n, t ∈ G ∧ (∀ u ∈ G, u = t ∨ u = x ∨ u = y ∨ u = z) ∧ (badB M G = false → goodP M t x y z) := by
  rcases Nat.lt_or_ge t x with q | q
  · exact ⟨[t, x, y, z], four_mem h2 h8 q hxy hyz hz, by simp, by simp, fun h => badB_good.mp h⟩
  rcases Nat.lt_or_ge t y with q2 | q2
  · exact ⟨[x, t, y, z], four_mem h2 h8 (by omega) q2 hyz hz, by simp, by simp <;> omega, fun h => good_12 sy (by omega) ht (badB_good.mp h)⟩
  rcases Nat.lt_or_ge t z with q3 | q3
  · exact ⟨[x, y, t, z], four_mem h2 h8 hxy (by omega) q3 hz, by simp, by simp <;> omega, fun h => good_12 sy (by omega) ht (good_23 sy (by omega) ht (badB_good.mp h))⟩
  · exact ⟨[x, y, z, t], four_mem h2 h8 hxy hyz (by omega) ht, by simp, by simp <;> omega, fun h => good_12 sy (by omega) ht (good_23 sy (by omega) ht (good_34 sy (by omega) ht (badB_good.mp h)))⟩
/-- of a bad four and a town, some four with the town is bad -/
theorem five_bad {n : Nat} {M : Nat → Nat → Int} (hM : Far n M) (h2 : 2 ≤ n) (h8 : n ≤ 8) {F : List Nat} (hF : F ∈ badL n M) {t : Nat} (ht : t < n) : ∃ G ∈ badL n M, t ∈ G ∧ ∀ u ∈ G, u = t ∨ u ∈ F := by
  have hf := List.mem_filter.mp hF
  obtain ⟨a, b, c, d, rfl, hab, hbc, hcd, hd⟩ := mem_four h2 h8 hf.1
  by_cases hm : t ∈ [a, b, c, d]
  · exact ⟨_, hF, hm, fun u hu => .inr hu⟩
  · have hm' : t ≠ a ∧ t ≠ b ∧ t ≠ c ∧ t ≠ d := by simpa using hm
    obtain ⟨m1, m2, m3, m4⟩ := hm'
    obtain ⟨G1, g1, g2, g3, g4⟩ := among_three hM.sym h2 h8 hab hbc (by omega) ht m1 m2 m3
    obtain ⟨G2, k1, k2, k3, k4⟩ := among_three hM.sym h2 h8 hab (show b < d by omega) hd ht m1 m2 m4
    obtain ⟨G3, i1, i2, i3, i4⟩ := among_three hM.sym h2 h8 (show a < c by omega) hcd hd ht m1 m3 m4
    obtain ⟨G4, j1, j2, j3, j4⟩ := among_three hM.sym h2 h8 hbc hcd hd ht m2 m3 m4
    cases e1 : badB M G1 with
    | true => exact ⟨G1, List.mem_filter.mpr ⟨g1, e1⟩, g2, fun u hu => by have := g3 u hu; simp; omega⟩
    | false =>
      cases e2 : badB M G2 with
      | true => exact ⟨G2, List.mem_filter.mpr ⟨k1, e2⟩, k2, fun u hu => by have := k3 u hu; simp; omega⟩
      | false =>
        cases e3 : badB M G3 with
        | true => exact ⟨G3, List.mem_filter.mpr ⟨i1, e3⟩, i2, fun u hu => by have := i3 u hu; simp; omega⟩
        | false =>
          cases e4 : badB M G4 with
          | true => exact ⟨G4, List.mem_filter.mpr ⟨j1, e4⟩, j2, fun u hu => by have := j3 u hu; simp; omega⟩
          | false =>
            have := badB_good.mpr (good_five (g4 e1) (k4 e2) (i4 e3) (j4 e4))
            rw [this] at hf
            exact absurd hf.2 Bool.false_ne_true
/-! ### lots that meet all bad fours -/
def wayB (B : List (List Nat)) (t : Nat) (l : List Nat) : Bool := (B.filter fun q => q.contains t).all fun q => meetsB (q.filter fun x => !decide (x = t)) l
theorem way_cures {n : Nat} {M : Nat → Nat → Int} (hM : Far n M) (h2 : 2 ≤ n) (h8 : n ≤ 8) {t : Nat} (ht : t < n) {l : List Nat} (hl : t ∉ l) : wayB (badL n M) t l = curesB (badL n M) l := by
  rw [Bool.eq_iff_iff]
  unfold wayB curesB
  rw [List.all_eq_true, List.all_eq_true]
  constructor
  · intro h F hF
    obtain ⟨G, g1, g2, g3⟩ := five_bad hM h2 h8 hF ht
    have := h G (List.mem_filter.mpr ⟨g1, by simpa using g2⟩)
    obtain ⟨u, u1, u2⟩ := meets_iff.mp this
    have u1 := List.mem_filter.mp u1
    have hut : u ≠ t := by simpa using u1.2
    rcases g3 u u1.1 with rfl | q
    · exact absurd rfl hut
    · exact meets_iff.mpr ⟨u, u2, q⟩
  · intro h q hq
    have hq := List.mem_filter.mp hq
    obtain ⟨u, u1, u2⟩ := meets_iff.mp (h q hq.1)
    refine meets_iff.mpr ⟨u, List.mem_filter.mpr ⟨u2, ?_⟩, u1⟩
    have : u ≠ t := by rintro rfl; exact hl u1
    simpa using this
/-! ### blames -/
theorem sum_add (f g : Nat → Nat) : ∀ l : List Nat, (l.map fun t => f t + g t).sum = (l.map f).sum + (l.map g).sum
  | [] => rfl
  | x :: l => by
    rw [List.map_cons, List.map_cons, List.map_cons, List.sum_cons, List.sum_cons, List.sum_cons, sum_add f g l]
    omega
theorem sum_one (p : Nat → Bool) : ∀ l : List Nat, (l.map fun t => if p t = true then 1 else 0).sum = (l.filter p).length
  | [] => rfl
  | x :: l => by
    rw [List.map_cons, List.sum_cons, sum_one p l]
    by_cases h : p x = true
    · rw [if_pos h, List.filter_cons_of_pos h, List.length_cons]; omega
    · rw [if_neg h, List.filter_cons_of_neg h]; omega
theorem four_towns0 (n : Nat) (h2 : 2 ≤ n) (h8 : n ≤ 8) : (foursN n).all (fun q => decide (((List.range n).filter fun t => q.contains t).length = 4)) = true := two_eight (P := fun n => (foursN n).all (fun q => decide (((List.range n).filter fun t => q.contains t).length = 4)) = true) (by decide +kernel) n h2 h8
theorem blame_sum {n : Nat} (h2 : 2 ≤ n) (h8 : n ≤ 8) : ∀ B : List (List Nat), (∀ q ∈ B, q ∈ foursN n) → (blameL n B).sum = 4 * B.length
  | [], _ => by
    unfold blameL
    have := sum_one (fun _ => false) (List.range n)
    have e : (List.range n).filter (fun _ => false) = [] := List.filter_eq_nil_iff.mpr fun _ _ h => by cases h
    rw [e] at this
    simpa using this
  | q :: B, h => by
    have ih := blame_sum h2 h8 B fun p hp => h p (List.mem_cons_of_mem _ hp)
    unfold blameL at ih ⊢
    have e : ((List.range n).map fun t => ((q :: B).filter fun q => q.contains t).length) = (List.range n).map fun t => (B.filter fun q => q.contains t).length + (if q.contains t = true then 1 else 0) := by
      refine List.map_congr_left fun t _ => ?_
      by_cases hq : q.contains t = true
      · rw [if_pos hq, List.filter_cons_of_pos (p := fun q : List Nat => q.contains t) hq, List.length_cons]
      · rw [if_neg hq, List.filter_cons_of_neg (p := fun q : List Nat => q.contains t) hq]; omega
    rw [e, sum_add, ih, sum_one, of_decide_eq_true (List.all_eq_true.mp (four_towns0 n h2 h8) q (h q List.mem_cons_self)), List.length_cons]
    omega
theorem blame_none {n : Nat} {M : Nat → Nat → Int} (hM : Far n M) (h2 : 2 ≤ n) (h8 : n ≤ 8) (h : 0 ∈ blameL n (badL n M)) : badL n M = [] := by
  obtain ⟨t, ht, e⟩ := List.mem_map.mp h
  have ht := List.mem_range.mp ht
  cases hB : badL n M with
  | nil => rfl
  | cons F r =>
    obtain ⟨G, g1, g2, _⟩ := five_bad hM h2 h8 (F := F) (by rw [hB]; exact List.mem_cons_self) ht
    have : G ∈ (badL n M).filter fun q => q.contains t := List.mem_filter.mpr ⟨g1, by simpa using g2⟩
    rw [List.length_eq_zero_iff.mp e] at this
    cases this
end Mk81


set_option Elab.async false
set_option linter.all false
set_option maxRecDepth 100000
set_option autoImplicit false
set_option maxHeartbeats 4000000
namespace Mk81
open ML PySem PySem.Spec PyProof.Rows L2
theorem draw_is : m__law_draw = mDraw := rfl
theorem pot_is : m__law_pot = mPot := rfl
theorem same_b (r : List D → Sto → R D) : b__law_same r = sameB r := rfl
theorem same_n : ∀ n, r__law_same n = rSame n
  | 0 => rfl
  | n + 1 => by
    show mDef _ (b__law_same (r__law_same n)) = mDef _ (sameB (rSame n))
    rw [same_n n, same_b]
theorem same_is : m__law_same = rSame 8 := same_n 8
theorem metric_is : m__law_metric = mLmetric := rfl
/-! ### the law's own cures -/
def Bs (S : Sto) (kb : Nat) (B : List (List Nat)) : Prop := S[kb]? = some (Cell.lst (B.map lotD))
theorem Bs.app {S : Sto} {kb : Nat} {B : List (List Nat)} (h : Bs S kb B) (T : Sto) : Bs (S ++ T) kb B := get_app h T
theorem Bs.src {S : Sto} {kb : Nat} {B : List (List Nat)} (h : Bs S kb B) {ev : Ev} {i : Nat} (hi : ev[i]? = some (some (.ref kb))) : mSrc (mVar i) ev S = .ok ⟨B.map lotD, depsOf (.ref kb) (B.map lotD)⟩ S ∧ ∀ c, Src.live ⟨c, depsOf (.ref kb) (B.map lotD)⟩ S = true := by
  have q : Sq S (.ref kb) (B.map lotD) := .ref h
  exact ⟨src_seq (d := .ref kb) (by unfold mVar; rw [hi]; rfl) q.dr, q.live⟩
def curesL (n : Nat) (B : List (List Nat)) : List (List Nat) := (lotsN n).filter (curesB B)
theorem all_congr {α : Type} {f g : α → Bool} : ∀ {l : List α}, (∀ x ∈ l, f x = g x) → l.all f = l.all g
  | [], _ => rfl
  | x :: l, h => by rw [List.all_cons, List.all_cons, h x List.mem_cons_self, all_congr fun y hy => h y (List.mem_cons_of_mem _ hy)]
theorem lcures_ok {n : Nat} (h2 : 2 ≤ n) (h7 : n ≤ 7) {B : List (List Nat)} (hz : B.length ≤ 70) (hq : ∀ q ∈ B, q.length ≤ 100) {kb : Nat} {S : Sto} (hS : Bs S kb B) : ∃ T, m__law_cures [.ref kb, .lst (intsD (List.range n))] S = .ok (.lst ((curesL n B).map lotD)) (S ++ T) := by
  obtain ⟨T, e⟩ := llots_ok h2 h7 (.inl rfl) S
  refine ⟨T, ?_⟩
  have hS1 := hS.app T
  have hs : mSrc (mCall 1 m__law_lots (mCons (mVar 1) (mNil))) [some (.ref kb), some (.lst (intsD (List.range n))), none, none] S = .ok ⟨(lotsN n).map lotD, []⟩ (S ++ T) := src_seq ((call_eq (cons_ok rfl nil_ok) rfl).trans e) rfl
  have c2 : c2__law_cures [some (.ref kb), some (.lst (intsD (List.range n))), none, none] S = .ok (.lst ((curesL n B).map lotD)) (S ++ T) := by
    unfold c2__law_cures
    refine lc_if (lotsN n) lotD (curesB B) lotD hs live_nil (by have := (lotsB_parts h2 h7).2.2.1; omega) fun l hl => ?_
    refine ⟨[some (.ref kb), some (.lst (intsD (List.range n))), some (lotD l), none], rfl, ?_, fun _ => rfl⟩
    have hb := hS1.src (ev := [some (.ref kb), some (.lst (intsD (List.range n))), some (lotD l), none]) (i := 0) rfl
    have c1 : c1__law_cures [some (.ref kb), some (.lst (intsD (List.range n))), some (lotD l), none] (S ++ T) = .ok (.lst (B.map fun q => D.bl (meetsB q l))) (S ++ T) := by
      unfold c1__law_cures
      refine lc_mp B lotD _ hb.1 (hb.2 _) (by omega) fun q hqm => ?_
      exact ⟨[some (.ref kb), some (.lst (intsD (List.range n))), some (lotD l), some (lotD q)], rfl, rfl, (call_eq (cons_ok rfl (cons_ok rfl nil_ok)) rfl).trans (lmeets_ok l q (by have := hq q hqm; omega) _)⟩
    rw [show curesB B l = B.all fun q => meetsB q l from all_congr fun q _ => meets_comm l q]
    exact tr_bl (all_ok c1)
  unfold m__law_cures b__law_cures
  exact def_rt (ret_eq c2)
theorem pix0 (l : List (List Nat)) (S : Sto) (q : List Nat) (r : List (List Nat)) (h : l = q :: r) : pix (.lst (l.map lotD)) (.int 0) S = .ok (lotD q) S := by
  subst h
  exact pix_lst (t := 0) rfl
theorem lamong_ok (C : List (List Nat)) (hz : C.length ≤ 256) (hq : ∀ l ∈ C, l.length ≤ 100) (s : List Nat) (S : Sto) : m__law_among [.lst (C.map lotD), lotD s] S = .ok (resD ((C.filter fun l => l.all fun t => s.contains t).head?)) S := by
  have c2 : c2__law_among [some (.lst (C.map lotD)), some (lotD s), none, none, none] S = .ok (.lst ((C.filter fun l => l.all fun t => s.contains t).map lotD)) S := by
    have hs : mSrc (mVar 0) [some (.lst (C.map lotD)), some (lotD s), none, none, none] S = .ok ⟨C.map lotD, []⟩ S := src_seq (d := .lst (C.map lotD)) rfl rfl
    unfold c2__law_among
    refine lc_if C lotD (fun l => l.all fun t => s.contains t) lotD hs rfl (by omega) fun l hl => ?_
    refine ⟨[some (.lst (C.map lotD)), some (lotD s), none, some (lotD l), none], rfl, tr_bl (all_ok (p := fun t : Nat => s.contains t) ?_), fun _ => rfl⟩
    have hs2 : mSrc (mVar 3) [some (.lst (C.map lotD)), some (lotD s), none, some (lotD l), none] S = .ok ⟨l.map fun (t : Nat) => D.int (t : Int), []⟩ S := src_seq (d := lotD l) rfl rfl
    unfold c1__law_among
    refine lc_mp l (fun (t : Nat) => D.int (t : Int)) _ hs2 rfl (by have := hq l hl; omega) fun t ht => ?_
    exact ⟨[some (.lst (C.map lotD)), some (lotD s), none, some (lotD l), some (.int (t : Int))], rfl, rfl, (m2_eq rfl rfl).trans (in_lot t s S)⟩
  generalize C.filter (fun l => l.all fun t => s.contains t) = F at *
  have s1 : sSet 2 c2__law_among [some (.lst (C.map lotD)), some (lotD s), none, none, none] S = .ok .nx [some (.lst (C.map lotD)), some (lotD s), some (.lst (F.map lotD)), none, none] S := set_eq c2
  have hc : mT (m2 pne (mVar 2) (mL (plst false) (mNil))) [some (.lst (C.map lotD)), some (lotD s), some (.lst (F.map lotD)), none, none] S = .ok (!decide (F = [])) S := mT_bl ((m2_eq rfl rfl).trans (pne_nil F S))
  unfold m__law_among b__law_among
  cases F with
  | nil => exact def_rt (cons_nx s1 (ret_eq ((ife_f (hc.trans rfl)).trans rfl)))
  | cons q r => exact def_rt (cons_nx s1 (ret_eq ((ife_t (hc.trans (by rw [decide_eq_false (by simp)]; rfl))).trans ((m2_eq rfl rfl).trans (pix0 _ S q r rfl)))))
theorem among_eq {n : Nat} (h2 : 2 ≤ n) (h7 : n ≤ 7) {s : List Nat} (hs : s ∈ lotsN n) (B : List (List Nat)) : ((curesL n B).filter fun l => l.all fun t => s.contains t).head? = firstC B s := by
  unfold curesL firstC
  rw [(lotsB_parts h2 h7).2.2.2.2.2 s hs, ← List.head?_filter, List.filter_filter, List.filter_filter]
  congr 1
  exact List.filter_congr fun l _ => Bool.and_comm _ _
theorem cures_one (B : List (List Nat)) (t : Nat) : curesB B [t] = !B.any fun q => !q.contains t := by
  induction B with
  | nil => rfl
  | cons q B ih =>
    have ih' : (B.all fun q => meetsB [t] q) = !B.any fun q => !q.contains t := ih
    show (meetsB [t] q && B.all fun q => meetsB [t] q) = _
    rw [ih', List.any_cons]
    unfold meetsB
    rw [List.any_cons, List.any_nil, Bool.or_false]
    cases q.contains t <;> rfl
theorem nin_lot (t : Nat) (l : List Nat) (S : Sto) : pnin (.int (t : Int)) (lotD l) S = .ok (.bl (!l.contains t)) S := by
  have h := in_lot t l S
  unfold pin at h
  unfold pnin
  cases e : isIn S (.int (t : Int)) (lotD l) with
  | none => rw [e] at h; cases h
  | some b =>
    rw [e] at h
    have : b = l.contains t := by simpa using h
    subst this
    rfl
theorem lneed_ok {n : Nat} (h2 : 2 ≤ n) (h7 : n ≤ 7) {B : List (List Nat)} (hz : B.length ≤ 70) (hq : ∀ q ∈ B, q.length ≤ 100) {kb : Nat} {S : Sto} (hS : Bs S kb B) {t : Nat} (ht : t < n) {l : List Nat} (hl : firstC B (but n t) = some l) :
    ∃ T, m__law_need [.ref kb, .int (n : Int), .int (t : Int)] S = .ok (needD B t l) (S ++ T) := by
  have hb := hS.src (ev := [some (.ref kb), some (.int (n : Int)), some (.int (t : Int)), none, none, none, none, none]) (i := 0) rfl
  have c1 : c1__law_need [some (.ref kb), some (.int (n : Int)), some (.int (t : Int)), none, none, none, none, none] S = .ok (.lst (B.map fun q => D.bl (!q.contains t))) S := by
    unfold c1__law_need
    refine lc_mp B lotD _ hb.1 (hb.2 _) (by omega) fun q hqm => ?_
    exact ⟨[some (.ref kb), some (.int (n : Int)), some (.int (t : Int)), none, none, none, none, some (lotD q)], rfl, rfl, (m2_eq rfl rfl).trans (nin_lot t q S)⟩
  have a1 : mTr (mL pany (mCons c1__law_need mNil)) [some (.ref kb), some (.int (n : Int)), some (.int (t : Int)), none, none, none, none, none] S = .ok (B.any fun q => !q.contains t) S := tr_bl (any_ok c1)
  unfold m__law_need b__law_need needD
  rw [cures_one]
  cases hc : B.any fun q => !q.contains t with
  | true =>
    rw [hc] at a1
    refine ⟨[], ?_⟩
    rw [List.append_nil]
    exact def_rt (cons_rt ((if_yes a1).trans (ret_eq rfl)))
  | false =>
    rw [hc] at a1
    obtain ⟨T, e⟩ := llots_ok h2 h7 (.inr ⟨t, ht, rfl⟩) S
    refine ⟨T, ?_⟩
    have hS1 := hS.app T
    have c2 : c2__law_need [some (.ref kb), some (.int (n : Int)), some (.int (t : Int)), none, none, none, none, none] S = .ok (.lst (intsD (but n t))) S := by
      unfold c2__law_need
      refine lc_if (List.range n) (fun (t : Nat) => D.int (t : Int)) (fun x => !decide (x = t)) (fun (t : Nat) => D.int (t : Int)) (src_range1 (cons_ok rfl nil_ok) (by omega)) rfl (by rw [List.length_range]; omega) fun x hx => ?_
      refine ⟨[some (.ref kb), some (.int (n : Int)), some (.int (t : Int)), none, none, some (.int (x : Int)), none, none], rfl, ?_, fun _ => rfl⟩
      refine mT_bl ((m2_eq rfl rfl).trans ((pne_int _ _ _).trans ?_))
      rw [show decide ((x : Int) = (t : Int)) = decide (x = t) by rw [Bool.eq_iff_iff]; simp; omega]
    have hbut := ((lotsB_parts h2 h7).2.2.2.2.1 t ht).2
    have hs : mSrc (mCall 1 m__law_lots (mCons (mVar 3) (mNil))) [some (.ref kb), some (.int (n : Int)), some (.int (t : Int)), some (.lst (intsD (but n t))), none, none, none, none] S = .ok ⟨(lotsOf (but n t)).map lotD, []⟩ (S ++ T) := src_seq ((call_eq (cons_ok rfl nil_ok) rfl).trans e) rfl
    have c4 : c4__law_need [some (.ref kb), some (.int (n : Int)), some (.int (t : Int)), some (.lst (intsD (but n t))), none, none, none, none] S = .ok (.lst (((lotsOf (but n t)).filter (curesB B)).map lotD)) (S ++ T) := by
      unfold c4__law_need
      have hlz : (lotsOf (but n t)).length ≤ 256 := by
        rw [(lotsB_parts h2 h7).2.2.2.2.2 _ hbut]
        exact Nat.le_trans (List.length_filter_le _ _) (lotsB_parts h2 h7).2.2.1
      refine lc_if (lotsOf (but n t)) lotD (curesB B) lotD hs live_nil (by omega) fun m hm => ?_
      refine ⟨[some (.ref kb), some (.int (n : Int)), some (.int (t : Int)), some (.lst (intsD (but n t))), none, none, some (lotD m), none], rfl, ?_, fun _ => rfl⟩
      have hb2 := hS1.src (ev := [some (.ref kb), some (.int (n : Int)), some (.int (t : Int)), some (.lst (intsD (but n t))), none, none, some (lotD m), none]) (i := 0) rfl
      have c3 : c3__law_need [some (.ref kb), some (.int (n : Int)), some (.int (t : Int)), some (.lst (intsD (but n t))), none, none, some (lotD m), none] (S ++ T) = .ok (.lst (B.map fun q => D.bl (meetsB q m))) (S ++ T) := by
        unfold c3__law_need
        refine lc_mp B lotD _ hb2.1 (hb2.2 _) (by omega) fun q hqm => ?_
        exact ⟨[some (.ref kb), some (.int (n : Int)), some (.int (t : Int)), some (.lst (intsD (but n t))), none, none, some (lotD m), some (lotD q)], rfl, rfl, (call_eq (cons_ok rfl (cons_ok rfl nil_ok)) rfl).trans (lmeets_ok m q (by have := hq q hqm; omega) _)⟩
      rw [show curesB B m = B.all fun q => meetsB q m from all_congr fun q _ => meets_comm m q]
      exact tr_bl (all_ok c3)
    obtain ⟨r, hr⟩ : ∃ r, (lotsOf (but n t)).filter (curesB B) = l :: r := by
      unfold firstC at hl
      rw [← List.head?_filter] at hl
      cases hf : (lotsOf (but n t)).filter (curesB B) with
      | nil => rw [hf] at hl; cases hl
      | cons x r => rw [hf] at hl; cases hl; exact ⟨r, rfl⟩
    have s3 : sSet 3 c2__law_need [some (.ref kb), some (.int (n : Int)), some (.int (t : Int)), none, none, none, none, none] S = .ok .nx [some (.ref kb), some (.int (n : Int)), some (.int (t : Int)), some (.lst (intsD (but n t))), none, none, none, none] S := set_eq c2
    have s4 : sSet 4 c4__law_need [some (.ref kb), some (.int (n : Int)), some (.int (t : Int)), some (.lst (intsD (but n t))), none, none, none, none] S = .ok .nx [some (.ref kb), some (.int (n : Int)), some (.int (t : Int)), some (.lst (intsD (but n t))), some (.lst (((lotsOf (but n t)).filter (curesB B)).map lotD)), none, none, none] (S ++ T) := set_eq c4
    exact def_rt (cons_nx (if_no a1) (cons_nx s3 (cons_nx s4 (ret_eq ((mL_eq (cons_ok ((m2_eq rfl rfl).trans (pix0 _ _ l r hr)) nil_ok)).trans (len_lot l _))))))
/-! ### plain facts about the least cures -/
theorem best_mem {n k : Nat} {B : List (List Nat)} {l : List Nat} : l ∈ bestL n B k ↔ l ∈ lotsN n ∧ l.length = k ∧ curesB B l = true := by
  unfold bestL
  rw [List.mem_filter, Bool.and_eq_true, decide_eq_true_iff]
theorem much_iff {n : Nat} (h2 : 2 ≤ n) (h7 : n ≤ 7) {B : List (List Nat)} {t : Nat} (ht : t < n) {l m : List Nat} (hl : firstC B (but n t) = some l) (hm : firstC B (List.range n) = some m) : ((l.length : Int) - (m.length : Int) = 0) ↔ t ∉ sureL n (bestL n B m.length) := by
  have hb := lotsB_parts h2 h7
  have hbut := (hb.2.2.2.2.1 t ht).2
  have l1 := firstC_prop hl
  have l2 := (lots_sub h2 h7 hbut).mp l1.1
  have m1 := firstC_prop hm
  have m2 := (lots_sub h2 h7 hb.2.1).mp m1.1
  have htl : t ∉ l := fun h => (mem_but.mp (l2.2 t h)).2 rfl
  have hle := firstC_least h2 h7 hb.2.1 hm l2.1 (fun x hx => List.mem_range.mpr ((mem_lot h2 h7 l2.1).2 x hx)) l1.2
  have hsure : t ∈ sureL n (bestL n B m.length) ↔ ∀ k ∈ bestL n B m.length, t ∈ k := by
    unfold sureL
    rw [List.mem_filter, List.all_eq_true]
    constructor
    · intro h k hk
      simpa using h.2 k hk
    · intro h
      exact ⟨List.mem_range.mpr ht, fun k hk => by simpa using h k hk⟩
  rw [hsure]
  constructor
  · intro h hall
    exact htl (hall l (best_mem.mpr ⟨l2.1, by omega, l1.2⟩))
  · intro h
    have : ∃ k ∈ bestL n B m.length, t ∉ k := by
      apply Classical.byContradiction
      intro hn
      exact h fun k hk => Classical.byContradiction fun hk2 => hn ⟨k, hk, hk2⟩
    obtain ⟨k, hk, hkt⟩ := this
    obtain ⟨k1, k2, k3⟩ := best_mem.mp hk
    have := firstC_least h2 h7 hbut hl k1 (fun x hx => mem_but.mpr ⟨(mem_lot h2 h7 k1).2 x hx, fun e => hkt (e ▸ hx)⟩) k3
    omega
theorem rest_eq (n : Nat) (K : List (List Nat)) : (List.range n).filter (fun t => !(sureL n K ++ freeL n K).contains t) = openL n K := by
  unfold openL
  refine List.filter_congr fun t ht => ?_
  have hs : (sureL n K ++ freeL n K).contains t = ((K.all fun l => l.contains t) || !(K.any fun l => l.contains t)) := by
    rw [Bool.eq_iff_iff]
    simp only [List.contains_iff_mem, List.mem_append, sureL, freeL, List.mem_filter, Bool.or_eq_true, ht, true_and]
  rw [hs]
  have h1 : decide (0 < cntL K t) = K.any fun l => l.contains t := by
    rw [Bool.eq_iff_iff, decide_eq_true_iff, List.any_eq_true]
    unfold cntL
    rw [List.length_pos_iff_exists_mem]
    constructor
    · rintro ⟨l, hl⟩
      have := List.mem_filter.mp hl
      exact ⟨l, this.1, this.2⟩
    · rintro ⟨l, h1, h2⟩
      exact ⟨l, List.mem_filter.mpr ⟨h1, h2⟩⟩
  have h2 : decide (cntL K t < K.length) = !(K.all fun l => l.contains t) := by
    rw [Bool.eq_iff_iff, decide_eq_true_iff, Bool.not_eq_true', Bool.eq_false_iff]
    unfold cntL
    constructor
    · intro h hall
      rw [List.filter_eq_self.mpr fun l hl => List.all_eq_true.mp hall l hl] at h
      omega
    · intro h
      have hle := List.length_filter_le (fun l : List Nat => l.contains t) K
      apply Classical.byContradiction
      intro hn
      apply h
      have e : (K.filter fun l => l.contains t).length = K.length := by omega
      have := List.filter_sublist (p := fun l : List Nat => l.contains t) (l := K) |>.eq_of_length e
      rw [List.all_eq_true]
      intro l hl
      rw [← this] at hl
      exact (List.mem_filter.mp hl).2
  rw [h1, h2]
  cases K.all (fun l => l.contains t) <;> cases K.any (fun l => l.contains t) <;> rfl
end Mk81


set_option Elab.async false
set_option linter.all false
set_option maxRecDepth 100000
set_option autoImplicit false
set_option maxHeartbeats 4000000
namespace Mk81
open ML PySem PySem.Spec PyProof.Rows L2
/-! ### the same -/
theorem zip_all {α : Type} (f : α → α → Bool) : ∀ l : List α, (∀ x ∈ l, f x x = true) → (l.zip l).all (fun p => f p.1 p.2) = true
  | [], _ => rfl
  | x :: l, h => by
    rw [List.zip_cons_cons, List.all_cons, h x List.mem_cons_self, zip_all f l fun y hy => h y (List.mem_cons_of_mem _ hy)]
    rfl
theorem same_ds (n : Nat) {S : Sto} {a b : D} {ds : List D} (ha : seqM S a = some ds) (hb : seqM S b = some ds) (hz : ds.length ≤ 1000) (h : ∀ d ∈ ds, sameR n S d d = true) : sameR (n + 1) S a b = true := by
  have e : sameR (n + 1) S a b = (match seqM S a, seqM S b with
    | some xs, some ys => decide (xs.length = ys.length) && decide (xs.length ≤ 16777216) && (xs.zip ys).all fun p => sameR n S p.1 p.2
    | _, _ => false) := by
    cases a <;> first | (simp [seqM] at ha; done) | skip
    all_goals cases b <;> first | (simp [seqM] at hb; done) | rfl
  rw [e, ha, hb]
  simp only [decide_true]
  rw [decide_eq_true (by omega), Bool.true_and, Bool.true_and]
  exact zip_all (sameR n S) _ h
theorem same_int (n : Nat) (S : Sto) (i : Int) : sameR (n + 1) S (.int i) (.int i) = true := decide_eq_true rfl
theorem same_ints (n : Nat) {S : Sto} {a b : D} {l : List Nat} (ha : seqM S a = some (intsD l)) (hb : seqM S b = some (intsD l)) (hz : l.length ≤ 1000) : sameR (n + 2) S a b = true := same_ds (n + 1) ha hb (by unfold intsD; rw [List.length_map]; exact hz) fun d hd => by
  obtain ⟨t, _, rfl⟩ := List.mem_map.mp hd
  exact same_int n S _
theorem same_lot (n : Nat) (S : Sto) {q : List Nat} (h : q.length ≤ 1000) : sameR (n + 2) S (lotD q) (lotD q) = true := by
  show (decide (_ = _) && decide ((q.map fun (n : Nat) => D.int (n : Int)).length ≤ 16777216) && (_ : List (D × D)).all fun p => sameR (n + 1) S p.1 p.2) = true
  rw [decide_eq_true rfl, decide_eq_true (by rw [List.length_map]; omega), Bool.true_and, Bool.true_and]
  refine zip_all (sameR (n + 1) S) _ fun x hx => ?_
  obtain ⟨t, _, rfl⟩ := List.mem_map.mp hx
  exact same_int n S _
theorem same_res (n : Nat) (S : Sto) {o : Option (List Nat)} (h : ∀ q, o = some q → q.length ≤ 1000) : sameR (n + 2) S (resD o) (resD o) = true := by
  cases o with
  | none => rfl
  | some q => exact same_lot n S (h q rfl)
theorem same_need (n : Nat) (S : Sto) (B : List (List Nat)) (t : Nat) (l : List Nat) : sameR (n + 1) S (needD B t l) (needD B t l) = true := by
  unfold needD
  split
  · exact same_int n S _
  · rfl
theorem same_zip {n : Nat} {S : Sto} (l : List (D × D)) (hz : l.length ≤ 1000) (h : ∀ p ∈ l, sameR n S p.1 p.2 = true) : sameR (n + 1) S (.lst (l.map (·.1))) (.lst (l.map (·.2))) = true := by
  show (decide (_ = _) && decide ((l.map (·.1)).length ≤ 16777216) && (_ : List (D × D)).all fun p => sameR n S p.1 p.2) = true
  rw [decide_eq_true (by rw [List.length_map, List.length_map]), decide_eq_true (by rw [List.length_map]; omega), Bool.true_and, Bool.true_and, List.all_eq_true]
  intro p hp
  have e : (l.map (·.1)).zip (l.map (·.2)) = l := by
    clear hz h hp
    induction l with
    | nil => rfl
    | cons x l ih => rw [List.map_cons, List.map_cons, List.zip_cons_cons, ih]
  rw [e] at hp
  exact h p hp
/-! ### lots of lots -/
def lotP (l : List Nat) : PyData := .tuple (intsP l)
theorem eqv_lot : ∀ l m : List Nat, PyData.eqv (lotP l) (lotP m) = decide (l = m)
  | [], [] => by simp [lotP, intsP, PyData.eqv, PyData.eqvAll]
  | [], _ :: _ => by simp [lotP, intsP, PyData.eqv, PyData.eqvAll]
  | _ :: _, [] => by simp [lotP, intsP, PyData.eqv, PyData.eqvAll]
  | a :: l, b :: m => by
    have ih := eqv_lot l m
    rw [Bool.eq_iff_iff] at ih ⊢
    simp [lotP, intsP, PyData.eqv, PyData.eqvAll] at ih ⊢
    rw [ih]
    constructor
    · rintro ⟨h, h2⟩
      exact ⟨by omega, h2⟩
    · rintro ⟨h, h2⟩
      exact ⟨by omega, h2⟩
theorem py_lots (n : Nat) (S : Sto) (p : List (List Nat)) : pyL (py (n + 2) S) (p.map lotD) = some (p.map lotP) := pyL_map _ _ p fun l _ => py_lot n S l
theorem in_lots (q : List Nat) (B : List (List Nat)) (S : Sto) : pin (lotD q) (.lst (B.map lotD)) S = .ok (.bl (B.contains q)) S := by
  have e : isIn S (lotD q) (.lst (B.map lotD)) = some (B.contains q) := by
    show (match py deep S (lotD q), py deep S (.lst (B.map lotD)) with
      | some a, some (.tuple bs) => some (bs.any fun b => PyData.eqv b a)
      | some a, some (.list bs) => some (bs.any fun b => PyData.eqv b a)
      | _, _ => none) = _
    have h1 : py deep S (lotD q) = some (lotP q) := py_lot 10 S q
    have h2 : py deep S (.lst (B.map lotD)) = some (.list (B.map lotP)) := by
      show (match pyL (py 11 S) (B.map lotD) with | some xs => some (PyData.list xs) | none => none) = _
      rw [show pyL (py 11 S) (B.map lotD) = _ from py_lots 9 S B]
    rw [h1, h2]
    show some ((B.map lotP).any fun b => PyData.eqv b (lotP q)) = _
    congr 1
    rw [List.any_map]
    clear h1 h2
    induction B with
    | nil => rfl
    | cons a l ih =>
      rw [List.any_cons, ih, List.contains_cons]
      congr 1
      show PyData.eqv (lotP a) (lotP q) = _
      rw [eqv_lot, Bool.eq_iff_iff]
      simp
      exact eq_comm
  show (match isIn S (lotD q) (.lst (B.map lotD)) with | some b => R.ok (D.bl b) S | none => .no) = _
  rw [e]
theorem pne_bad {S : Sto} {kb : Nat} {B : List (List Nat)} (h : Bs S kb B) : pne (.ref kb) (.lst []) S = .ok (.bl (!decide (B = []))) S := by
  have h1 : py deep S (.ref kb) = some (.list (B.map lotP)) := by
    show (match S[kb]? with
      | some (.lst ds) => match pyL (py 11 S) ds with
        | some xs => some (PyData.list xs)
        | none => none
      | _ => none) = _
    rw [h]
    simp only []
    rw [show pyL (py 11 S) (B.map lotD) = some (B.map lotP) from py_lots 9 S B]
  have h2 : py deep S (.lst []) = some (.list []) := rfl
  show (match py deep S (.ref kb), py deep S (.lst []) with
    | some a, some b => R.ok (D.bl (!PyData.eqv a b)) S
    | _, _ => .no) = _
  rw [h1, h2]
  cases B with
  | nil => simp [PyData.eqv, PyData.eqvAll]
  | cons q r => simp [PyData.eqv, PyData.eqvAll]
theorem pne_lot (q r : List Nat) (S : Sto) : pne (lotD q) (lotD r) S = .ok (.bl (!decide (q = r))) S := by
  show (match py deep S (lotD q), py deep S (lotD r) with
    | some a, some b => R.ok (D.bl (!PyData.eqv a b)) S
    | _, _ => .no) = _
  rw [show py deep S (lotD q) = some (lotP q) from py_lot 10 S q, show py deep S (lotD r) = some (lotP r) from py_lot 10 S r]
  simp only []
  rw [eqv_lot]
theorem pne_bl (a b : Bool) (S : Sto) : pne (.bl a) (.bl b) S = .ok (.bl (!decide (a = b))) S := by
  show R.ok (D.bl (!PyData.eqv (.bool a) (.bool b))) S = _
  cases a <;> cases b <;> simp [PyData.eqv]
/-! ### drawn lots -/
theorem mem_risers : ∀ {l s : List Nat}, l.Sublist s → l ∈ risers l.length s := by
  intro l s h
  induction h with
  | slnil => exact List.mem_singleton.mpr rfl
  | cons x h ih =>
    rename_i l r
    cases l with
    | nil => exact List.mem_singleton.mpr rfl
    | cons y l => exact List.mem_append_right _ ih
  | cons_cons x h ih => exact List.mem_append_left _ (List.mem_map.mpr ⟨_, ih, rfl⟩)
theorem sub_lots {l s : List Nat} (h : l.Sublist s) : l ∈ lotsOf s := by
  unfold lotsOf
  rw [List.mem_flatMap]
  exact ⟨l.length, List.mem_range.mpr (by have := h.length_le; omega), mem_risers h⟩
theorem lc_drawn {c : List D} {tg : D → ML.M Ev} {cond : ML.M Bool} {el : ML.M D} {ev : Ev} {S0 : Sto} {p : Nat} : ∀ (l : List Nat) (acc : List D) (S : Sto),
    (∀ t ∈ l, ∀ S, Kp p S0 S → ∃ ev2 b S2, tg (.int (t : Int)) ev S = .ok ev2 S ∧ cond ev2 S = .ok b S2 ∧ Kp p S0 S2 ∧ el ev2 S2 = .ok (.int (t : Int)) S2) → Kp p S0 S → acc.length + l.length ≤ 1000 →
    ∃ ys S', lcL tg cond el ev ⟨c, []⟩ (intsD l) acc S = .ok (acc ++ intsD ys) S' ∧ ys.Sublist l ∧ Kp p S0 S'
  | [], acc, S, _, hK, _ => ⟨[], S, by show (if Src.live ⟨c, []⟩ S = true then _ else _) = _; rw [if_pos (live_nil (items := c) (S := S))]; simp [intsD], List.Sublist.slnil, hK⟩
  | t :: l, acc, S, h, hK, hz => by
    obtain ⟨ev2, b, S2, e1, e2, k2, e3⟩ := h t List.mem_cons_self S hK
    have hz' : acc.length + (l.length + 1) ≤ 1000 := by simpa using hz
    cases b with
    | false =>
      obtain ⟨ys, S', q1, q2, q3⟩ := lc_drawn l acc S2 (fun x hx => h x (List.mem_cons_of_mem _ hx)) k2 (by omega)
      refine ⟨ys, S', ?_, q2.cons t, q3⟩
      show (if Src.live ⟨c, []⟩ S = true then _ else _) = _
      rw [if_pos (live_nil (items := c) (S := S)), e1, bind_ok, e2, bind_ok]
      exact q1
    | true =>
      obtain ⟨ys, S', q1, q2, q3⟩ := lc_drawn l (acc ++ [.int (t : Int)]) S2 (fun x hx => h x (List.mem_cons_of_mem _ hx)) k2 (by rw [List.length_append, List.length_singleton]; omega)
      refine ⟨t :: ys, S', ?_, q2.cons_cons t, q3⟩
      show (if Src.live ⟨c, []⟩ S = true then _ else _) = _
      rw [if_pos (live_nil (items := c) (S := S)), e1, bind_ok, e2, bind_ok]
      show (el ev2 S2).bind _ = _
      rw [e3, bind_ok, if_pos (by omega)]
      refine q1.trans ?_
      rw [List.append_assoc]
      rfl
end Mk81


set_option Elab.async false
set_option linter.all false
set_option maxRecDepth 100000
set_option autoImplicit false
set_option maxHeartbeats 4000000
namespace Mk81
open ML PySem PySem.Spec PyProof.Rows L2
/-- what stands by name behind the thirteenth -/
def EV (tb sh : D) (n kb : Nat) (C K : List (List Nat)) (su fr re : List Nat) (told : D) (al bl : List Nat) (z14 z15 z16 z17 z18 z19 z20 z21 z22 z23 : Option D) : Ev :=
  [some (.ref 0), some tb, some sh, some (.int (n : Int)), some (.ref kb), some (.lst (intsD (List.range n))), some (.lst (C.map lotD)), some (.lst (K.map lotD)), some (lotD su), some (lotD fr), some (lotD re), some told, some (.lst (intsD al)), some (.lst (intsD bl)), z14, z15, z16, z17, z18, z19, z20, z21, z22, z23]
section
variable {n : Nat} {M : Nat → Nat → Int} {S S0 : Sto} {kb : Nat} {sh told : D} {K : List (List Nat)} {su fr re al bl : List Nat} {z14 z15 z16 z17 z18 z19 z20 z21 z22 z23 : Option D}
theorem curesL_small {n : Nat} (h2 : 2 ≤ n) (h7 : n ≤ 7) (B : List (List Nat)) : (curesL n B).length ≤ 256 ∧ ∀ l ∈ curesL n B, l.length ≤ 100 := by
  constructor
  · exact Nat.le_trans (List.length_filter_le _ _) (lotsB_parts h2 h7).2.2.1
  · intro l hl
    have := (mem_lot h2 h7 (List.mem_filter.mp hl).1).1
    omega
/-- a drawn lot -/
theorem w1_ok (hM : Met n M) (h2 : 2 ≤ n) (h7 : n ≤ 7) (hK : Kp 0 S0 S) : ∃ y15 y16 S', w1__law_right (EV (tblF n M) sh n kb (curesL n (badL n M)) K su fr re told al bl z14 z15 z16 z17 z18 z19 z20 z21 z22 z23) S =
    .ok .nx (EV (tblF n M) sh n kb (curesL n (badL n M)) K su fr re told al bl z14 y15 y16 z17 z18 z19 z20 z21 z22 z23) S' ∧ Kp 0 S0 S' := by
  have hCz := curesL_small h2 h7 (badL n M)
  obtain ⟨ys, S1, q1, q2, q3⟩ := lc_drawn (c := intsD (List.range n)) (tg := tgN 17) (cond := mT (m2 peq (mCall 2 m__law_draw (mCons (mVar 0) (mCons (mC (.int 2)) (mNil)))) (mC (.int 0)))) (el := mVar 17) (ev := EV (tblF n M) sh n kb (curesL n (badL n M)) K su fr re told al bl z14 z15 z16 none z18 z19 z20 z21 z22 z23) (S0 := S0) (p := 0) (List.range n) [] S
    (fun t ht S' hK' => by
      obtain ⟨d, S2, e, c, b⟩ := draw_ev (many := 2) (ev := EV (tblF n M) sh n kb (curesL n (badL n M)) K su fr re told al bl z14 z15 z16 (some (.int (t : Int))) z18 z19 z20 z21 z22 z23) (m := mC (.int 2)) hK'.pot (by omega) (by omega) rfl rfl
      refine ⟨EV (tblF n M) sh n kb (curesL n (badL n M)) K su fr re told al bl z14 z15 z16 (some (.int (t : Int))) z18 z19 z20 z21 z22 z23, decide ((d : Int) = 0), S2, rfl, ?_, hK'.chg c, rfl⟩
      rw [draw_is]
      exact mT_bl ((m2_eq e rfl).trans rfl)) hK (by rw [List.length_nil, List.length_range]; omega)
  rw [List.nil_append] at q1
  have hys : ys ∈ lotsN n := sub_lots q2
  have hysl := (mem_lot h2 h7 hys).1
  have c10 : c10__law_right (EV (tblF n M) sh n kb (curesL n (badL n M)) K su fr re told al bl z14 z15 z16 z17 z18 z19 z20 z21 z22 z23) S = .ok (.lst (intsD ys)) S1 := by
    have hs : mSrc (mVar 5) (EV (tblF n M) sh n kb (curesL n (badL n M)) K su fr re told al bl z14 z15 z16 z17 z18 z19 z20 z21 z22 z23) S = .ok ⟨intsD (List.range n), []⟩ S := src_seq (d := .lst (intsD (List.range n))) rfl rfl
    unfold c10__law_right mLc
    rw [hs, bind_ok]
    show (noEx (lcL (tgN 17) (mT (m2 peq (mCall 2 m__law_draw (mCons (mVar 0) (mCons (mC (.int 2)) (mNil)))) (mC (.int 0)))) (mVar 17) (EV (tblF n M) sh n kb (curesL n (badL n M)) K su fr re told al bl z14 z15 z16 none z18 z19 z20 z21 z22 z23) ⟨intsD (List.range n), []⟩ (intsD (List.range n)) [] S)).bind _ = _
    rw [q1]
    rfl
  have s15 : sSet 15 (mL ptuple (mCons c10__law_right mNil)) (EV (tblF n M) sh n kb (curesL n (badL n M)) K su fr re told al bl z14 z15 z16 z17 z18 z19 z20 z21 z22 z23) S = .ok .nx (EV (tblF n M) sh n kb (curesL n (badL n M)) K su fr re told al bl z14 (some (lotD ys)) z16 z17 z18 z19 z20 z21 z22 z23) S1 := set_eq (tup_ok c10)
  have la := lamong_ok (curesL n (badL n M)) hCz.1 hCz.2 ys S1
  rw [among_eq h2 h7 hys] at la
  have s16 : sSet 16 (mCall 2 m__law_among (mCons (mVar 6) (mCons (mVar 15) (mNil)))) (EV (tblF n M) sh n kb (curesL n (badL n M)) K su fr re told al bl z14 (some (lotD ys)) z16 z17 z18 z19 z20 z21 z22 z23) S1 = .ok .nx (EV (tblF n M) sh n kb (curesL n (badL n M)) K su fr re told al bl z14 (some (lotD ys)) (some (resD (firstC (badL n M) ys))) z17 z18 z19 z20 z21 z22 z23) S1 := set_eq ((call_eq (cons_ok (d := .lst ((curesL n (badL n M)).map lotD)) rfl (cons_ok (d := lotD ys) rfl nil_ok)) rfl).trans la)
  obtain ⟨T1, e1⟩ := among_ok hM h2 h7 hys S1
  obtain ⟨T2, e2⟩ := among_ok hM h2 h7 hys (S1 ++ T1)
  have hr : ∀ q, firstC (badL n M) ys = some q → q.length ≤ 1000 := fun q hq => by
    have := (mem_lot h2 h7 ((lots_sub h2 h7 hys).mp (firstC_prop hq).1).1).1
    omega
  generalize firstC (badL n M) ys = o at *
  have ao : ∀ S, asVal (some (some (resD o))) S = .ok (resD o) S := fun S => by cases o <;> rfl
  generalize hev : EV (tblF n M) sh n kb (curesL n (badL n M)) K su fr re told al bl z14 (some (lotD ys)) (some (resD o)) z17 z18 z19 z20 z21 z22 z23 = ev at *
  have v1 : ∀ S, mVar 1 ev S = .ok (tblF n M) S := fun S => by subst hev; rfl
  have v15 : ∀ S, mVar 15 ev S = .ok (lotD ys) S := fun S => by subst hev; rfl
  have v16 : ∀ S, mVar 16 ev S = .ok (resD o) S := fun S => by subst hev; exact ao S
  have t1 : mL (plst false) (mCons (mCall 2 m_least_among (mCons (mVar 1) (mCons (mVar 15) (mNil)))) (mCons (mCallK 0 (["lot", "table"] : List Str).length [1, 0] m_least_among mNil (mkCons (mVar 15) (mkCons (mVar 1) (mkNil)))) (mNil))) ev S1 = .ok (.lst ([(resD o, resD o), (resD o, resD o)].map (·.1))) (S1 ++ T1 ++ T2) :=
    (mL_eq (cons_ok ((call_eq (cons_ok (v1 _) (cons_ok (v15 _) nil_ok)) rfl).trans e1) (cons_ok ((callK_eq (ds := []) (zs := [lotD ys, tblF n M]) rfl (kcons_ok (v15 _) (kcons_ok (v1 _) knil_ok)) rfl rfl).trans e2) nil_ok))).trans rfl
  have t2 : mL (plst false) (mCons (mVar 16) (mCons (mVar 16) (mNil))) ev (S1 ++ T1 ++ T2) = .ok (.lst ([(resD o, resD o), (resD o, resD o)].map (·.2))) (S1 ++ T1 ++ T2) := (mL_eq (cons_ok (v16 _) (cons_ok (v16 _) nil_ok))).trans rfl
  refine ⟨some (lotD ys), some (resD o), S1 ++ T1 ++ T2, ?_, (q3.app T1).app T2⟩
  unfold w1__law_right
  rw [hev]
  refine cons_nx s15 (cons_nx s16 ((if_no (not_ok (b := true) (tr_bl ((call_eq (cons_ok t1 (cons_ok t2 nil_ok)) rfl).trans ?_)))).trans rfl))
  rw [same_is]
  refine same_r 8 _ _ _ (same_zip (n := 7) _ (by simp) fun p hp => ?_)
  simp only [List.mem_cons, List.not_mem_nil, or_false, or_self] at hp
  subst hp
  exact same_res 5 _ hr
end
end Mk81


set_option Elab.async false
set_option linter.all false
set_option maxRecDepth 100000
set_option autoImplicit false
set_option maxHeartbeats 4000000
namespace Mk81
open ML PySem PySem.Spec PyProof.Rows L2
section
variable {n : Nat} {M : Nat → Nat → Int} {S : Sto} {kb : Nat} {sh told : D} {fr re al bl : List Nat} {z14 z15 z16 z17 z18 z19 z20 z21 z22 z23 : Option D}
theorem head_first {n : Nat} (h2 : 2 ≤ n) (h7 : n ≤ 7) {B : List (List Nat)} {m : List Nat} (hm : firstC B (List.range n) = some m) : ∃ r, curesL n B = m :: r := by
  have : (curesL n B).head? = some m := by
    unfold curesL
    rw [List.head?_filter]
    exact hm
  cases hf : curesL n B with
  | nil => rw [hf] at this; cases this
  | cons x r => rw [hf] at this; cases this; exact ⟨r, rfl⟩
theorem ways_ok (hM : Far n M) (h2 : 2 ≤ n) (h7 : n ≤ 7) {t : Nat} (ht : t < n) (hS : Bs S kb (badL n M)) {C K : List (List Nat)} {su : List Nat} : ∃ T,
    c16__law_right (EV (tblF n M) sh n kb C K su fr re told al bl z14 z15 z16 (some (.int (t : Int))) z18 (some (.lst (((badL n M).filter fun q => q.contains t).map lotD))) z20 z21 z22 z23) S = .ok (.lst (((lotsOf (but n t)).filter (wayB (badL n M) t)).map lotD)) (S ++ T) := by
  obtain ⟨T, e⟩ := llots_ok h2 h7 (.inr ⟨t, ht, rfl⟩) S
  refine ⟨T, ?_⟩
  have hbz := bad_small (M := M) h2 (show n ≤ 8 by omega)
  have hb4 : ∀ q ∈ badL n M, q.length ≤ 100 := fun q hq => by
    obtain ⟨a, b, c, d, rfl, _⟩ := mem_four h2 (by omega) (List.mem_filter.mp hq).1
    show 4 ≤ 100
    omega
  generalize badL n M = B at *
  have hbut := ((lotsB_parts h2 h7).2.2.2.2.1 t ht).2
  have hlz : (lotsOf (but n t)).length ≤ 256 := by
    rw [(lotsB_parts h2 h7).2.2.2.2.2 _ hbut]
    exact Nat.le_trans (List.length_filter_le _ _) (lotsB_parts h2 h7).2.2.1
  have c13 : c13__law_right (EV (tblF n M) sh n kb C K su fr re told al bl z14 none z16 (some (.int (t : Int))) z18 (some (.lst ((B.filter fun q => q.contains t).map lotD))) z20 z21 z22 z23) S = .ok (.lst (intsD (but n t))) S := by
    have hs : mSrc (mVar 5) (EV (tblF n M) sh n kb C K su fr re told al bl z14 none z16 (some (.int (t : Int))) z18 (some (.lst ((B.filter fun q => q.contains t).map lotD))) z20 z21 z22 z23) S = .ok ⟨(List.range n).map (fun (t : Nat) => D.int (t : Int)), []⟩ S := src_seq (d := .lst (intsD (List.range n))) rfl rfl
    unfold c13__law_right
    refine lc_if (List.range n) (fun (t : Nat) => D.int (t : Int)) (fun x => !decide (x = t)) (fun (t : Nat) => D.int (t : Int)) hs rfl (by rw [List.length_range]; omega) fun x hx => ?_
    refine ⟨EV (tblF n M) sh n kb C K su fr re told al bl z14 none z16 (some (.int (t : Int))) z18 (some (.lst ((B.filter fun q => q.contains t).map lotD))) z20 z21 z22 (some (.int (x : Int))), rfl, ?_, fun _ => rfl⟩
    refine mT_bl ((m2_eq rfl rfl).trans ((pne_int _ _ _).trans ?_))
    rw [show decide ((x : Int) = (t : Int)) = decide (x = t) by rw [Bool.eq_iff_iff]; simp; omega]
  have hs : ∀ z15, mSrc (mCall 1 m__law_lots (mCons (c13__law_right) (mNil))) (EV (tblF n M) sh n kb C K su fr re told al bl z14 z15 z16 (some (.int (t : Int))) z18 (some (.lst ((B.filter fun q => q.contains t).map lotD))) z20 z21 z22 z23) S = .ok ⟨(lotsOf (but n t)).map lotD, []⟩ (S ++ T) := fun z15 => by
    refine src_seq ((call_eq (cons_ok ?_ nil_ok) rfl).trans e) rfl
    have hs : mSrc (mVar 5) (EV (tblF n M) sh n kb C K su fr re told al bl z14 z15 z16 (some (.int (t : Int))) z18 (some (.lst ((B.filter fun q => q.contains t).map lotD))) z20 z21 z22 z23) S = .ok ⟨(List.range n).map (fun (t : Nat) => D.int (t : Int)), []⟩ S := src_seq (d := .lst (intsD (List.range n))) rfl rfl
    unfold c13__law_right
    refine lc_if (List.range n) (fun (t : Nat) => D.int (t : Int)) (fun x => !decide (x = t)) (fun (t : Nat) => D.int (t : Int)) hs rfl (by rw [List.length_range]; omega) fun x hx => ?_
    refine ⟨EV (tblF n M) sh n kb C K su fr re told al bl z14 z15 z16 (some (.int (t : Int))) z18 (some (.lst ((B.filter fun q => q.contains t).map lotD))) z20 z21 z22 (some (.int (x : Int))), rfl, ?_, fun _ => rfl⟩
    refine mT_bl ((m2_eq rfl rfl).trans ((pne_int _ _ _).trans ?_))
    rw [show decide ((x : Int) = (t : Int)) = decide (x = t) by rw [Bool.eq_iff_iff]; simp; omega]
  unfold c16__law_right
  refine lc_if (lotsOf (but n t)) lotD (wayB B t) lotD (hs _) live_nil (by omega) fun m hm => ?_
  refine ⟨EV (tblF n M) sh n kb C K su fr re told al bl z14 (some (lotD m)) z16 (some (.int (t : Int))) z18 (some (.lst ((B.filter fun q => q.contains t).map lotD))) z20 z21 z22 z23, rfl, tr_bl (all_ok (p := fun q : List Nat => meetsB (q.filter fun x => !decide (x = t)) m) ?_), fun _ => rfl⟩
  have hs2 : mSrc (mVar 19) (EV (tblF n M) sh n kb C K su fr re told al bl z14 (some (lotD m)) z16 (some (.int (t : Int))) z18 (some (.lst ((B.filter fun q => q.contains t).map lotD))) z20 z21 z22 z23) (S ++ T) = .ok ⟨(B.filter fun q => q.contains t).map lotD, []⟩ (S ++ T) := src_seq (d := .lst ((B.filter fun q => q.contains t).map lotD)) rfl rfl
  unfold c15__law_right
  refine lc_mp (B.filter fun q => q.contains t) lotD _ hs2 rfl (by have := List.length_filter_le (fun q : List Nat => q.contains t) B; omega) fun q hq => ?_
  have hq4 := hb4 q (List.mem_filter.mp hq).1
  refine ⟨EV (tblF n M) sh n kb C K su fr re told al bl z14 (some (lotD m)) z16 (some (.int (t : Int))) z18 (some (.lst ((B.filter fun q => q.contains t).map lotD))) z20 z21 (some (lotD q)) z23, rfl, rfl, ?_⟩
  have hs3 : mSrc (mVar 22) (EV (tblF n M) sh n kb C K su fr re told al bl z14 (some (lotD m)) z16 (some (.int (t : Int))) z18 (some (.lst ((B.filter fun q => q.contains t).map lotD))) z20 z21 (some (lotD q)) z23) (S ++ T) = .ok ⟨q.map (fun (t : Nat) => D.int (t : Int)), []⟩ (S ++ T) := src_seq (d := lotD q) rfl rfl
  have c14 : c14__law_right (EV (tblF n M) sh n kb C K su fr re told al bl z14 (some (lotD m)) z16 (some (.int (t : Int))) z18 (some (.lst ((B.filter fun q => q.contains t).map lotD))) z20 z21 (some (lotD q)) z23) (S ++ T) = .ok (.lst (intsD (q.filter fun x => !decide (x = t)))) (S ++ T) := by
    unfold c14__law_right
    refine lc_if q (fun (t : Nat) => D.int (t : Int)) (fun x => !decide (x = t)) (fun (t : Nat) => D.int (t : Int)) hs3 rfl (by omega) fun x hx => ?_
    refine ⟨EV (tblF n M) sh n kb C K su fr re told al bl z14 (some (lotD m)) z16 (some (.int (t : Int))) z18 (some (.lst ((B.filter fun q => q.contains t).map lotD))) z20 z21 (some (lotD q)) (some (.int (x : Int))), rfl, ?_, fun _ => rfl⟩
    refine mT_bl ((m2_eq rfl rfl).trans ((pne_int _ _ _).trans ?_))
    rw [show decide ((x : Int) = (t : Int)) = decide (x = t) by rw [Bool.eq_iff_iff]; simp; omega]
  refine (call_eq (cons_ok (d := lotD m) rfl (cons_ok (tup_ok c14) nil_ok)) rfl).trans (lmeets_ok m _ ?_ _)
  have := List.length_filter_le (fun x => !decide (x = t)) q
  omega
theorem ways_head (hM : Far n M) (h2 : 2 ≤ n) (h7 : n ≤ 7) {t : Nat} (ht : t < n) {l : List Nat} (hl : firstC (badL n M) (but n t) = some l) : ∃ r, (lotsOf (but n t)).filter (wayB (badL n M) t) = l :: r := by
  have hbut := ((lotsB_parts h2 h7).2.2.2.2.1 t ht).2
  have e : (lotsOf (but n t)).filter (wayB (badL n M) t) = (lotsOf (but n t)).filter (curesB (badL n M)) := List.filter_congr fun m hm => way_cures hM h2 (by omega) ht fun h => by
    have := ((lots_sub h2 h7 hbut).mp hm).2 t h
    exact (mem_but.mp this).2 rfl
  rw [e]
  unfold firstC at hl
  rw [← List.head?_filter] at hl
  cases hf : (lotsOf (but n t)).filter (curesB (badL n M)) with
  | nil => rw [hf] at hl; cases hl
  | cons x r => rw [hf] at hl; cases hl; exact ⟨r, rfl⟩
/-- one town -/
theorem w2_ok (hM : Met n M) (h2 : 2 ≤ n) (h7 : n ≤ 7) {m : List Nat} (hm : firstC (badL n M) (List.range n) = some m) {t : Nat} (ht : t < n) (hS : Bs S kb (badL n M)) : ∃ y16 y18 y19 y20 y21 T,
    w2__law_right (EV (tblF n M) sh n kb (curesL n (badL n M)) (bestL n (badL n M) m.length) (sureL n (bestL n (badL n M) m.length)) fr re told al bl z14 z15 z16 (some (.int (t : Int))) z18 z19 z20 z21 z22 z23) S =
    .ok .nx (EV (tblF n M) sh n kb (curesL n (badL n M)) (bestL n (badL n M) m.length) (sureL n (bestL n (badL n M) m.length)) fr re told al bl z14 z15 y16 (some (.int (t : Int))) y18 y19 y20 y21 z22 z23) (S ++ T) := by
  have hCz := curesL_small h2 h7 (badL n M)
  have hbz := bad_small (M := M) h2 (show n ≤ 8 by omega)
  have hb4 : ∀ q ∈ badL n M, q.length ≤ 100 := fun q hq => by
    obtain ⟨a, b, c, d, rfl, _⟩ := mem_four h2 (by omega) (List.mem_filter.mp hq).1
    show 4 ≤ 100
    omega
  have hbut := ((lotsB_parts h2 h7).2.2.2.2.1 t ht).2
  obtain ⟨l, hl⟩ := but_first M h2 h7 ht
  have hlm := (lots_sub h2 h7 hbut).mp (firstC_prop hl).1
  have hll := (mem_lot h2 h7 hlm.1).1
  obtain ⟨r, hCr⟩ := head_first h2 h7 hm
  have hmuch := much_iff h2 h7 ht hl hm
  obtain ⟨w, hw⟩ := ways_head hM.toFar h2 h7 ht hl
  have la := lamong_ok (curesL n (badL n M)) hCz.1 hCz.2 (but n t) S
  rw [among_eq h2 h7 hbut, hl] at la
  obtain ⟨T1, e1⟩ := believing_ok hM h2 h7 ht hl S
  obtain ⟨T2, e2⟩ := price_ok hM h2 h7 ht hl hm (S ++ T1)
  obtain ⟨T3, e3⟩ := believing_ok hM h2 h7 ht hl (S ++ T1 ++ T2)
  obtain ⟨T4, e4⟩ := price_ok hM h2 h7 ht hl hm (S ++ T1 ++ T2 ++ T3)
  have hS4 := (((hS.app T1).app T2).app T3).app T4
  have wo := fun (C K : List (List Nat)) (su : List Nat) z15 z16 z18 z20 z21 => ways_ok (sh := sh) (told := told) (fr := fr) (re := re) (al := al) (bl := bl) (z14 := z14) (z15 := z15) (z16 := z16) (z18 := z18) (z20 := z20) (z21 := z21) (z22 := z22) (z23 := z23) hM.toFar h2 h7 ht hS4 (C := C) (K := K) (su := su)
  have nd := fun {S : Sto} (hS : Bs S kb (badL n M)) => lneed_ok h2 h7 hbz hb4 hS ht hl
  have nd2 := fun (S : Sto) => need_ok hM h2 h7 ht hl S
  generalize hK : bestL n (badL n M) m.length = K at *
  generalize hC : curesL n (badL n M) = C at *
  generalize hsu : sureL n K = su at *
  -- due
  have c11 : c11__law_right (EV (tblF n M) sh n kb C K su fr re told al bl z14 z15 z16 (some (.int (t : Int))) z18 z19 z20 z21 z22 z23) S = .ok (.lst (intsD (but n t))) S := by
    have hs : mSrc (mVar 5) (EV (tblF n M) sh n kb C K su fr re told al bl z14 z15 z16 (some (.int (t : Int))) z18 z19 z20 z21 z22 z23) S = .ok ⟨(List.range n).map (fun (t : Nat) => D.int (t : Int)), []⟩ S := src_seq (d := .lst (intsD (List.range n))) rfl rfl
    unfold c11__law_right
    refine lc_if (List.range n) (fun (t : Nat) => D.int (t : Int)) (fun x => !decide (x = t)) (fun (t : Nat) => D.int (t : Int)) hs rfl (by rw [List.length_range]; omega) fun x hx => ?_
    refine ⟨EV (tblF n M) sh n kb C K su fr re told al bl z14 z15 z16 (some (.int (t : Int))) z18 z19 z20 z21 z22 (some (.int (x : Int))), rfl, ?_, fun _ => rfl⟩
    refine mT_bl ((m2_eq rfl rfl).trans ((pne_int _ _ _).trans ?_))
    rw [show decide ((x : Int) = (t : Int)) = decide (x = t) by rw [Bool.eq_iff_iff]; simp; omega]
  have s16 : sSet 16 (mCall 2 m__law_among (mCons (mVar 6) (mCons (mL ptuple (mCons (c11__law_right) (mNil))) (mNil)))) (EV (tblF n M) sh n kb C K su fr re told al bl z14 z15 z16 (some (.int (t : Int))) z18 z19 z20 z21 z22 z23) S = .ok .nx (EV (tblF n M) sh n kb C K su fr re told al bl z14 z15 (some (lotD l)) (some (.int (t : Int))) z18 z19 z20 z21 z22 z23) S :=
    set_eq ((call_eq (cons_ok (d := .lst (C.map lotD)) rfl (cons_ok (tup_ok c11) nil_ok)) rfl).trans la)
  have s18 : sSet 18 (m2 psub (mL plen (mCons (mVar 16) (mNil))) (mL plen (mCons (m2 pix (mVar 6) (mC (.int 0))) (mNil)))) (EV (tblF n M) sh n kb C K su fr re told al bl z14 z15 (some (lotD l)) (some (.int (t : Int))) z18 z19 z20 z21 z22 z23) S = .ok .nx (EV (tblF n M) sh n kb C K su fr re told al bl z14 z15 (some (lotD l)) (some (.int (t : Int))) (some (.int ((l.length : Int) - (m.length : Int)))) z19 z20 z21 z22 z23) S :=
    set_eq ((m2_eq ((mL_eq (cons_ok (d := lotD l) rfl nil_ok)).trans (len_lot l S)) ((mL_eq (cons_ok ((m2_eq (x := .lst (C.map lotD)) rfl rfl).trans (pix0 C S m r hCr)) nil_ok)).trans (len_lot m S))).trans rfl)
  -- told
  have t1 : mTr (mCall 2 m__law_same (mCons (mL (plst false) (mCons (mCall 2 m_believing (mCons (mVar 1) (mCons (mVar 17) (mNil)))) (mCons (mCall 2 m_price (mCons (mVar 1) (mCons (mVar 17) (mNil)))) (mCons (mCallK 0 (["town", "table"] : List Str).length [1, 0] m_believing mNil (mkCons (mVar 17) (mkCons (mVar 1) (mkNil)))) (mCons (mCallK 0 (["town", "table"] : List Str).length [1, 0] m_price mNil (mkCons (mVar 17) (mkCons (mVar 1) (mkNil)))) (mNil)))))) (mCons (mL (plst false) (mCons (mVar 16) (mCons (mVar 18) (mCons (mVar 16) (mCons (mVar 18) (mNil)))))) (mNil))))
      (EV (tblF n M) sh n kb C K su fr re told al bl z14 z15 (some (lotD l)) (some (.int (t : Int))) (some (.int ((l.length : Int) - (m.length : Int)))) z19 z20 z21 z22 z23) S = .ok true (S ++ T1 ++ T2 ++ T3 ++ T4) := by
    generalize hev : EV (tblF n M) sh n kb C K su fr re told al bl z14 z15 (some (lotD l)) (some (.int (t : Int))) (some (.int ((l.length : Int) - (m.length : Int)))) z19 z20 z21 z22 z23 = ev
    have v1 : ∀ S, mVar 1 ev S = .ok (tblF n M) S := fun S => by subst hev; rfl
    have v16 : ∀ S, mVar 16 ev S = .ok (lotD l) S := fun S => by subst hev; rfl
    have v17 : ∀ S, mVar 17 ev S = .ok (.int (t : Int)) S := fun S => by subst hev; rfl
    have v18 : ∀ S, mVar 18 ev S = .ok (.int ((l.length : Int) - (m.length : Int))) S := fun S => by subst hev; rfl
    have a1 : mL (plst false) (mCons (mCall 2 m_believing (mCons (mVar 1) (mCons (mVar 17) (mNil)))) (mCons (mCall 2 m_price (mCons (mVar 1) (mCons (mVar 17) (mNil)))) (mCons (mCallK 0 (["town", "table"] : List Str).length [1, 0] m_believing mNil (mkCons (mVar 17) (mkCons (mVar 1) (mkNil)))) (mCons (mCallK 0 (["town", "table"] : List Str).length [1, 0] m_price mNil (mkCons (mVar 17) (mkCons (mVar 1) (mkNil)))) (mNil))))) ev S = .ok (.lst [lotD l, .int ((l.length : Int) - (m.length : Int)), lotD l, .int ((l.length : Int) - (m.length : Int))]) (S ++ T1 ++ T2 ++ T3 ++ T4) :=
      (mL_eq (cons_ok ((call_eq (cons_ok (v1 _) (cons_ok (v17 _) nil_ok)) rfl).trans e1) (cons_ok ((call_eq (cons_ok (v1 _) (cons_ok (v17 _) nil_ok)) rfl).trans e2) (cons_ok ((callK_eq (ds := []) (zs := [.int (t : Int), tblF n M]) rfl (kcons_ok (v17 _) (kcons_ok (v1 _) knil_ok)) rfl rfl).trans e3) (cons_ok ((callK_eq (ds := []) (zs := [.int (t : Int), tblF n M]) rfl (kcons_ok (v17 _) (kcons_ok (v1 _) knil_ok)) rfl rfl).trans e4) nil_ok))))).trans rfl
    have a2 : ∀ S, mL (plst false) (mCons (mVar 16) (mCons (mVar 18) (mCons (mVar 16) (mCons (mVar 18) (mNil))))) ev S = .ok (.lst [lotD l, .int ((l.length : Int) - (m.length : Int)), lotD l, .int ((l.length : Int) - (m.length : Int))]) S := fun S => (mL_eq (cons_ok (v16 _) (cons_ok (v18 _) (cons_ok (v16 _) (cons_ok (v18 _) nil_ok))))).trans rfl
    refine tr_bl ((call_eq (cons_ok a1 (cons_ok (a2 _) nil_ok)) rfl).trans ?_)
    rw [same_is]
    refine same_r 8 _ _ _ (same_ds 7 rfl rfl (by simp) fun d hd => ?_)
    simp only [List.mem_cons, List.not_mem_nil, or_false] at hd
    rcases hd with rfl | rfl | rfl | rfl
    · exact same_lot 5 _ (by omega)
    · exact same_int 6 _ _
    · exact same_lot 5 _ (by omega)
    · exact same_int 6 _ _
  generalize hSS : S ++ T1 ++ T2 ++ T3 ++ T4 = S4 at *
  have t2 : mT (m2 pne (m2 peq (mVar 18) (mC (.int 0))) (m2 pnin (mVar 17) (mVar 8))) (EV (tblF n M) sh n kb C K su fr re told al bl z14 z15 (some (lotD l)) (some (.int (t : Int))) (some (.int ((l.length : Int) - (m.length : Int)))) z19 z20 z21 z22 z23) S4 = .ok false S4 := by
    refine mT_bl ((m2_eq (x := .bl (decide ((l.length : Int) - (m.length : Int) = 0))) ((m2_eq rfl rfl).trans rfl) ((m2_eq (x := .int (t : Int)) (y := lotD su) rfl rfl).trans (nin_lot t su S4))).trans ((pne_bl _ _ _).trans ?_))
    have : decide ((l.length : Int) - (m.length : Int) = 0) = !su.contains t := by
      rw [Bool.eq_iff_iff, decide_eq_true_iff, hmuch]
      simp
    rw [this, decide_eq_true rfl]
    rfl
  -- some, ways
  have s19 : sSet 19 c12__law_right (EV (tblF n M) sh n kb C K su fr re told al bl z14 z15 (some (lotD l)) (some (.int (t : Int))) (some (.int ((l.length : Int) - (m.length : Int)))) z19 z20 z21 z22 z23) S4 = .ok .nx (EV (tblF n M) sh n kb C K su fr re told al bl z14 z15 (some (lotD l)) (some (.int (t : Int))) (some (.int ((l.length : Int) - (m.length : Int)))) (some (.lst (((badL n M).filter fun q => q.contains t).map lotD))) z20 z21 z22 z23) S4 := by
    refine set_eq ?_
    have hb := hS4.src (ev := EV (tblF n M) sh n kb C K su fr re told al bl z14 z15 (some (lotD l)) (some (.int (t : Int))) (some (.int ((l.length : Int) - (m.length : Int)))) z19 z20 z21 z22 z23) (i := 4) rfl
    unfold c12__law_right
    refine lc_if (badL n M) lotD (fun q => q.contains t) lotD hb.1 (hb.2 _) (by omega) fun q hq => ?_
    exact ⟨EV (tblF n M) sh n kb C K su fr re told al bl z14 z15 (some (lotD l)) (some (.int (t : Int))) (some (.int ((l.length : Int) - (m.length : Int)))) z19 z20 z21 (some (lotD q)) z23, rfl, mT_bl ((m2_eq rfl rfl).trans (in_lot t q S4)), fun _ => rfl⟩
  obtain ⟨T5, e5⟩ := wo C K su z15 (some (lotD l)) (some (.int ((l.length : Int) - (m.length : Int)))) z20 z21
  rw [hw] at e5
  have s20 : sSet 20 c16__law_right (EV (tblF n M) sh n kb C K su fr re told al bl z14 z15 (some (lotD l)) (some (.int (t : Int))) (some (.int ((l.length : Int) - (m.length : Int)))) (some (.lst (((badL n M).filter fun q => q.contains t).map lotD))) z20 z21 z22 z23) S4 = .ok .nx (EV (tblF n M) sh n kb C K su fr re told al bl z14 z15 (some (lotD l)) (some (.int (t : Int))) (some (.int ((l.length : Int) - (m.length : Int)))) (some (.lst (((badL n M).filter fun q => q.contains t).map lotD))) (some (.lst ((l :: w).map lotD))) z21 z22 z23) (S4 ++ T5) := set_eq e5
  have hS5 := hS4.app T5
  obtain ⟨T6, e6⟩ := nd hS5
  obtain ⟨T7, e7⟩ := nd2 (S4 ++ T5 ++ T6)
  obtain ⟨T8, e8⟩ := nd2 (S4 ++ T5 ++ T6 ++ T7)
  generalize hsm : D.lst (((badL n M).filter fun q => q.contains t).map lotD) = sm at *
  have t3 : mT (m2 pne (m2 pix (mVar 20) (mC (.int 0))) (mVar 16)) (EV (tblF n M) sh n kb C K su fr re told al bl z14 z15 (some (lotD l)) (some (.int (t : Int))) (some (.int ((l.length : Int) - (m.length : Int)))) (some sm) (some (.lst ((l :: w).map lotD))) z21 z22 z23) (S4 ++ T5) = .ok false (S4 ++ T5) := by
    refine mT_bl ((m2_eq ((m2_eq (x := .lst ((l :: w).map lotD)) rfl rfl).trans (pix0 _ _ l w rfl)) (y := lotD l) rfl).trans ((pne_lot l l _).trans ?_))
    rw [decide_eq_true rfl]
    rfl
  have ao : ∀ S, asVal (some (some (needD (badL n M) t l))) S = .ok (needD (badL n M) t l) S := fun S => by unfold needD; split <;> rfl
  have hown : needD (badL n M) t l = .non ∨ needD (badL n M) t l = .int (l.length : Int) := by
    unfold needD
    split
    · exact .inr rfl
    · exact .inl rfl
  have hsn : ∀ k S, sameR (k + 1) S (needD (badL n M) t l) (needD (badL n M) t l) = true := fun k S => same_need k S _ _ _
  generalize hnd : needD (badL n M) t l = own at *
  have s21 : sSet 21 (mCall 3 m__law_need (mCons (mVar 4) (mCons (mVar 3) (mCons (mVar 17) (mNil))))) (EV (tblF n M) sh n kb C K su fr re told al bl z14 z15 (some (lotD l)) (some (.int (t : Int))) (some (.int ((l.length : Int) - (m.length : Int)))) (some sm) (some (.lst ((l :: w).map lotD))) z21 z22 z23) (S4 ++ T5) = .ok .nx (EV (tblF n M) sh n kb C K su fr re told al bl z14 z15 (some (lotD l)) (some (.int (t : Int))) (some (.int ((l.length : Int) - (m.length : Int)))) (some sm) (some (.lst ((l :: w).map lotD))) (some own) z22 z23) (S4 ++ T5 ++ T6) :=
    set_eq ((call_eq (cons_ok rfl (cons_ok rfl (cons_ok rfl nil_ok))) rfl).trans e6)
  have t4 : tOrM (tNotM (mTr (mCall 2 m__law_same (mCons (mL (plst false) (mCons (mCall 2 m_need (mCons (mVar 1) (mCons (mVar 17) (mNil)))) (mCons (mCallK 0 (["town", "table"] : List Str).length [1, 0] m_need mNil (mkCons (mVar 17) (mkCons (mVar 1) (mkNil)))) (mNil)))) (mCons (mL (plst false) (mCons (mVar 21) (mCons (mVar 21) (mNil)))) (mNil)))))) (tAndM (mT (m1 pnotN (mVar 21))) (mT (m2 pne (mVar 21) (mL plen (mCons (mVar 16) (mNil))))))
      (EV (tblF n M) sh n kb C K su fr re told al bl z14 z15 (some (lotD l)) (some (.int (t : Int))) (some (.int ((l.length : Int) - (m.length : Int)))) (some sm) (some (.lst ((l :: w).map lotD))) (some own) z22 z23) (S4 ++ T5 ++ T6) = .ok false (S4 ++ T5 ++ T6 ++ T7 ++ T8) := by
    generalize hev : EV (tblF n M) sh n kb C K su fr re told al bl z14 z15 (some (lotD l)) (some (.int (t : Int))) (some (.int ((l.length : Int) - (m.length : Int)))) (some sm) (some (.lst ((l :: w).map lotD))) (some own) z22 z23 = ev
    have v1 : ∀ S, mVar 1 ev S = .ok (tblF n M) S := fun S => by subst hev; rfl
    have v16 : ∀ S, mVar 16 ev S = .ok (lotD l) S := fun S => by subst hev; rfl
    have v17 : ∀ S, mVar 17 ev S = .ok (.int (t : Int)) S := fun S => by subst hev; rfl
    have v21 : ∀ S, mVar 21 ev S = .ok own S := fun S => by subst hev; exact ao S
    have a1 : mL (plst false) (mCons (mCall 2 m_need (mCons (mVar 1) (mCons (mVar 17) (mNil)))) (mCons (mCallK 0 (["town", "table"] : List Str).length [1, 0] m_need mNil (mkCons (mVar 17) (mkCons (mVar 1) (mkNil)))) (mNil))) ev (S4 ++ T5 ++ T6) = .ok (.lst [own, own]) (S4 ++ T5 ++ T6 ++ T7 ++ T8) :=
      (mL_eq (cons_ok ((call_eq (cons_ok (v1 _) (cons_ok (v17 _) nil_ok)) rfl).trans e7) (cons_ok ((callK_eq (ds := []) (zs := [.int (t : Int), tblF n M]) rfl (kcons_ok (v17 _) (kcons_ok (v1 _) knil_ok)) rfl rfl).trans e8) nil_ok))).trans rfl
    have a2 : ∀ S, mL (plst false) (mCons (mVar 21) (mCons (mVar 21) (mNil))) ev S = .ok (.lst [own, own]) S := fun S => (mL_eq (cons_ok (v21 _) (cons_ok (v21 _) nil_ok))).trans rfl
    refine (tor_f (not_ok (b := true) (S1 := S4 ++ T5 ++ T6 ++ T7 ++ T8) (tr_bl ((call_eq (cons_ok a1 (cons_ok (a2 _) nil_ok)) rfl).trans ?_)))).trans ?_
    · rw [same_is]
      refine same_r 8 _ _ _ (same_ds 7 rfl rfl (by simp) fun d hd => ?_)
      simp only [List.mem_cons, List.not_mem_nil, or_false, or_self] at hd
      subst hd
      exact hsn 6 _
    · rcases hown with rfl | rfl
      · exact tand_f (mT_bl ((m1_eq (v21 _)).trans rfl))
      · refine (tand_t (mT_bl ((m1_eq (v21 _)).trans rfl))).trans (mT_bl ((m2_eq (v21 _) ((mL_eq (cons_ok (v16 _) nil_ok)).trans (len_lot l _))).trans ((pne_int _ _ _).trans ?_)))
        rw [decide_eq_true rfl]
        rfl
  refine ⟨some (lotD l), some (.int ((l.length : Int) - (m.length : Int))), some sm, some (.lst ((l :: w).map lotD)), some own, T1 ++ T2 ++ T3 ++ T4 ++ T5 ++ T6 ++ T7 ++ T8, ?_⟩
  have hT : S ++ (T1 ++ T2 ++ T3 ++ T4 ++ T5 ++ T6 ++ T7 ++ T8) = S4 ++ T5 ++ T6 ++ T7 ++ T8 := by rw [← hSS]; simp only [List.append_assoc]
  rw [hT]
  unfold w2__law_right
  exact cons_nx s16 (cons_nx s18 (cons_nx (if_no (not_ok t1)) (cons_nx (if_no t2) (cons_nx s19 (cons_nx s20 (cons_nx (if_no t3) (cons_nx s21 ((if_no t4).trans rfl))))))))
end
end Mk81


set_option Elab.async false
set_option linter.all false
set_option maxRecDepth 100000
set_option autoImplicit false
set_option maxHeartbeats 4000000
namespace Mk81
open ML PySem PySem.Spec PyProof.Rows L2
/-! ### the table's text -/
def rowP (M : Nat → Nat → Int) (t : Nat) : PyData := .tuple ((List.range (t + 1)).map fun j => PyData.int (M (t + 1) j))
def tblP (n : Nat) (M : Nat → Nat → Int) : PyData := .tuple [.str "table", .tuple ((List.range (n - 1)).map (rowP M))]
theorem py_tbl (n : Nat) (M : Nat → Nat → Int) (S : Sto) : py deep S (tblF n M) = some (tblP n M) := by
  have h1 : ∀ t, py 10 S (rowF M t) = some (rowP M t) := fun t => by
    show (match pyL (py 9 S) ((List.range (t + 1)).map fun j => D.int (M (t + 1) j)) with | some xs => some (PyData.tuple xs) | none => none) = _
    rw [pyL_map (fun j => D.int (M (t + 1) j)) (fun j => PyData.int (M (t + 1) j)) _ fun _ _ => rfl]
    rfl
  have h2 : py 11 S (.tup ((List.range (n - 1)).map (rowF M))) = some (.tuple ((List.range (n - 1)).map (rowP M))) := by
    show (match pyL (py 10 S) ((List.range (n - 1)).map (rowF M)) with | some xs => some (PyData.tuple xs) | none => none) = _
    rw [pyL_map (rowF M) (rowP M) _ fun t _ => h1 t]
  have h3 : py 11 S (.str "table") = some (.str "table") := by
    show (if PyData.strOk "table" = true then some (PyData.str "table") else none) = _
    rw [if_pos (by decide +kernel)]
  show (match pyL (py 11 S) [.str "table", .tup ((List.range (n - 1)).map (rowF M))] with | some xs => some (PyData.tuple xs) | none => none) = _
  simp only [pyL, h2, h3]
  rfl
theorem okPL_map {α : Type} (f : α → PyData) (w : Nat) : ∀ l : List α, (∀ x ∈ l, okP (f x) = true ∧ wP (f x) ≤ w) → okPL (l.map f) = true ∧ wPL (l.map f) ≤ (w + 2) * l.length
  | [], _ => ⟨rfl, Nat.le_refl _⟩
  | x :: l, h => by
    obtain ⟨h1, h2⟩ := okPL_map f w l fun y hy => h y (List.mem_cons_of_mem _ hy)
    obtain ⟨h3, h4⟩ := h x List.mem_cons_self
    constructor
    · show (okP (f x) && okPL (l.map f)) = true
      rw [h1, h3]
      rfl
    · show wP (f x) + 2 + wPL (l.map f) ≤ (w + 2) * (l.length + 1)
      rw [Nat.mul_add]
      omega
theorem okP_tbl {n : Nat} {M : Nat → Nat → Int} (hM : Far n M) (h8 : n ≤ 8) : okP (tblP n M) = true ∧ wP (tblP n M) ≤ 100000 := by
  have h1 : ∀ t ∈ List.range (n - 1), okP (rowP M t) = true ∧ wP (rowP M t) ≤ 300 := fun t ht => by
    have ht := List.mem_range.mp ht
    obtain ⟨a, b⟩ := okPL_map (fun j => PyData.int (M (t + 1) j)) 21 (List.range (t + 1)) fun j hj => by
      have hj := List.mem_range.mp hj
      have p0 := hM.pos (t + 1) j (by omega) (by omega)
      have p1 := hM.le (t + 1) j (by omega) (by omega)
      refine ⟨?_, Nat.le_refl _⟩
      simp only [okP, Bool.or_eq_true, decide_eq_true_eq]
      left
      omega
    rw [List.length_range] at b
    refine ⟨by simpa [okP, rowP] using a, ?_⟩
    show wPL ((List.range (t + 1)).map fun j => PyData.int (M (t + 1) j)) + 3 ≤ 300
    omega
  obtain ⟨a, b⟩ := okPL_map (rowP M) 300 (List.range (n - 1)) h1
  rw [List.length_range] at b
  constructor
  · simp only [tblP, okP, okPL, Bool.and_true, Bool.true_and]
    exact a
  · show (Str.length (reprText "table") + 2 + (wPL ((List.range (n - 1)).map (rowP M)) + 3 + 2 + 0)) + 3 ≤ 100000
    have : Str.length (reprText "table") = 7 := by decide +kernel
    omega
theorem repr_tbl {n : Nat} {M : Nat → Nat → Int} (hM : Far n M) (h8 : n ≤ 8) (S : Sto) : prepr [tblF n M] S = .ok (.str (tblP n M).shown) S := by
  obtain ⟨h1, h2⟩ := okP_tbl hM h8
  exact prepr_ok (py_tbl n M S) h1 (by omega)

def P (z1 z2 z3 z4 z5 z6 z7 z8 z9 z10 z11 z12 z13 z14 z15 z16 z17 z18 z19 z20 z21 z22 z23 : Option D) : Ev := [some (.ref 0), z1, z2, z3, z4, z5, z6, z7, z8, z9, z10, z11, z12, z13, z14, z15, z16, z17, z18, z19, z20, z21, z22, z23]
theorem app_tmp {ev : Ev} {S S1 : Sto} {k : Nat} {ds : List D} {d : D} {m m' : ML.M D} (hm : m ev S = .ok (.ref k) S1) (hk : S1[k]? = some (Cell.lst ds)) (hd : m' ev S1 = .ok d S1) (hz : ds.length < 16777216) : sExpr (mMe isSeq pappend m (mCons m' mNil)) ev S = .ok .nx ev (S1.set k (.lst (ds ++ [d]))) := by
  simp [sExpr, bindS, noEx, mMe, hm, R.bind, isSeq, seqOf, hk, mCons, mNil, hd, pappend, hz]
theorem sum_nat (l : List Nat) : (l.map fun (n : Nat) => (n : Int)).sum = (l.sum : Int) := by
  induction l with
  | nil => rfl
  | cons a l ih => rw [List.map_cons, List.sum_cons, List.sum_cons, ih]; omega
theorem psum_ints (l : List Nat) (S : Sto) : psum [.lst (intsD l)] S = .ok (.int (l.sum : Int)) S := by
  show (match asIs (intsD l) with | some bs => R.ok (D.int bs.sum) S | none => .no) = _
  have e : asIs (intsD l) = some (l.map fun (n : Nat) => (n : Int)) := by
    have := asIs_map (l.map fun (n : Nat) => (n : Int))
    rw [List.map_map] at this
    exact this
  rw [e]
  simp only []
  rw [sum_nat]
theorem in_ints (t : Nat) (l : List Nat) (S : Sto) : pin (.int (t : Int)) (.lst (intsD l)) S = .ok (.bl (l.contains t)) S := by
  have e : isIn S (.int (t : Int)) (.lst (intsD l)) = some (l.contains t) := by
    show (match py deep S (.int (t : Int)), py deep S (.lst (intsD l)) with
      | some a, some (.tuple bs) => some (bs.any fun b => PyData.eqv b a)
      | some a, some (.list bs) => some (bs.any fun b => PyData.eqv b a)
      | _, _ => none) = _
    have h2 : py deep S (.lst (intsD l)) = some (.list (intsP l)) := by
      show (match pyL (py 11 S) (intsD l) with | some xs => some (PyData.list xs) | none => none) = _
      rw [show pyL (py 11 S) (intsD l) = some (intsP l) from py_ints 10 S l]
    rw [h2]
    show some ((intsP l).any fun b => PyData.eqv b (.int (t : Int))) = _
    congr 1
    unfold intsP
    rw [List.any_map]
    clear h2
    induction l with
    | nil => rfl
    | cons a l ih =>
      rw [List.any_cons, ih, List.contains_cons]
      congr 1
      show PyData.eqv (.int (a : Int)) (.int (t : Int)) = _
      rw [eqv_int, Bool.eq_iff_iff]
      simp
      omega
  show (match isIn S (.int (t : Int)) (.lst (intsD l)) with | some b => R.ok (D.bl b) S | none => .no) = _
  rw [e]
theorem spoil_eq {n : Nat} (h2 : 2 ≤ n) (h7 : n ≤ 7) (B : List (List Nat)) : ((List.range n).filter fun t => !decide (B = []) && (curesL n B).contains [t]) = spoilL n B := by
  unfold spoilL
  refine List.filter_congr fun t ht => ?_
  have ht := List.mem_range.mp ht
  have : (curesL n B).contains [t] = curesB B [t] := by
    rw [Bool.eq_iff_iff]
    unfold curesL
    rw [List.contains_iff_mem, List.mem_filter]
    constructor
    · intro h; exact h.2
    · intro h; exact ⟨((lotsB_parts h2 h7).2.2.2.2.1 t ht).1, h⟩
  rw [this]
theorem best_eq {n : Nat} (h2 : 2 ≤ n) (B : List (List Nat)) (k : Nat) : ((curesL n B).filter fun l => decide (l.length = k)) = bestL n B k := by
  unfold curesL bestL
  rw [List.filter_filter]
/-- one drawn table -/
theorem lright_ok {S : Sto} (hP0 : Pot S 0) : ∃ S', m__law_right [.ref 0] S = .ok (.bl true) S' ∧ Pot S' 0 := by
  obtain ⟨n, M, S1, e1, k1, h2, h7, hM⟩ := drawn_metric (most := 7) (wrong := 4) hP0 (by omega) (by omega) (by omega)
  obtain ⟨T, e2⟩ := lbad_ok hM.toFar h2 (by omega) S1
  have hbz := bad_small (M := M) h2 (show n ≤ 8 by omega)
  have hb4 : ∀ q ∈ badL n M, q.length ≤ 100 := fun q hq => by
    obtain ⟨a, b, c, d, rfl, _⟩ := mem_four h2 (by omega) (List.mem_filter.mp hq).1
    show 4 ≤ 100
    omega
  have hCz := curesL_small h2 h7 (badL n M)
  have hBs : Bs (S1 ++ .lst ((badL n M).map lotD) :: T) S1.length (badL n M) := get_mid S1 T _
  have hP2 := k1.pot.app (.lst ((badL n M).map lotD) :: T)
  obtain ⟨m, T0, _, hm⟩ := least_ok hM.toFar h2 h7 S1
  have hml := (mem_lot h2 h7 ((lots_sub h2 h7 (lotsB_parts h2 h7).2.1).mp (firstC_prop hm).1).1).1
  obtain ⟨rC, hCr⟩ := head_first h2 h7 hm
  have rp : ∀ S, prepr [tblF n M] S = .ok (.str (tblP n M).shown) S := fun S => repr_tbl hM.toFar (by omega) S
  have su := fun S => suspects_ok hM h2 h7 hm S
  have fr := fun S => trusted_ok hM h2 h7 hm S
  have re := fun S => open_ok hM h2 h7 hm S
  have so := fun S => spoilers_ok hM h2 h7 S
  have bo := fun S => blames_ok hM h2 h7 S
  have hKz : (bestL n (badL n M) m.length).length ≤ 256 := Nat.le_trans (List.length_filter_le _ _) (lotsB_parts h2 h7).2.2.1
  have hbs := blame_sum h2 (show n ≤ 8 by omega) (badL n M) fun q hq => (List.mem_filter.mp hq).1
  have hbn := fun h => blame_none hM.toFar h2 (show n ≤ 8 by omega) h
  have lcu := fun {S : Sto} (hS : Bs S S1.length (badL n M)) => lcures_ok h2 h7 hbz hb4 hS
  have spe := spoil_eq h2 h7 (badL n M)
  have bse := best_eq h2 (badL n M) m.length
  have w1 := fun {S : Sto} {sh told : D} {fr re al bl : List Nat} {z14 z15 z16 z17 z18 z19 z20 z21 z22 z23 : Option D} (hK : Kp 0 (S1 ++ .lst ((badL n M).map lotD) :: T) S) => w1_ok (sh := sh) (told := told) (fr := fr) (re := re) (al := al) (bl := bl) (kb := S1.length) (K := bestL n (badL n M) m.length) (su := sureL n (bestL n (badL n M) m.length)) (z14 := z14) (z15 := z15) (z16 := z16) (z17 := z17) (z18 := z18) (z19 := z19) (z20 := z20) (z21 := z21) (z22 := z22) (z23 := z23) hM h2 h7 hK
  have w2 := fun {S : Sto} {sh told : D} {fr re al bl : List Nat} {z14 z15 z16 z18 z19 z20 z21 z22 z23 : Option D} {t : Nat} (ht : t < n) (hS : Bs S S1.length (badL n M)) => w2_ok (sh := sh) (told := told) (fr := fr) (re := re) (al := al) (bl := bl) (z14 := z14) (z15 := z15) (z16 := z16) (z18 := z18) (z19 := z19) (z20 := z20) (z21 := z21) (z22 := z22) (z23 := z23) hM h2 h7 hm ht hS
  generalize hsh : (tblP n M).shown = sh at *
  generalize hkb : S1.length = kb at *
  have h0k : kb ≠ 0 := by have := k1.pot.lt; omega
  generalize hBB : badL n M = B at *
  generalize hS2 : S1 ++ Cell.lst (B.map lotD) :: T = S2 at *
  generalize hKK : bestL n B m.length = K at *
  generalize hCC : curesL n B = C at *
  have s1 : sSet 1 (mCall 3 m__law_metric (mCons (mVar 0) (mCons (mC (.int 7)) (mCons (mC (.int 4)) (mNil))))) (P none none none none none none none none none none none none none none none none none none none none none none none) S = .ok .nx (P (some (tblF n M)) none none none none none none none none none none none none none none none none none none none none none none) S1 := by
    rw [metric_is]
    exact set_eq ((call_eq (cons_ok rfl (cons_ok rfl (cons_ok rfl nil_ok))) rfl).trans e1)
  have s2 : sAsg (tgT 3 (tgCons (tgN 2) (tgCons (tgN 3) (tgCons (tgN 4) (tgNil))))) (mL ptup (mCons (mL prepr (mCons (mVar 1) (mNil))) (mCons (m2 (padd false) (mL plen (mCons (m2 pix (mVar 1) (mC (.int 1))) (mNil))) (mC (.int 1))) (mCons (mCall 1 m__law_bad (mCons (mVar 1) (mNil))) (mNil))))) (P (some (tblF n M)) none none none none none none none none none none none none none none none none none none none none none none) S1 = .ok .nx (P (some (tblF n M)) (some (.str sh)) (some (.int (n : Int))) (some (.ref kb)) none none none none none none none none none none none none none none none none none none none) S2 := by
    have hn : m2 (padd false) (mL plen (mCons (m2 pix (mVar 1) (mC (.int 1))) (mNil))) (mC (.int 1)) (P (some (tblF n M)) none none none none none none none none none none none none none none none none none none none none none none) S1 = .ok (.int (n : Int)) S1 := by
      have e0 : ((n - 1 : Nat) : Int) + 1 = (n : Int) := by omega
      refine (m2_eq ((mL_eq (cons_ok ((m2_eq (x := tblF n M) rfl rfl).trans (show pix (tblF n M) (.int 1) S1 = .ok (.tup ((List.range (n - 1)).map (rowF M))) S1 from rfl)) nil_ok)).trans (Sq.tup _).len) rfl).trans ?_
      show R.ok (D.int ((((List.range (n - 1)).map (rowF M)).length : Int) + 1)) S1 = _
      rw [List.length_map, List.length_range, e0]
    have hv : mL ptup (mCons (mL prepr (mCons (mVar 1) (mNil))) (mCons (m2 (padd false) (mL plen (mCons (m2 pix (mVar 1) (mC (.int 1))) (mNil))) (mC (.int 1))) (mCons (mCall 1 m__law_bad (mCons (mVar 1) (mNil))) (mNil)))) (P (some (tblF n M)) none none none none none none none none none none none none none none none none none none none none none none) S1 = .ok (.tup [.str sh, .int (n : Int), .ref kb]) S2 :=
      (mL_eq (cons_ok ((mL_eq (cons_ok (d := tblF n M) rfl nil_ok)).trans (rp S1)) (cons_ok hn (cons_ok ((call_eq (cons_ok (d := tblF n M) rfl nil_ok) rfl).trans e2) nil_ok)))).trans rfl
    unfold sAsg
    rw [hv]
    rfl
  have s3 : sSet 5 (mL (plistR false) (mCons (mVar 3) (mNil))) (P (some (tblF n M)) (some (.str sh)) (some (.int (n : Int))) (some (.ref kb)) none none none none none none none none none none none none none none none none none none none) S2 = .ok .nx (P (some (tblF n M)) (some (.str sh)) (some (.int (n : Int))) (some (.ref kb)) (some (.lst (intsD (List.range n)))) none none none none none none none none none none none none none none none none none none) S2 := set_eq (listR_ok (m := mVar 3) (n := n) rfl (by omega))
  obtain ⟨T3, e3⟩ := lcu hBs
  have s4 : sSet 6 (mCall 2 m__law_cures (mCons (mVar 4) (mCons (mVar 5) (mNil)))) (P (some (tblF n M)) (some (.str sh)) (some (.int (n : Int))) (some (.ref kb)) (some (.lst (intsD (List.range n)))) none none none none none none none none none none none none none none none none none none) S2 = .ok .nx (P (some (tblF n M)) (some (.str sh)) (some (.int (n : Int))) (some (.ref kb)) (some (.lst (intsD (List.range n)))) (some (.lst (C.map lotD))) none none none none none none none none none none none none none none none none none) (S2 ++ T3) := set_eq ((call_eq (cons_ok rfl (cons_ok rfl nil_ok)) rfl).trans e3)
  have hBs3 := hBs.app T3
  have hP3 := hP2.app T3
  have hK3 : Kp 0 S2 (S2 ++ T3) := (Kp.refl hP2).app T3
  generalize hS3 : S2 ++ T3 = S3 at *
  have s5 : sSet 7 c1__law_right (P (some (tblF n M)) (some (.str sh)) (some (.int (n : Int))) (some (.ref kb)) (some (.lst (intsD (List.range n)))) (some (.lst (C.map lotD))) none none none none none none none none none none none none none none none none none) S3 = .ok .nx (P (some (tblF n M)) (some (.str sh)) (some (.int (n : Int))) (some (.ref kb)) (some (.lst (intsD (List.range n)))) (some (.lst (C.map lotD))) (some (.lst (K.map lotD))) none none none none none none none none none none none none none none none none) S3 := by
    refine set_eq ?_
    rw [← bse]
    have hs : mSrc (mVar 6) (P (some (tblF n M)) (some (.str sh)) (some (.int (n : Int))) (some (.ref kb)) (some (.lst (intsD (List.range n)))) (some (.lst (C.map lotD))) none none none none none none none none none none none none none none none none none) S3 = .ok ⟨C.map lotD, []⟩ S3 := src_seq (d := .lst (C.map lotD)) rfl rfl
    unfold c1__law_right
    refine lc_if C lotD (fun l => decide (l.length = m.length)) lotD hs rfl (by omega) fun l hl => ?_
    refine ⟨(P (some (tblF n M)) (some (.str sh)) (some (.int (n : Int))) (some (.ref kb)) (some (.lst (intsD (List.range n)))) (some (.lst (C.map lotD))) none none none none none none none none (some (lotD l)) none none none none none none none none), rfl, ?_, fun _ => rfl⟩
    refine mT_bl ((m2_eq ((mL_eq (cons_ok (d := lotD l) rfl nil_ok)).trans (len_lot l S3)) ((mL_eq (cons_ok ((m2_eq (x := .lst (C.map lotD)) rfl rfl).trans (pix0 C S3 m rC hCr)) nil_ok)).trans (len_lot m S3))).trans ?_)
    show R.ok (D.bl (decide ((l.length : Int) = (m.length : Int)))) S3 = _
    rw [show decide ((l.length : Int) = (m.length : Int)) = decide (l.length = m.length) by rw [Bool.eq_iff_iff]; simp; omega]
  have s6 : sSet 8 (mL ptuple (mCons (c3__law_right) (mNil))) (P (some (tblF n M)) (some (.str sh)) (some (.int (n : Int))) (some (.ref kb)) (some (.lst (intsD (List.range n)))) (some (.lst (C.map lotD))) (some (.lst (K.map lotD))) none none none none none none none none none none none none none none none none) S3 = .ok .nx (P (some (tblF n M)) (some (.str sh)) (some (.int (n : Int))) (some (.ref kb)) (some (.lst (intsD (List.range n)))) (some (.lst (C.map lotD))) (some (.lst (K.map lotD))) (some (lotD (sureL n K))) none none none none none none none none none none none none none none none) S3 := by
    have hs : mSrc (mVar 5) (P (some (tblF n M)) (some (.str sh)) (some (.int (n : Int))) (some (.ref kb)) (some (.lst (intsD (List.range n)))) (some (.lst (C.map lotD))) (some (.lst (K.map lotD))) none none none none none none none none none none none none none none none none) S3 = .ok ⟨(List.range n).map (fun (t : Nat) => D.int (t : Int)), []⟩ S3 := src_seq (d := .lst (intsD (List.range n))) rfl rfl
    have hc : c3__law_right (P (some (tblF n M)) (some (.str sh)) (some (.int (n : Int))) (some (.ref kb)) (some (.lst (intsD (List.range n)))) (some (.lst (C.map lotD))) (some (.lst (K.map lotD))) none none none none none none none none none none none none none none none none) S3 = .ok (.lst ((sureL n K).map fun (t : Nat) => D.int (t : Int))) S3 := by
      unfold c3__law_right
      refine lc_if (List.range n) (fun (t : Nat) => D.int (t : Int)) (fun t => K.all fun l => l.contains t) (fun (t : Nat) => D.int (t : Int)) hs rfl (by rw [List.length_range]; omega) fun t ht => ?_
      refine ⟨(P (some (tblF n M)) (some (.str sh)) (some (.int (n : Int))) (some (.ref kb)) (some (.lst (intsD (List.range n)))) (some (.lst (C.map lotD))) (some (.lst (K.map lotD))) none none none none none none none none none (some (.int (t : Int))) none none none none none none), rfl, tr_bl (all_ok (p := fun l : List Nat => l.contains t) ?_), fun _ => rfl⟩
      have hs2 : mSrc (mVar 7) (P (some (tblF n M)) (some (.str sh)) (some (.int (n : Int))) (some (.ref kb)) (some (.lst (intsD (List.range n)))) (some (.lst (C.map lotD))) (some (.lst (K.map lotD))) none none none none none none none none none (some (.int (t : Int))) none none none none none none) S3 = .ok ⟨K.map lotD, []⟩ S3 := src_seq (d := .lst (K.map lotD)) rfl rfl
      unfold c2__law_right
      refine lc_mp K lotD _ hs2 rfl (by omega) fun l hl => ?_
      exact ⟨(P (some (tblF n M)) (some (.str sh)) (some (.int (n : Int))) (some (.ref kb)) (some (.lst (intsD (List.range n)))) (some (.lst (C.map lotD))) (some (.lst (K.map lotD))) none none none none none none none (some (lotD l)) none (some (.int (t : Int))) none none none none none none), rfl, rfl, (m2_eq rfl rfl).trans (in_lot t l S3)⟩
    exact set_eq (tup_ok hc)
  have s7 : sSet 9 (mL ptuple (mCons (c5__law_right) (mNil))) (P (some (tblF n M)) (some (.str sh)) (some (.int (n : Int))) (some (.ref kb)) (some (.lst (intsD (List.range n)))) (some (.lst (C.map lotD))) (some (.lst (K.map lotD))) (some (lotD (sureL n K))) none none none none none none none none none none none none none none none) S3 = .ok .nx (P (some (tblF n M)) (some (.str sh)) (some (.int (n : Int))) (some (.ref kb)) (some (.lst (intsD (List.range n)))) (some (.lst (C.map lotD))) (some (.lst (K.map lotD))) (some (lotD (sureL n K))) (some (lotD (freeL n K))) none none none none none none none none none none none none none none) S3 := by
    have hs : mSrc (mVar 5) (P (some (tblF n M)) (some (.str sh)) (some (.int (n : Int))) (some (.ref kb)) (some (.lst (intsD (List.range n)))) (some (.lst (C.map lotD))) (some (.lst (K.map lotD))) (some (lotD (sureL n K))) none none none none none none none none none none none none none none none) S3 = .ok ⟨(List.range n).map (fun (t : Nat) => D.int (t : Int)), []⟩ S3 := src_seq (d := .lst (intsD (List.range n))) rfl rfl
    have hc : c5__law_right (P (some (tblF n M)) (some (.str sh)) (some (.int (n : Int))) (some (.ref kb)) (some (.lst (intsD (List.range n)))) (some (.lst (C.map lotD))) (some (.lst (K.map lotD))) (some (lotD (sureL n K))) none none none none none none none none none none none none none none none) S3 = .ok (.lst ((freeL n K).map fun (t : Nat) => D.int (t : Int))) S3 := by
      unfold c5__law_right
      refine lc_if (List.range n) (fun (t : Nat) => D.int (t : Int)) (fun t => !K.any fun l => l.contains t) (fun (t : Nat) => D.int (t : Int)) hs rfl (by rw [List.length_range]; omega) fun t ht => ?_
      refine ⟨(P (some (tblF n M)) (some (.str sh)) (some (.int (n : Int))) (some (.ref kb)) (some (.lst (intsD (List.range n)))) (some (.lst (C.map lotD))) (some (.lst (K.map lotD))) (some (lotD (sureL n K))) none none none none none none none none (some (.int (t : Int))) none none none none none none), rfl, not_ok (tr_bl (any_ok (p := fun l : List Nat => l.contains t) ?_)), fun _ => rfl⟩
      have hs2 : mSrc (mVar 7) (P (some (tblF n M)) (some (.str sh)) (some (.int (n : Int))) (some (.ref kb)) (some (.lst (intsD (List.range n)))) (some (.lst (C.map lotD))) (some (.lst (K.map lotD))) (some (lotD (sureL n K))) none none none none none none none none (some (.int (t : Int))) none none none none none none) S3 = .ok ⟨K.map lotD, []⟩ S3 := src_seq (d := .lst (K.map lotD)) rfl rfl
      unfold c4__law_right
      refine lc_mp K lotD _ hs2 rfl (by omega) fun l hl => ?_
      exact ⟨(P (some (tblF n M)) (some (.str sh)) (some (.int (n : Int))) (some (.ref kb)) (some (.lst (intsD (List.range n)))) (some (.lst (C.map lotD))) (some (.lst (K.map lotD))) (some (lotD (sureL n K))) none none none none none none (some (lotD l)) none (some (.int (t : Int))) none none none none none none), rfl, rfl, (m2_eq rfl rfl).trans (in_lot t l S3)⟩
    exact set_eq (tup_ok hc)
  have hsl : (sureL n K).length ≤ 100 ∧ (freeL n K).length ≤ 100 := by
    have h1 := List.length_filter_le (fun t => K.all fun l => l.contains t) (List.range n)
    have h2 := List.length_filter_le (fun t => !K.any fun l => l.contains t) (List.range n)
    rw [List.length_range] at h1 h2
    exact ⟨Nat.le_trans h1 (by omega), Nat.le_trans h2 (by omega)⟩
  have s8 : sSet 10 (mL ptuple (mCons (c6__law_right) (mNil))) (P (some (tblF n M)) (some (.str sh)) (some (.int (n : Int))) (some (.ref kb)) (some (.lst (intsD (List.range n)))) (some (.lst (C.map lotD))) (some (.lst (K.map lotD))) (some (lotD (sureL n K))) (some (lotD (freeL n K))) none none none none none none none none none none none none none none) S3 = .ok .nx (P (some (tblF n M)) (some (.str sh)) (some (.int (n : Int))) (some (.ref kb)) (some (.lst (intsD (List.range n)))) (some (.lst (C.map lotD))) (some (.lst (K.map lotD))) (some (lotD (sureL n K))) (some (lotD (freeL n K))) (some (lotD (openL n K))) none none none none none none none none none none none none none) S3 := by
    have hs : mSrc (mVar 5) (P (some (tblF n M)) (some (.str sh)) (some (.int (n : Int))) (some (.ref kb)) (some (.lst (intsD (List.range n)))) (some (.lst (C.map lotD))) (some (.lst (K.map lotD))) (some (lotD (sureL n K))) (some (lotD (freeL n K))) none none none none none none none none none none none none none none) S3 = .ok ⟨(List.range n).map (fun (t : Nat) => D.int (t : Int)), []⟩ S3 := src_seq (d := .lst (intsD (List.range n))) rfl rfl
    have hc : c6__law_right (P (some (tblF n M)) (some (.str sh)) (some (.int (n : Int))) (some (.ref kb)) (some (.lst (intsD (List.range n)))) (some (.lst (C.map lotD))) (some (.lst (K.map lotD))) (some (lotD (sureL n K))) (some (lotD (freeL n K))) none none none none none none none none none none none none none none) S3 = .ok (.lst ((openL n K).map fun (t : Nat) => D.int (t : Int))) S3 := by
      rw [← rest_eq]
      unfold c6__law_right
      refine lc_if (List.range n) (fun (t : Nat) => D.int (t : Int)) (fun t => !(sureL n K ++ freeL n K).contains t) (fun (t : Nat) => D.int (t : Int)) hs rfl (by rw [List.length_range]; omega) fun t ht => ?_
      refine ⟨(P (some (tblF n M)) (some (.str sh)) (some (.int (n : Int))) (some (.ref kb)) (some (.lst (intsD (List.range n)))) (some (.lst (C.map lotD))) (some (.lst (K.map lotD))) (some (lotD (sureL n K))) (some (lotD (freeL n K))) none none none none none none none (some (.int (t : Int))) none none none none none none), rfl, ?_, fun _ => rfl⟩
      have ha : m2 (padd false) (mVar 8) (mVar 9) (P (some (tblF n M)) (some (.str sh)) (some (.int (n : Int))) (some (.ref kb)) (some (.lst (intsD (List.range n)))) (some (.lst (C.map lotD))) (some (.lst (K.map lotD))) (some (lotD (sureL n K))) (some (lotD (freeL n K))) none none none none none none none (some (.int (t : Int))) none none none none none none) S3 = .ok (lotD (sureL n K ++ freeL n K)) S3 := by
        refine (m2_eq (x := lotD (sureL n K)) (y := lotD (freeL n K)) rfl rfl).trans ?_
        show (if ((sureL n K).map fun (t : Nat) => D.int (t : Int)).length + ((freeL n K).map fun (t : Nat) => D.int (t : Int)).length ≤ 16777216 then R.ok (D.tup (((sureL n K).map fun (t : Nat) => D.int (t : Int)) ++ ((freeL n K).map fun (t : Nat) => D.int (t : Int)))) S3 else .no) = _
        rw [if_pos (by rw [List.length_map, List.length_map]; omega), ← List.map_append]
        rfl
      exact mT_bl ((m2_eq rfl ha).trans (nin_lot t _ S3))
    exact set_eq (tup_ok hc)
  obtain ⟨U1, u1⟩ := su S3
  obtain ⟨U2, u2⟩ := fr (S3 ++ U1)
  obtain ⟨U3, u3⟩ := re (S3 ++ U1 ++ U2)
  obtain ⟨U4, u4⟩ := su (S3 ++ U1 ++ U2 ++ U3)
  obtain ⟨U5, u5⟩ := fr (S3 ++ U1 ++ U2 ++ U3 ++ U4)
  obtain ⟨U6, u6⟩ := re (S3 ++ U1 ++ U2 ++ U3 ++ U4 ++ U5)
  have s9 : sSet 11 (mL (plst false) (mCons (mCall 1 m_suspects (mCons (mVar 1) (mNil))) (mCons (mCall 1 m_trusted (mCons (mVar 1) (mNil))) (mCons (mCall 1 m_open_towns (mCons (mVar 1) (mNil))) (mCons (mCallK 0 (["table"] : List Str).length [0] m_suspects mNil (mkCons (mVar 1) (mkNil))) (mCons (mCallK 0 (["table"] : List Str).length [0] m_trusted mNil (mkCons (mVar 1) (mkNil))) (mCons (mCallK 0 (["table"] : List Str).length [0] m_open_towns mNil (mkCons (mVar 1) (mkNil))) (mNil)))))))) (P (some (tblF n M)) (some (.str sh)) (some (.int (n : Int))) (some (.ref kb)) (some (.lst (intsD (List.range n)))) (some (.lst (C.map lotD))) (some (.lst (K.map lotD))) (some (lotD (sureL n K))) (some (lotD (freeL n K))) (some (lotD (openL n K))) none none none none none none none none none none none none none) S3 = .ok .nx (P (some (tblF n M)) (some (.str sh)) (some (.int (n : Int))) (some (.ref kb)) (some (.lst (intsD (List.range n)))) (some (.lst (C.map lotD))) (some (.lst (K.map lotD))) (some (lotD (sureL n K))) (some (lotD (freeL n K))) (some (lotD (openL n K))) (some (.lst [lotD (sureL n K), lotD (freeL n K), lotD (openL n K), lotD (sureL n K), lotD (freeL n K), lotD (openL n K)])) none none none none none none none none none none none none) (S3 ++ U1 ++ U2 ++ U3 ++ U4 ++ U5 ++ U6) := by
    refine set_eq ?_
    generalize hev : (P (some (tblF n M)) (some (.str sh)) (some (.int (n : Int))) (some (.ref kb)) (some (.lst (intsD (List.range n)))) (some (.lst (C.map lotD))) (some (.lst (K.map lotD))) (some (lotD (sureL n K))) (some (lotD (freeL n K))) (some (lotD (openL n K))) none none none none none none none none none none none none none) = ev
    have v1 : ∀ S, mVar 1 ev S = .ok (tblF n M) S := fun S => by subst hev; rfl
    exact (mL_eq (cons_ok ((call_eq (cons_ok (v1 _) nil_ok) rfl).trans u1) (cons_ok ((call_eq (cons_ok (v1 _) nil_ok) rfl).trans u2) (cons_ok ((call_eq (cons_ok (v1 _) nil_ok) rfl).trans u3)
      (cons_ok ((callK_eq (ds := []) (zs := [tblF n M]) rfl (kcons_ok (v1 _) knil_ok) rfl rfl).trans u4) (cons_ok ((callK_eq (ds := []) (zs := [tblF n M]) rfl (kcons_ok (v1 _) knil_ok) rfl rfl).trans u5) (cons_ok ((callK_eq (ds := []) (zs := [tblF n M]) rfl (kcons_ok (v1 _) knil_ok) rfl rfl).trans u6) nil_ok))))))).trans rfl
  have hBs4 := (((((hBs3.app U1).app U2).app U3).app U4).app U5).app U6
  have hP4 := (((((hP3.app U1).app U2).app U3).app U4).app U5).app U6
  have hK4 := (((((hK3.app U1).app U2).app U3).app U4).app U5).app U6
  generalize hS4 : S3 ++ U1 ++ U2 ++ U3 ++ U4 ++ U5 ++ U6 = S4 at *
  have hol : (openL n K).length ≤ 100 := by
    have h1 := List.length_filter_le (fun t => decide (0 < cntL K t) && decide (cntL K t < K.length)) (List.range n)
    rw [List.length_range] at h1
    exact Nat.le_trans h1 (by omega)
  have t1 : mTr (mCall 2 m__law_same (mCons (mVar 11) (mCons (m2 (pmul false) (mL (plst false) (mCons (mVar 8) (mCons (mVar 9) (mCons (mVar 10) (mNil))))) (mC (.int 2))) (mNil)))) (P (some (tblF n M)) (some (.str sh)) (some (.int (n : Int))) (some (.ref kb)) (some (.lst (intsD (List.range n)))) (some (.lst (C.map lotD))) (some (.lst (K.map lotD))) (some (lotD (sureL n K))) (some (lotD (freeL n K))) (some (lotD (openL n K))) (some (.lst [lotD (sureL n K), lotD (freeL n K), lotD (openL n K), lotD (sureL n K), lotD (freeL n K), lotD (openL n K)])) none none none none none none none none none none none none) S4 = .ok true S4 := by
    have hm : m2 (pmul false) (mL (plst false) (mCons (mVar 8) (mCons (mVar 9) (mCons (mVar 10) (mNil))))) (mC (.int 2)) (P (some (tblF n M)) (some (.str sh)) (some (.int (n : Int))) (some (.ref kb)) (some (.lst (intsD (List.range n)))) (some (.lst (C.map lotD))) (some (.lst (K.map lotD))) (some (lotD (sureL n K))) (some (lotD (freeL n K))) (some (lotD (openL n K))) (some (.lst [lotD (sureL n K), lotD (freeL n K), lotD (openL n K), lotD (sureL n K), lotD (freeL n K), lotD (openL n K)])) none none none none none none none none none none none none) S4 = .ok (.lst [lotD (sureL n K), lotD (freeL n K), lotD (openL n K), lotD (sureL n K), lotD (freeL n K), lotD (openL n K)]) S4 := (m2_eq (x := .lst [lotD (sureL n K), lotD (freeL n K), lotD (openL n K)]) rfl rfl).trans (by simp [pmul, seqM, mkL])
    refine tr_bl ((call_eq (cons_ok (d := .lst [lotD (sureL n K), lotD (freeL n K), lotD (openL n K), lotD (sureL n K), lotD (freeL n K), lotD (openL n K)]) rfl (cons_ok hm nil_ok)) rfl).trans ?_)
    rw [same_is]
    refine same_r 8 _ _ _ (same_ds 7 rfl rfl (by simp) fun d hd => ?_)
    simp only [List.mem_cons, List.not_mem_nil, or_false] at hd
    rcases hd with rfl | rfl | rfl | rfl | rfl | rfl <;> exact same_lot 5 _ (by omega)
  have s10 : sSet 12 c7__law_right (P (some (tblF n M)) (some (.str sh)) (some (.int (n : Int))) (some (.ref kb)) (some (.lst (intsD (List.range n)))) (some (.lst (C.map lotD))) (some (.lst (K.map lotD))) (some (lotD (sureL n K))) (some (lotD (freeL n K))) (some (lotD (openL n K))) (some (.lst [lotD (sureL n K), lotD (freeL n K), lotD (openL n K), lotD (sureL n K), lotD (freeL n K), lotD (openL n K)])) none none none none none none none none none none none none) S4 = .ok .nx (P (some (tblF n M)) (some (.str sh)) (some (.int (n : Int))) (some (.ref kb)) (some (.lst (intsD (List.range n)))) (some (.lst (C.map lotD))) (some (.lst (K.map lotD))) (some (lotD (sureL n K))) (some (lotD (freeL n K))) (some (lotD (openL n K))) (some (.lst [lotD (sureL n K), lotD (freeL n K), lotD (openL n K), lotD (sureL n K), lotD (freeL n K), lotD (openL n K)])) (some (.lst (intsD (spoilL n B)))) none none none none none none none none none none none) S4 := by
    refine set_eq ?_
    rw [← spe]
    have hs : mSrc (mVar 5) (P (some (tblF n M)) (some (.str sh)) (some (.int (n : Int))) (some (.ref kb)) (some (.lst (intsD (List.range n)))) (some (.lst (C.map lotD))) (some (.lst (K.map lotD))) (some (lotD (sureL n K))) (some (lotD (freeL n K))) (some (lotD (openL n K))) (some (.lst [lotD (sureL n K), lotD (freeL n K), lotD (openL n K), lotD (sureL n K), lotD (freeL n K), lotD (openL n K)])) none none none none none none none none none none none none) S4 = .ok ⟨(List.range n).map (fun (t : Nat) => D.int (t : Int)), []⟩ S4 := src_seq (d := .lst (intsD (List.range n))) rfl rfl
    unfold c7__law_right
    refine lc_if (List.range n) (fun (t : Nat) => D.int (t : Int)) (fun t => !decide (B = []) && C.contains [t]) (fun (t : Nat) => D.int (t : Int)) hs rfl (by rw [List.length_range]; omega) fun t ht => ?_
    refine ⟨(P (some (tblF n M)) (some (.str sh)) (some (.int (n : Int))) (some (.ref kb)) (some (.lst (intsD (List.range n)))) (some (.lst (C.map lotD))) (some (.lst (K.map lotD))) (some (lotD (sureL n K))) (some (lotD (freeL n K))) (some (lotD (openL n K))) (some (.lst [lotD (sureL n K), lotD (freeL n K), lotD (openL n K), lotD (sureL n K), lotD (freeL n K), lotD (openL n K)])) none none none none none (some (.int (t : Int))) none none none none none none), rfl, ?_, fun _ => rfl⟩
    have p1 : mT (m2 pne (mVar 4) (mL (plst false) (mNil))) (P (some (tblF n M)) (some (.str sh)) (some (.int (n : Int))) (some (.ref kb)) (some (.lst (intsD (List.range n)))) (some (.lst (C.map lotD))) (some (.lst (K.map lotD))) (some (lotD (sureL n K))) (some (lotD (freeL n K))) (some (lotD (openL n K))) (some (.lst [lotD (sureL n K), lotD (freeL n K), lotD (openL n K), lotD (sureL n K), lotD (freeL n K), lotD (openL n K)])) none none none none none (some (.int (t : Int))) none none none none none none) S4 = .ok (!decide (B = [])) S4 := mT_bl ((m2_eq (x := .ref kb) rfl rfl).trans (pne_bad hBs4))
    have p2 : mT (m2 pin (mL ptup (mCons (mVar 17) (mNil))) (mVar 6)) (P (some (tblF n M)) (some (.str sh)) (some (.int (n : Int))) (some (.ref kb)) (some (.lst (intsD (List.range n)))) (some (.lst (C.map lotD))) (some (.lst (K.map lotD))) (some (lotD (sureL n K))) (some (lotD (freeL n K))) (some (lotD (openL n K))) (some (.lst [lotD (sureL n K), lotD (freeL n K), lotD (openL n K), lotD (sureL n K), lotD (freeL n K), lotD (openL n K)])) none none none none none (some (.int (t : Int))) none none none none none none) S4 = .ok (C.contains [t]) S4 := mT_bl ((m2_eq (x := lotD [t]) (y := .lst (C.map lotD)) rfl rfl).trans (in_lots [t] C S4))
    cases hb : (!decide (B = [])) with
    | true => rw [hb] at p1; rw [Bool.true_and]; exact (tand_t p1).trans p2
    | false => rw [hb] at p1; rw [Bool.false_and]; exact tand_f p1
  have s11 : sSet 13 c9__law_right (P (some (tblF n M)) (some (.str sh)) (some (.int (n : Int))) (some (.ref kb)) (some (.lst (intsD (List.range n)))) (some (.lst (C.map lotD))) (some (.lst (K.map lotD))) (some (lotD (sureL n K))) (some (lotD (freeL n K))) (some (lotD (openL n K))) (some (.lst [lotD (sureL n K), lotD (freeL n K), lotD (openL n K), lotD (sureL n K), lotD (freeL n K), lotD (openL n K)])) (some (.lst (intsD (spoilL n B)))) none none none none none none none none none none none) S4 = .ok .nx (P (some (tblF n M)) (some (.str sh)) (some (.int (n : Int))) (some (.ref kb)) (some (.lst (intsD (List.range n)))) (some (.lst (C.map lotD))) (some (.lst (K.map lotD))) (some (lotD (sureL n K))) (some (lotD (freeL n K))) (some (lotD (openL n K))) (some (.lst [lotD (sureL n K), lotD (freeL n K), lotD (openL n K), lotD (sureL n K), lotD (freeL n K), lotD (openL n K)])) (some (.lst (intsD (spoilL n B)))) (some (.lst (intsD (blameL n B)))) none none none none none none none none none none) S4 := by
    refine set_eq ?_
    have e0 : intsD (blameL n B) = (List.range n).map fun t => D.int ((B.filter fun q => q.contains t).length : Int) := by unfold intsD blameL; rw [List.map_map]; rfl
    rw [e0]
    have hs : mSrc (mVar 5) (P (some (tblF n M)) (some (.str sh)) (some (.int (n : Int))) (some (.ref kb)) (some (.lst (intsD (List.range n)))) (some (.lst (C.map lotD))) (some (.lst (K.map lotD))) (some (lotD (sureL n K))) (some (lotD (freeL n K))) (some (lotD (openL n K))) (some (.lst [lotD (sureL n K), lotD (freeL n K), lotD (openL n K), lotD (sureL n K), lotD (freeL n K), lotD (openL n K)])) (some (.lst (intsD (spoilL n B)))) none none none none none none none none none none none) S4 = .ok ⟨(List.range n).map (fun (t : Nat) => D.int (t : Int)), []⟩ S4 := src_seq (d := .lst (intsD (List.range n))) rfl rfl
    unfold c9__law_right
    refine lc_mp (List.range n) (fun (t : Nat) => D.int (t : Int)) _ hs rfl (by rw [List.length_range]; omega) fun t ht => ?_
    refine ⟨(P (some (tblF n M)) (some (.str sh)) (some (.int (n : Int))) (some (.ref kb)) (some (.lst (intsD (List.range n)))) (some (.lst (C.map lotD))) (some (.lst (K.map lotD))) (some (lotD (sureL n K))) (some (lotD (freeL n K))) (some (lotD (openL n K))) (some (.lst [lotD (sureL n K), lotD (freeL n K), lotD (openL n K), lotD (sureL n K), lotD (freeL n K), lotD (openL n K)])) (some (.lst (intsD (spoilL n B)))) none none none none (some (.int (t : Int))) none none none none none none), rfl, rfl, ?_⟩
    have hb := hBs4.src (ev := (P (some (tblF n M)) (some (.str sh)) (some (.int (n : Int))) (some (.ref kb)) (some (.lst (intsD (List.range n)))) (some (.lst (C.map lotD))) (some (.lst (K.map lotD))) (some (lotD (sureL n K))) (some (lotD (freeL n K))) (some (lotD (openL n K))) (some (.lst [lotD (sureL n K), lotD (freeL n K), lotD (openL n K), lotD (sureL n K), lotD (freeL n K), lotD (openL n K)])) (some (.lst (intsD (spoilL n B)))) none none none none (some (.int (t : Int))) none none none none none none)) (i := 4) rfl
    have c8 : c8__law_right (P (some (tblF n M)) (some (.str sh)) (some (.int (n : Int))) (some (.ref kb)) (some (.lst (intsD (List.range n)))) (some (.lst (C.map lotD))) (some (.lst (K.map lotD))) (some (lotD (sureL n K))) (some (lotD (freeL n K))) (some (lotD (openL n K))) (some (.lst [lotD (sureL n K), lotD (freeL n K), lotD (openL n K), lotD (sureL n K), lotD (freeL n K), lotD (openL n K)])) (some (.lst (intsD (spoilL n B)))) none none none none (some (.int (t : Int))) none none none none none none) S4 = .ok (.lst ((B.filter fun q => q.contains t).map lotD)) S4 := by
      unfold c8__law_right
      refine lc_if B lotD (fun q => q.contains t) lotD hb.1 (hb.2 _) (by omega) fun q hq => ?_
      exact ⟨(P (some (tblF n M)) (some (.str sh)) (some (.int (n : Int))) (some (.ref kb)) (some (.lst (intsD (List.range n)))) (some (.lst (C.map lotD))) (some (.lst (K.map lotD))) (some (lotD (sureL n K))) (some (lotD (freeL n K))) (some (lotD (openL n K))) (some (.lst [lotD (sureL n K), lotD (freeL n K), lotD (openL n K), lotD (sureL n K), lotD (freeL n K), lotD (openL n K)])) (some (.lst (intsD (spoilL n B)))) none none none none (some (.int (t : Int))) none none none none (some (lotD q)) none), rfl, mT_bl ((m2_eq rfl rfl).trans (in_lot t q S4)), fun _ => rfl⟩
    refine (mL_eq (cons_ok c8 nil_ok)).trans ((Sq.lst _).len.trans ?_)
    rw [List.length_map]
  have hsp : (spoilL n B).length ≤ 100 := by
    have h1 := List.length_filter_le (fun t => !decide (B = []) && curesB B [t]) (List.range n)
    rw [List.length_range] at h1
    exact Nat.le_trans h1 (by omega)
  have hbl : (blameL n B).length ≤ 100 := by unfold blameL; rw [List.length_map, List.length_range]; omega
  obtain ⟨A1, a1⟩ := so S4
  obtain ⟨A2, a2⟩ := bo (S4 ++ A1 ++ [.lst (intsD (spoilL n B))])
  obtain ⟨A3, a3⟩ := so (S4 ++ A1 ++ [.lst (intsD (spoilL n B))] ++ A2 ++ [.lst (intsD (blameL n B))])
  obtain ⟨A4, a4⟩ := bo (S4 ++ A1 ++ [.lst (intsD (spoilL n B))] ++ A2 ++ [.lst (intsD (blameL n B))] ++ A3 ++ [.lst (intsD (spoilL n B))])
  have c1 := get_app (get_app (get_app (get_app (get_app (get_app (get_end (S4 ++ A1) (.lst (intsD (spoilL n B)))) A2) [.lst (intsD (blameL n B))]) A3) [.lst (intsD (spoilL n B))]) A4) [.lst (intsD (blameL n B))]
  have c2 := get_app (get_app (get_app (get_app (get_end (S4 ++ A1 ++ [.lst (intsD (spoilL n B))] ++ A2) (.lst (intsD (blameL n B)))) A3) [.lst (intsD (spoilL n B))]) A4) [.lst (intsD (blameL n B))]
  have c3 := get_app (get_app (get_end (S4 ++ A1 ++ [.lst (intsD (spoilL n B))] ++ A2 ++ [.lst (intsD (blameL n B))] ++ A3) (.lst (intsD (spoilL n B)))) A4) [.lst (intsD (blameL n B))]
  have c4 := get_end (S4 ++ A1 ++ [.lst (intsD (spoilL n B))] ++ A2 ++ [.lst (intsD (blameL n B))] ++ A3 ++ [.lst (intsD (spoilL n B))] ++ A4) (.lst (intsD (blameL n B)))
  have hBs5 := (((((((hBs4.app A1).app [.lst (intsD (spoilL n B))]).app A2).app [.lst (intsD (blameL n B))]).app A3).app [.lst (intsD (spoilL n B))]).app A4).app [.lst (intsD (blameL n B))]
  have hK5 := (((((((hK4.app A1).app [.lst (intsD (spoilL n B))]).app A2).app [.lst (intsD (blameL n B))]).app A3).app [.lst (intsD (spoilL n B))]).app A4).app [.lst (intsD (blameL n B))]
  generalize hev : (P (some (tblF n M)) (some (.str sh)) (some (.int (n : Int))) (some (.ref kb)) (some (.lst (intsD (List.range n)))) (some (.lst (C.map lotD))) (some (.lst (K.map lotD))) (some (lotD (sureL n K))) (some (lotD (freeL n K))) (some (lotD (openL n K))) (some (.lst [lotD (sureL n K), lotD (freeL n K), lotD (openL n K), lotD (sureL n K), lotD (freeL n K), lotD (openL n K)])) (some (.lst (intsD (spoilL n B)))) (some (.lst (intsD (blameL n B)))) none none none none none none none none none none) = ev at *
  have v1 : ∀ S, mVar 1 ev S = .ok (tblF n M) S := fun S => by subst hev; rfl
  have v4 : ∀ S, mVar 4 ev S = .ok (.ref kb) S := fun S => by subst hev; rfl
  have v12 : ∀ S, mVar 12 ev S = .ok (.lst (intsD (spoilL n B))) S := fun S => by subst hev; rfl
  have v13 : ∀ S, mVar 13 ev S = .ok (.lst (intsD (blameL n B))) S := fun S => by subst hev; rfl
  have b1 : mL (plst false) (mCons (mCall 1 m_spoilers (mCons (mVar 1) (mNil))) (mCons (mCall 1 m_blames (mCons (mVar 1) (mNil))) (mCons (mCallK 0 (["table"] : List Str).length [0] m_spoilers mNil (mkCons (mVar 1) (mkNil))) (mCons (mCallK 0 (["table"] : List Str).length [0] m_blames mNil (mkCons (mVar 1) (mkNil))) (mNil))))) ev S4 = _ :=
    (mL_eq (cons_ok ((call_eq (cons_ok (v1 _) nil_ok) rfl).trans a1) (cons_ok ((call_eq (cons_ok (v1 _) nil_ok) rfl).trans a2) (cons_ok ((callK_eq (ds := []) (zs := [tblF n M]) rfl (kcons_ok (v1 _) knil_ok) rfl rfl).trans a3) (cons_ok ((callK_eq (ds := []) (zs := [tblF n M]) rfl (kcons_ok (v1 _) knil_ok) rfl rfl).trans a4) nil_ok))))).trans rfl
  have b2 : ∀ S, mL (plst false) (mCons (mVar 12) (mCons (mVar 13) (mCons (mVar 12) (mCons (mVar 13) (mNil))))) ev S = .ok (.lst [.lst (intsD (spoilL n B)), .lst (intsD (blameL n B)), .lst (intsD (spoilL n B)), .lst (intsD (blameL n B))]) S := fun S => (mL_eq (cons_ok (v12 _) (cons_ok (v13 _) (cons_ok (v12 _) (cons_ok (v13 _) nil_ok))))).trans rfl
  generalize hS5 : S4 ++ A1 ++ [Cell.lst (intsD (spoilL n B))] ++ A2 ++ [Cell.lst (intsD (blameL n B))] ++ A3 ++ [Cell.lst (intsD (spoilL n B))] ++ A4 ++ [Cell.lst (intsD (blameL n B))] = S5 at *
  have t2 : mTr (mCall 2 m__law_same (mCons (mL (plst false) (mCons (mCall 1 m_spoilers (mCons (mVar 1) (mNil))) (mCons (mCall 1 m_blames (mCons (mVar 1) (mNil))) (mCons (mCallK 0 (["table"] : List Str).length [0] m_spoilers mNil (mkCons (mVar 1) (mkNil))) (mCons (mCallK 0 (["table"] : List Str).length [0] m_blames mNil (mkCons (mVar 1) (mkNil))) (mNil)))))) (mCons (mL (plst false) (mCons (mVar 12) (mCons (mVar 13) (mCons (mVar 12) (mCons (mVar 13) (mNil)))))) (mNil)))) ev S4 = .ok true S5 := by
    refine tr_bl ((call_eq (cons_ok b1 (cons_ok (b2 _) nil_ok)) rfl).trans ?_)
    rw [same_is]
    refine same_r 8 _ _ S5 (same_zip (n := 7) [(.ref _, .lst (intsD (spoilL n B))), (.ref _, .lst (intsD (blameL n B))), (.ref _, .lst (intsD (spoilL n B))), (.ref _, .lst (intsD (blameL n B)))] (by simp) fun p hp => ?_)
    simp only [List.mem_cons, List.not_mem_nil, or_false] at hp
    rcases hp with rfl | rfl | rfl | rfl
    · exact same_ints 5 (l := spoilL n B) (by simp only [seqM, c1]) rfl (by omega)
    · exact same_ints 5 (l := blameL n B) (by simp only [seqM, c2]) rfl (by omega)
    · exact same_ints 5 (l := spoilL n B) (by simp only [seqM, c3]) rfl (by omega)
    · exact same_ints 5 (l := blameL n B) (by simp only [seqM, c4]) rfl (by omega)
  have t3 : tOrM (mT (m2 pne (mL psum (mCons (mVar 13) (mNil))) (m2 (pmul false) (mC (.int 4)) (mL plen (mCons (mVar 4) (mNil)))))) (tAndM (mT (m2 pin (mC (.int 0)) (mVar 13))) (mT (m2 (pcmp fun i j => decide (j < i)) (mL psum (mCons (mVar 13) (mNil))) (mC (.int 0))))) ev S5 = .ok false S5 := by
    have p0 : mL psum (mCons (mVar 13) (mNil)) ev S5 = .ok (.int ((blameL n B).sum : Int)) S5 := (mL_eq (cons_ok (v13 _) nil_ok)).trans (psum_ints _ S5)
    have p1 : m2 (pmul false) (mC (.int 4)) (mL plen (mCons (mVar 4) (mNil))) ev S5 = .ok (.int (4 * (B.length : Int))) S5 := by
      refine (m2_eq rfl ((mL_eq (cons_ok (v4 _) nil_ok)).trans (Sq.ref hBs5).len)).trans ?_
      rw [List.length_map]
      simp [pmul]
    refine (tor_f (S1 := S5) (mT_bl ((m2_eq p0 p1).trans ((pne_int _ _ _).trans ?_)))).trans ?_
    · rw [decide_eq_true (show ((blameL n B).sum : Int) = 4 * (B.length : Int) by omega)]
      rfl
    · have p2 : mT (m2 pin (mC (.int 0)) (mVar 13)) ev S5 = .ok ((blameL n B).contains 0) S5 := mT_bl ((m2_eq rfl (v13 _)).trans (in_ints 0 _ S5))
      cases hz : (blameL n B).contains 0 with
      | false => rw [hz] at p2; exact tand_f p2
      | true =>
        rw [hz] at p2
        refine (tand_t p2).trans (mT_bl ((m2_eq p0 rfl).trans ?_))
        have hBn := hbn (by simpa using hz)
        show R.ok (D.bl (decide ((0 : Int) < ((blameL n B).sum : Int)))) S5 = _
        rw [decide_eq_false]
        rw [hBn] at hbs
        have : (blameL n B).sum = 0 := by rw [hBn]; simpa using hbs
        omega
  have hee : ev = EV (tblF n M) (.str sh) n kb C K (sureL n K) (freeL n K) (openL n K) (.lst [lotD (sureL n K), lotD (freeL n K), lotD (openL n K), lotD (sureL n K), lotD (freeL n K), lotD (openL n K)]) (spoilL n B) (blameL n B) none none none none none none none none none none := by rw [← hev]; rfl
  obtain ⟨ev6, S6, q6, k6, x14, x15, x16, rfl⟩ := for_nx (tg := tgN 14) (body := w1__law_right) (c := ⟨(List.range 3).map fun (i : Nat) => D.int (i : Int), []⟩) (fun (i : Nat) => D.int (i : Int))
    (fun i ev S' => Kp 0 S2 S' ∧ ∃ x14 x15 x16, ev = EV (tblF n M) (.str sh) n kb C K (sureL n K) (freeL n K) (openL n K) (.lst [lotD (sureL n K), lotD (freeL n K), lotD (openL n K), lotD (sureL n K), lotD (freeL n K), lotD (openL n K)]) (spoilL n B) (blameL n B) x14 x15 x16 none none none none none none none)
    (fun _ _ _ _ => rfl) (List.range 3) 0 ev S5
    (fun i x hx ev S' hI => by
      obtain ⟨hI, x14, x15, x16, rfl⟩ := hI
      obtain ⟨y15, y16, S'', q1, q2⟩ := w1 (sh := .str sh) (told := .lst [lotD (sureL n K), lotD (freeL n K), lotD (openL n K), lotD (sureL n K), lotD (freeL n K), lotD (openL n K)]) (fr := freeL n K) (re := openL n K) (al := spoilL n B) (bl := blameL n B) (z14 := some (.int (x : Int))) (z15 := x15) (z16 := x16) (z17 := none) (z18 := none) (z19 := none) (z20 := none) (z21 := none) (z22 := none) (z23 := none) hI
      exact ⟨EV (tblF n M) (.str sh) n kb C K (sureL n K) (freeL n K) (openL n K) (.lst [lotD (sureL n K), lotD (freeL n K), lotD (openL n K), lotD (sureL n K), lotD (freeL n K), lotD (openL n K)]) (spoilL n B) (blameL n B) (some (.int (x : Int))) x15 x16 none none none none none none none, _, S'', rfl, .inl q1, q2, _, _, _, rfl⟩) ⟨hK5, none, none, none, hee⟩
  have s12 : l1__law_right ev S5 = .ok .nx (EV (tblF n M) (.str sh) n kb C K (sureL n K) (freeL n K) (openL n K) (.lst [lotD (sureL n K), lotD (freeL n K), lotD (openL n K), lotD (sureL n K), lotD (freeL n K), lotD (openL n K)]) (spoilL n B) (blameL n B) x14 x15 x16 none none none none none none none) S6 := by
    unfold l1__law_right
    rw [sFor_eq (src_range1 (n := 3) (cons_ok rfl nil_ok) (by omega))]
    exact q6
  have hBs6 : Bs S6 kb B := by
    unfold Bs
    rw [k6.keep kb (List.getElem?_eq_some_iff.mp hBs).1 h0k]
    exact hBs
  obtain ⟨ev7, S7, q7, ⟨T7, rfl⟩, y16, y17, y18, y19, y20, y21, rfl⟩ := for_nx (tg := tgN 17) (body := w2__law_right) (c := ⟨(List.range n).map fun (i : Nat) => D.int (i : Int), []⟩) (fun (i : Nat) => D.int (i : Int))
    (fun i ev S' => (∃ T, S' = S6 ++ T) ∧ ∃ y16 y17 y18 y19 y20 y21, ev = EV (tblF n M) (.str sh) n kb C K (sureL n K) (freeL n K) (openL n K) (.lst [lotD (sureL n K), lotD (freeL n K), lotD (openL n K), lotD (sureL n K), lotD (freeL n K), lotD (openL n K)]) (spoilL n B) (blameL n B) x14 x15 y16 y17 y18 y19 y20 y21 none none)
    (fun _ _ _ _ => rfl) (List.range n) 0 (EV (tblF n M) (.str sh) n kb C K (sureL n K) (freeL n K) (openL n K) (.lst [lotD (sureL n K), lotD (freeL n K), lotD (openL n K), lotD (sureL n K), lotD (freeL n K), lotD (openL n K)]) (spoilL n B) (blameL n B) x14 x15 x16 none none none none none none none) S6
    (fun i x hx ev S' hI => by
      obtain ⟨⟨T, rfl⟩, y16, y17, y18, y19, y20, y21, rfl⟩ := hI
      obtain ⟨rfl, hin⟩ := rangeT n i x hx
      obtain ⟨z16, z18, z19, z20, z21, T', q1⟩ := w2 (sh := .str sh) (told := .lst [lotD (sureL n K), lotD (freeL n K), lotD (openL n K), lotD (sureL n K), lotD (freeL n K), lotD (openL n K)]) (fr := freeL n K) (re := openL n K) (al := spoilL n B) (bl := blameL n B) (z14 := x14) (z15 := x15) (z16 := y16) (z18 := y18) (z19 := y19) (z20 := y20) (z21 := y21) (z22 := none) (z23 := none) hin (hBs6.app T)
      exact ⟨EV (tblF n M) (.str sh) n kb C K (sureL n K) (freeL n K) (openL n K) (.lst [lotD (sureL n K), lotD (freeL n K), lotD (openL n K), lotD (sureL n K), lotD (freeL n K), lotD (openL n K)]) (spoilL n B) (blameL n B) x14 x15 y16 (some (.int (x : Int))) y18 y19 y20 y21 none none, _, _, rfl, .inl q1, ⟨T ++ T', by rw [List.append_assoc]⟩, _, _, _, _, _, _, rfl⟩) ⟨⟨[], by rw [List.append_nil]⟩, _, _, _, _, _, _, rfl⟩
  have s13 : l2__law_right (EV (tblF n M) (.str sh) n kb C K (sureL n K) (freeL n K) (openL n K) (.lst [lotD (sureL n K), lotD (freeL n K), lotD (openL n K), lotD (sureL n K), lotD (freeL n K), lotD (openL n K)]) (spoilL n B) (blameL n B) x14 x15 x16 none none none none none none none) S6 = .ok .nx (EV (tblF n M) (.str sh) n kb C K (sureL n K) (freeL n K) (openL n K) (.lst [lotD (sureL n K), lotD (freeL n K), lotD (openL n K), lotD (sureL n K), lotD (freeL n K), lotD (openL n K)]) (spoilL n B) (blameL n B) x14 x15 y16 y17 y18 y19 y20 y21 none none) (S6 ++ T7) := by
    unfold l2__law_right
    rw [sFor_eq (src_seq (d := .lst (intsD (List.range n))) (c := ⟨(List.range n).map (fun (t : Nat) => D.int (t : Int)), []⟩) rfl rfl)]
    exact q7
  have hP7 := k6.pot.app T7
  generalize hS7 : S6 ++ T7 = S7 at *
  generalize hev2 : EV (tblF n M) (.str sh) n kb C K (sureL n K) (freeL n K) (openL n K) (.lst [lotD (sureL n K), lotD (freeL n K), lotD (openL n K), lotD (sureL n K), lotD (freeL n K), lotD (openL n K)]) (spoilL n B) (blameL n B) x14 x15 y16 y17 y18 y19 y20 y21 none none = ev2 at *
  have v1' : ∀ S, mVar 1 ev2 S = .ok (tblF n M) S := fun S => by subst hev2; rfl
  have v2' : ∀ S, mVar 2 ev2 S = .ok (.str sh) S := fun S => by subst hev2; rfl
  have v12' : ∀ S, mVar 12 ev2 S = .ok (.lst (intsD (spoilL n B))) S := fun S => by subst hev2; rfl
  have v13' : ∀ S, mVar 13 ev2 S = .ok (.lst (intsD (blameL n B))) S := fun S => by subst hev2; rfl
  obtain ⟨F1, f1⟩ := bo S7
  have s14 : sExpr (mMe isSeq pappend (mCall 1 m_blames (mCons (mVar 1) (mNil))) (mCons (mC .non) (mNil))) ev2 S7 = .ok .nx ev2 (S7 ++ F1 ++ [.lst (intsD (blameL n B) ++ [.non])]) := by
    refine (app_tmp ((call_eq (cons_ok (v1' _) nil_ok) rfl).trans f1) (get_end _ _) rfl (by unfold intsD; rw [List.length_map]; omega)).trans ?_
    rw [List.set_append_right _ _ (Nat.le_refl _), Nat.sub_self]
    rfl
  have hP8 := (hP7.app F1).app [.lst (intsD (blameL n B) ++ [.non])]
  generalize hS8 : S7 ++ F1 ++ [Cell.lst (intsD (blameL n B) ++ [.non])] = S8 at *
  obtain ⟨F2, f2⟩ := so S8
  have s15 : sExpr (mMe isSeq pappend (mCall 1 m_spoilers (mCons (mVar 1) (mNil))) (mCons (mC .non) (mNil))) ev2 S8 = .ok .nx ev2 (S8 ++ F2 ++ [.lst (intsD (spoilL n B) ++ [.non])]) := by
    refine (app_tmp ((call_eq (cons_ok (v1' _) nil_ok) rfl).trans f2) (get_end _ _) rfl (by unfold intsD; rw [List.length_map]; omega)).trans ?_
    rw [List.set_append_right _ _ (Nat.le_refl _), Nat.sub_self]
    rfl
  have hP9 := (hP8.app F2).app [.lst (intsD (spoilL n B) ++ [.non])]
  generalize hS9 : S8 ++ F2 ++ [Cell.lst (intsD (spoilL n B) ++ [.non])] = S9 at *
  obtain ⟨F3, f3⟩ := bo S9
  obtain ⟨F4, f4⟩ := so (S9 ++ F3 ++ [.lst (intsD (blameL n B))])
  have g3 := get_app (get_app (get_end (S9 ++ F3) (.lst (intsD (blameL n B)))) F4) [.lst (intsD (spoilL n B))]
  have g4 := get_end (S9 ++ F3 ++ [.lst (intsD (blameL n B))] ++ F4) (.lst (intsD (spoilL n B)))
  have hP10 := (((hP9.app F3).app [.lst (intsD (blameL n B))]).app F4).app [.lst (intsD (spoilL n B))]
  have d1 : mL (plst false) (mCons (mCall 1 m_blames (mCons (mVar 1) (mNil))) (mCons (mCall 1 m_spoilers (mCons (mVar 1) (mNil))) (mNil))) ev2 S9 = _ := (mL_eq (cons_ok ((call_eq (cons_ok (v1' _) nil_ok) rfl).trans f3) (cons_ok ((call_eq (cons_ok (v1' _) nil_ok) rfl).trans f4) nil_ok))).trans rfl
  have d2 : ∀ S, mL (plst false) (mCons (mVar 13) (mCons (mVar 12) (mNil))) ev2 S = .ok (.lst [.lst (intsD (blameL n B)), .lst (intsD (spoilL n B))]) S := fun S => (mL_eq (cons_ok (v13' _) (cons_ok (v12' _) nil_ok))).trans rfl
  generalize hS10 : S9 ++ F3 ++ [Cell.lst (intsD (blameL n B))] ++ F4 ++ [Cell.lst (intsD (spoilL n B))] = S10 at *
  have r1 : mCall 2 m__law_same (mCons (mL (plst false) (mCons (mCall 1 m_blames (mCons (mVar 1) (mNil))) (mCons (mCall 1 m_spoilers (mCons (mVar 1) (mNil))) (mNil)))) (mCons (mL (plst false) (mCons (mVar 13) (mCons (mVar 12) (mNil)))) (mNil))) ev2 S9 = .ok (.bl true) S10 := by
    refine (call_eq (cons_ok d1 (cons_ok (d2 _) nil_ok)) rfl).trans ?_
    rw [same_is]
    refine same_r 8 _ _ S10 (same_zip (n := 7) [(.ref _, .lst (intsD (blameL n B))), (.ref _, .lst (intsD (spoilL n B)))] (by simp) fun p hp => ?_)
    simp only [List.mem_cons, List.not_mem_nil, or_false] at hp
    rcases hp with rfl | rfl
    · exact same_ints 5 (l := blameL n B) (by simp only [seqM, g3]) rfl (by omega)
    · exact same_ints 5 (l := spoilL n B) (by simp only [seqM, g4]) rfl (by omega)
  have r2 : m2 peq (mL prepr (mCons (mVar 1) (mNil))) (mVar 2) ev2 S10 = .ok (.bl true) S10 := by
    refine (m2_eq ((mL_eq (cons_ok (v1' _) nil_ok)).trans (rp _)) (v2' _)).trans ?_
    show R.ok (D.bl (decide (sh = sh))) _ = _
    rw [decide_eq_true rfl]
  refine ⟨S10, ?_, hP10⟩
  unfold m__law_right b__law_right
  exact def_rt (ev1 := ev2) (cons_nx s1 (cons_nx s2 (cons_nx s3 (cons_nx s4 (cons_nx s5 (cons_nx s6 (cons_nx s7 (cons_nx s8 (cons_nx s9 (cons_nx (if_no (not_ok t1)) (cons_nx s10 (cons_nx s11 (cons_nx (if_no (not_ok t2)) (cons_nx (if_no t3) (cons_nx s12 (cons_nx s13 (cons_nx s14 (cons_nx s15 (ret_eq ((and_t r1).trans r2))))))))))))))))))))
end Mk81


set_option Elab.async false
set_option linter.all false
set_option maxRecDepth 100000
set_option autoImplicit false
set_option maxHeartbeats 4000000
namespace Mk81
open ML PySem PySem.Spec PyProof.Rows L2
theorem plain (ns : List Int) (hn : ns.length ≤ 63) : ∃ S, m_law [.rol (ns.map D.int)] [] = .ok (.bl true) S := by
  obtain ⟨a, b, ha, e0⟩ := pot_ok ns 0 (by omega) []
  have hset : sSet 1 (mCall 2 m__law_pot (mCons (mVar 0) (mCons (mC (.int 0)) (mNil)))) [some (.rol (ns.map D.int)), none, none] [] = .ok .nx [some (.rol (ns.map D.int)), some (.ref 0), none] [.lst [.int a, .int b]] := by
    rw [pot_is]
    exact set_eq ((call_eq (cons_ok rfl (cons_ok rfl nil_ok)) rfl).trans e0)
  have hI : ∀ S, Pot S 0 → Src.live ⟨(List.range 3).map fun (i : Nat) => D.int (i : Int), []⟩ S = true := fun _ _ => rfl
  obtain ⟨ys, S', q1, q2, q3, q4⟩ := lc_inv (tg := tgN 2) (cond := mYes) (el := mCall 1 m__law_right (mCons (mVar 1) (mNil))) (ev := [some (.rol (ns.map D.int)), some (.ref 0), none]) (c := ⟨(List.range 3).map fun (i : Nat) => D.int (i : Int), []⟩) (fun S => Pot S 0) (fun y => y = .bl true) hI
    ((List.range 3).map fun (i : Nat) => D.int (i : Int)) [] [.lst [.int a, .int b]]
    (fun d _ S hS => by
      obtain ⟨S', r1, r2⟩ := lright_ok hS
      exact ⟨[some (.rol (ns.map D.int)), some (.ref 0), some d], S, S, .bl true, S', rfl, rfl, (call_eq (cons_ok rfl nil_ok) rfl).trans r1, r2, rfl⟩)
    ⟨a, b, ha, rfl⟩ (by simp)
  have hys : ys = [true, true, true].map D.bl := by
    rw [List.length_map, List.length_range] at q2
    match ys, q2, q3 with
    | [y1, y2, y3], _, q3 => rw [q3 y1 (by simp), q3 y2 (by simp), q3 y3 (by simp)]; rfl
  have hc : c1_law [some (.rol (ns.map D.int)), some (.ref 0), none] [.lst [.int a, .int b]] = .ok (.lst ys) S' := by
    unfold c1_law mLc
    rw [src_range1 (n := 3) (cons_ok rfl nil_ok) (by omega), bind_ok]
    show (noEx (lcL (tgN 2) mYes (mCall 1 m__law_right (mCons (mVar 1) (mNil))) [some (.rol (ns.map D.int)), some (.ref 0), none] ⟨(List.range 3).map fun (i : Nat) => D.int (i : Int), []⟩ ((List.range 3).map fun (i : Nat) => D.int (i : Int)) [] [.lst [.int a, .int b]])).bind _ = _
    rw [q1]
    rfl
  refine ⟨S', ?_⟩
  unfold m_law b_law
  refine def_rt (cons_nx hset (ret_eq ((mL_eq (cons_ok hc nil_ok)).trans ?_)))
  rw [hys, pall_bl]
  rfl
end Mk81


open PySem PySem.W PyProof.Rows
set_option maxRecDepth 100000 in
set_option maxHeartbeats 0 in
theorem PySem.Challenge.cw_splitroads_k81_whole_suspects_and_believ_holds : PySem.Challenge.rw_splitroads_k81_whole_suspects_and_believ.Holds := by
  w_on; o_law; k_head; (case hw => w_witness2)
  k_fill
  refine ML.walk_G (l := PySem.Challenge.rw_splitroads_k81_whole_suspects_and_believ) (n := 63) (k := 11) (x := "script") (m := Mk81.m_law) rfl (by decide) rfl ⟨rfl, by decide, by decide⟩ rfl (fun w h Y => PySem.W.kIn_of Y) ?F Mk81.plain
  case F =>
    intro w mg fa h KX G hmg
    have x_InvalidLot : ∃ C fI, ML.Low.LowTxt (L2.KOf KX) mg "InvalidLot" "value" "RoadError.__init__" C fI := by
      refine' ML.mk_low KX G Mk81.fo_value (p1 := ⟨15, 17, 15, 21⟩) (p2 := ⟨15, 23, 15, 28⟩) (q1 := ⟨16, 8, 16, 12⟩) (q2 := ⟨16, 8, 16, 18⟩) (q3 := ⟨16, 21, 16, 26⟩) (q4 := ⟨16, 8, 16, 26⟩) ?aC ?xL ?sa ?ga ?gg ?nb ?a1 ?t1 ?l1 ?c1 ?kC ?eC ?tC ?hC ?hbm
      (case aC => k_is); (case xL => k_is); (case sa => k_is); (case ga => k_is); (case gg => k_is); (case nb => k_is); (case a1 => k_is); (case t1 => k_is); (case l1 => k_is); (case c1 => k_is); (case kC => k_is); (case eC => k_is); (case tC => k_is); (case hC => k_is); (case hbm => decide +kernel)
    have x_InvalidTable : ∃ C fI, ML.Low.LowTxt (L2.KOf KX) mg "InvalidTable" "value" "RoadError.__init__" C fI := by
      refine' ML.mk_low KX G Mk81.fo_value (p1 := ⟨15, 17, 15, 21⟩) (p2 := ⟨15, 23, 15, 28⟩) (q1 := ⟨16, 8, 16, 12⟩) (q2 := ⟨16, 8, 16, 18⟩) (q3 := ⟨16, 21, 16, 26⟩) (q4 := ⟨16, 8, 16, 26⟩) ?aC ?xL ?sa ?ga ?gg ?nb ?a1 ?t1 ?l1 ?c1 ?kC ?eC ?tC ?hC ?hbm
      (case aC => k_is); (case xL => k_is); (case sa => k_is); (case ga => k_is); (case gg => k_is); (case nb => k_is); (case a1 => k_is); (case t1 => k_is); (case l1 => k_is); (case c1 => k_is); (case kC => k_is); (case eC => k_is); (case tC => k_is); (case hC => k_is); (case hbm => decide +kernel)
    have x_InvalidTown : ∃ C fI, ML.Low.LowTxt (L2.KOf KX) mg "InvalidTown" "value" "RoadError.__init__" C fI := by
      refine' ML.mk_low KX G Mk81.fo_value (p1 := ⟨15, 17, 15, 21⟩) (p2 := ⟨15, 23, 15, 28⟩) (q1 := ⟨16, 8, 16, 12⟩) (q2 := ⟨16, 8, 16, 18⟩) (q3 := ⟨16, 21, 16, 26⟩) (q4 := ⟨16, 8, 16, 26⟩) ?aC ?xL ?sa ?ga ?gg ?nb ?a1 ?t1 ?l1 ?c1 ?kC ?eC ?tC ?hC ?hbm
      (case aC => k_is); (case xL => k_is); (case sa => k_is); (case ga => k_is); (case gg => k_is); (case nb => k_is); (case a1 => k_is); (case t1 => k_is); (case l1 => k_is); (case c1 => k_is); (case kC => k_is); (case eC => k_is); (case tC => k_is); (case hC => k_is); (case hbm => decide +kernel)
    have x_RoadError : ∃ C fI, ML.Low.LowTxt (L2.KOf KX) mg "RoadError" "value" "RoadError.__init__" C fI := by
      refine' ML.mk_low KX G Mk81.fo_value (p1 := ⟨15, 17, 15, 21⟩) (p2 := ⟨15, 23, 15, 28⟩) (q1 := ⟨16, 8, 16, 12⟩) (q2 := ⟨16, 8, 16, 18⟩) (q3 := ⟨16, 21, 16, 26⟩) (q4 := ⟨16, 8, 16, 26⟩) ?aC ?xL ?sa ?ga ?gg ?nb ?a1 ?t1 ?l1 ?c1 ?kC ?eC ?tC ?hC ?hbm
      (case aC => k_is); (case xL => k_is); (case sa => k_is); (case ga => k_is); (case gg => k_is); (case nb => k_is); (case a1 => k_is); (case t1 => k_is); (case l1 => k_is); (case c1 => k_is); (case kC => k_is); (case eC => k_is); (case tC => k_is); (case hC => k_is); (case hbm => decide +kernel)
    have e : Mk81.Env (L2.KOf KX) mg := by
      refine' { f_is_integer := ?f_is_integer, f_is_count := ?f_is_count, f_is_position := ?f_is_position, f_is_rising := ?f_is_rising, f_sizes_are_right := ?f_sizes_are_right, f_flaw_of := ?f_flaw_of, f_table_is_right := ?f_table_is_right, f_many_of_tables := ?f_many_of_tables, f_far_of := ?f_far_of, f_short_of := ?f_short_of, f_check_table_tables := ?f_check_table_tables, f_is_table := ?f_is_table, f_short_triple := ?f_short_triple, f_many_of := ?f_many_of, f_many_of__many_of_webs := ?f_many_of__many_of_webs, f_three_sums := ?f_three_sums, f_four_badness := ?f_four_badness, f_fours_of := ?f_fours_of, f_bad_fours := ?f_bad_fours, f_lots_of := ?f_lots_of, f_meets := ?f_meets, f_cures := ?f_cures, f_first_cure := ?f_first_cure, f_least_of := ?f_least_of, f_least_ones := ?f_least_ones, f_believing_of := ?f_believing_of, f_lot_is_right := ?f_lot_is_right, f_check_table := ?f_check_table, f_check_table__check_table_suspects := ?f_check_table__check_table_suspects, f_check_metric := ?f_check_metric, f_check_known := ?f_check_known, f_check_town := ?f_check_town, f_suspects := ?f_suspects, f_trusted := ?f_trusted, f_open_towns := ?f_open_towns, f_spoilers := ?f_spoilers, f_blames := ?f_blames, f_least_among := ?f_least_among, f_believing := ?f_believing, f_price := ?f_price, f_need := ?f_need, f__law_pot := ?f__law_pot, f__law_draw := ?f__law_draw, f__law_same := ?f__law_same, f__law_far := ?f__law_far, f__law_table := ?f__law_table, f__law_closed := ?f__law_closed, f__law_tree_rows := ?f__law_tree_rows, f__law_metric := ?f__law_metric, f__law_fours := ?f__law_fours, f__law_sums := ?f__law_sums, f__law_bad := ?f__law_bad, f__law_lots := ?f__law_lots, f__law_meets := ?f__law_meets, f__law_cures := ?f__law_cures, f__law_among := ?f__law_among, f__law_need := ?f__law_need, f__law_right := ?f__law_right, f_law := ?f_law, b_abs := ?b_abs, b_all := ?b_all, b_any := ?b_any, b_bool := ?b_bool, b_enumerate := ?b_enumerate, b_int := ?b_int, b_isinstance := ?b_isinstance, b_len := ?b_len, b_list := ?b_list, b_max := ?b_max, b_min := ?b_min, b_range := ?b_range, b_repr := ?b_repr, b_sorted := ?b_sorted, b_str := ?b_str, b_sum := ?b_sum, b_tuple := ?b_tuple, b_zip := ?b_zip, k_MOST_FAR := ?k_MOST_FAR, k_MOST_TOWNS := ?k_MOST_TOWNS, x_InvalidTable := x_InvalidTable, x_RoadError := x_RoadError, xf_value := (ML.xf_cons x_RoadError (ML.xf_cons x_InvalidTable (ML.xf_cons x_InvalidTown (ML.xf_cons x_InvalidLot ML.xf_nil)))) }
      case f_is_integer => (refine' ML.mk_def KX G ?a ?l ?c ?k; (case a => k_is); (case l => k_is); (case c => k_is); (case k => k_is))
      case f_is_count => (refine' ML.mk_def KX G ?a ?l ?c ?k; (case a => k_is); (case l => k_is); (case c => k_is); (case k => k_is))
      case f_is_position => (refine' ML.mk_def KX G ?a ?l ?c ?k; (case a => k_is); (case l => k_is); (case c => k_is); (case k => k_is))
      case f_is_rising => (refine' ML.mk_def KX G ?a ?l ?c ?k; (case a => k_is); (case l => k_is); (case c => k_is); (case k => k_is))
      case f_sizes_are_right => (refine' ML.mk_def KX G ?a ?l ?c ?k; (case a => k_is); (case l => k_is); (case c => k_is); (case k => k_is))
      case f_flaw_of => (refine' ML.mk_def KX G ?a ?l ?c ?k; (case a => k_is); (case l => k_is); (case c => k_is); (case k => k_is))
      case f_table_is_right => (refine' ML.mk_def KX G ?a ?l ?c ?k; (case a => k_is); (case l => k_is); (case c => k_is); (case k => k_is))
      case f_many_of_tables => (refine' ML.mk_def KX G ?a ?l ?c ?k; (case a => k_is); (case l => k_is); (case c => k_is); (case k => k_is))
      case f_far_of => (refine' ML.mk_def KX G ?a ?l ?c ?k; (case a => k_is); (case l => k_is); (case c => k_is); (case k => k_is))
      case f_short_of => (refine' ML.mk_def KX G ?a ?l ?c ?k; (case a => k_is); (case l => k_is); (case c => k_is); (case k => k_is))
      case f_check_table_tables => (refine' ML.mk_def KX G ?a ?l ?c ?k; (case a => k_is); (case l => k_is); (case c => k_is); (case k => k_is))
      case f_is_table => (refine' ML.mk_def KX G ?a ?l ?c ?k; (case a => k_is); (case l => k_is); (case c => k_is); (case k => k_is))
      case f_short_triple => (refine' ML.mk_def KX G ?a ?l ?c ?k; (case a => k_is); (case l => k_is); (case c => k_is); (case k => k_is))
      case f_many_of => (refine' ML.mk_def KX G ?a ?l ?c ?k; (case a => k_is); (case l => k_is); (case c => k_is); (case k => k_is))
      case f_many_of__many_of_webs => (refine' ML.mk_def KX G ?a ?l ?c ?k; (case a => k_is); (case l => k_is); (case c => k_is); (case k => k_is))
      case f_three_sums => (refine' ML.mk_def KX G ?a ?l ?c ?k; (case a => k_is); (case l => k_is); (case c => k_is); (case k => k_is))
      case f_four_badness => (refine' ML.mk_def KX G ?a ?l ?c ?k; (case a => k_is); (case l => k_is); (case c => k_is); (case k => k_is))
      case f_fours_of => (refine' ML.mk_def KX G ?a ?l ?c ?k; (case a => k_is); (case l => k_is); (case c => k_is); (case k => k_is))
      case f_bad_fours => (refine' ML.mk_def KX G ?a ?l ?c ?k; (case a => k_is); (case l => k_is); (case c => k_is); (case k => k_is))
      case f_lots_of => (refine' ML.mk_def KX G ?a ?l ?c ?k; (case a => k_is); (case l => k_is); (case c => k_is); (case k => k_is))
      case f_meets => (refine' ML.mk_def KX G ?a ?l ?c ?k; (case a => k_is); (case l => k_is); (case c => k_is); (case k => k_is))
      case f_cures => (refine' ML.mk_def KX G ?a ?l ?c ?k; (case a => k_is); (case l => k_is); (case c => k_is); (case k => k_is))
      case f_first_cure => (refine' ML.mk_def KX G ?a ?l ?c ?k; (case a => k_is); (case l => k_is); (case c => k_is); (case k => k_is))
      case f_least_of => (refine' ML.mk_def KX G ?a ?l ?c ?k; (case a => k_is); (case l => k_is); (case c => k_is); (case k => k_is))
      case f_least_ones => (refine' ML.mk_def KX G ?a ?l ?c ?k; (case a => k_is); (case l => k_is); (case c => k_is); (case k => k_is))
      case f_believing_of => (refine' ML.mk_def KX G ?a ?l ?c ?k; (case a => k_is); (case l => k_is); (case c => k_is); (case k => k_is))
      case f_lot_is_right => (refine' ML.mk_def KX G ?a ?l ?c ?k; (case a => k_is); (case l => k_is); (case c => k_is); (case k => k_is))
      case f_check_table => (refine' ML.mk_def KX G ?a ?l ?c ?k; (case a => k_is); (case l => k_is); (case c => k_is); (case k => k_is))
      case f_check_table__check_table_suspects => (refine' ML.mk_def KX G ?a ?l ?c ?k; (case a => k_is); (case l => k_is); (case c => k_is); (case k => k_is))
      case f_check_metric => (refine' ML.mk_def KX G ?a ?l ?c ?k; (case a => k_is); (case l => k_is); (case c => k_is); (case k => k_is))
      case f_check_known => (refine' ML.mk_def KX G ?a ?l ?c ?k; (case a => k_is); (case l => k_is); (case c => k_is); (case k => k_is))
      case f_check_town => (refine' ML.mk_def KX G ?a ?l ?c ?k; (case a => k_is); (case l => k_is); (case c => k_is); (case k => k_is))
      case f_suspects => (refine' ML.mk_def KX G ?a ?l ?c ?k; (case a => k_is); (case l => k_is); (case c => k_is); (case k => k_is))
      case f_trusted => (refine' ML.mk_def KX G ?a ?l ?c ?k; (case a => k_is); (case l => k_is); (case c => k_is); (case k => k_is))
      case f_open_towns => (refine' ML.mk_def KX G ?a ?l ?c ?k; (case a => k_is); (case l => k_is); (case c => k_is); (case k => k_is))
      case f_spoilers => (refine' ML.mk_def KX G ?a ?l ?c ?k; (case a => k_is); (case l => k_is); (case c => k_is); (case k => k_is))
      case f_blames => (refine' ML.mk_def KX G ?a ?l ?c ?k; (case a => k_is); (case l => k_is); (case c => k_is); (case k => k_is))
      case f_least_among => (refine' ML.mk_def KX G ?a ?l ?c ?k; (case a => k_is); (case l => k_is); (case c => k_is); (case k => k_is))
      case f_believing => (refine' ML.mk_def KX G ?a ?l ?c ?k; (case a => k_is); (case l => k_is); (case c => k_is); (case k => k_is))
      case f_price => (refine' ML.mk_def KX G ?a ?l ?c ?k; (case a => k_is); (case l => k_is); (case c => k_is); (case k => k_is))
      case f_need => (refine' ML.mk_def KX G ?a ?l ?c ?k; (case a => k_is); (case l => k_is); (case c => k_is); (case k => k_is))
      case f__law_pot => (refine' ML.mk_def KX G ?a ?l ?c ?k; (case a => k_is); (case l => k_is); (case c => k_is); (case k => k_is))
      case f__law_draw => (refine' ML.mk_def KX G ?a ?l ?c ?k; (case a => k_is); (case l => k_is); (case c => k_is); (case k => k_is))
      case f__law_same => (refine' ML.mk_def KX G ?a ?l ?c ?k; (case a => k_is); (case l => k_is); (case c => k_is); (case k => k_is))
      case f__law_far => (refine' ML.mk_def KX G ?a ?l ?c ?k; (case a => k_is); (case l => k_is); (case c => k_is); (case k => k_is))
      case f__law_table => (refine' ML.mk_def KX G ?a ?l ?c ?k; (case a => k_is); (case l => k_is); (case c => k_is); (case k => k_is))
      case f__law_closed => (refine' ML.mk_def KX G ?a ?l ?c ?k; (case a => k_is); (case l => k_is); (case c => k_is); (case k => k_is))
      case f__law_tree_rows => (refine' ML.mk_def KX G ?a ?l ?c ?k; (case a => k_is); (case l => k_is); (case c => k_is); (case k => k_is))
      case f__law_metric => (refine' ML.mk_def KX G ?a ?l ?c ?k; (case a => k_is); (case l => k_is); (case c => k_is); (case k => k_is))
      case f__law_fours => (refine' ML.mk_def KX G ?a ?l ?c ?k; (case a => k_is); (case l => k_is); (case c => k_is); (case k => k_is))
      case f__law_sums => (refine' ML.mk_def KX G ?a ?l ?c ?k; (case a => k_is); (case l => k_is); (case c => k_is); (case k => k_is))
      case f__law_bad => (refine' ML.mk_def KX G ?a ?l ?c ?k; (case a => k_is); (case l => k_is); (case c => k_is); (case k => k_is))
      case f__law_lots => (refine' ML.mk_def KX G ?a ?l ?c ?k; (case a => k_is); (case l => k_is); (case c => k_is); (case k => k_is))
      case f__law_meets => (refine' ML.mk_def KX G ?a ?l ?c ?k; (case a => k_is); (case l => k_is); (case c => k_is); (case k => k_is))
      case f__law_cures => (refine' ML.mk_def KX G ?a ?l ?c ?k; (case a => k_is); (case l => k_is); (case c => k_is); (case k => k_is))
      case f__law_among => (refine' ML.mk_def KX G ?a ?l ?c ?k; (case a => k_is); (case l => k_is); (case c => k_is); (case k => k_is))
      case f__law_need => (refine' ML.mk_def KX G ?a ?l ?c ?k; (case a => k_is); (case l => k_is); (case c => k_is); (case k => k_is))
      case f__law_right => (refine' ML.mk_def KX G ?a ?l ?c ?k; (case a => k_is); (case l => k_is); (case c => k_is); (case k => k_is))
      case f_law => (refine' ML.mk_def KX G ?a ?l ?c ?k; (case a => k_is); (case l => k_is); (case c => k_is); (case k => k_is))
      case b_abs => (refine' PySem.W.mg_none_of KX G ?z; (case z => k_is))
      case b_all => (refine' PySem.W.mg_none_of KX G ?z; (case z => k_is))
      case b_any => (refine' PySem.W.mg_none_of KX G ?z; (case z => k_is))
      case b_bool => (refine' PySem.W.mg_none_of KX G ?z; (case z => k_is))
      case b_enumerate => (refine' PySem.W.mg_none_of KX G ?z; (case z => k_is))
      case b_int => (refine' PySem.W.mg_none_of KX G ?z; (case z => k_is))
      case b_isinstance => (refine' PySem.W.mg_none_of KX G ?z; (case z => k_is))
      case b_len => (refine' PySem.W.mg_none_of KX G ?z; (case z => k_is))
      case b_list => (refine' PySem.W.mg_none_of KX G ?z; (case z => k_is))
      case b_max => (refine' PySem.W.mg_none_of KX G ?z; (case z => k_is))
      case b_min => (refine' PySem.W.mg_none_of KX G ?z; (case z => k_is))
      case b_range => (refine' PySem.W.mg_none_of KX G ?z; (case z => k_is))
      case b_repr => (refine' PySem.W.mg_none_of KX G ?z; (case z => k_is))
      case b_sorted => (refine' PySem.W.mg_none_of KX G ?z; (case z => k_is))
      case b_str => (refine' PySem.W.mg_none_of KX G ?z; (case z => k_is))
      case b_sum => (refine' PySem.W.mg_none_of KX G ?z; (case z => k_is))
      case b_tuple => (refine' PySem.W.mg_none_of KX G ?z; (case z => k_is))
      case b_zip => (refine' PySem.W.mg_none_of KX G ?z; (case z => k_is))
      case k_MOST_FAR => (refine' ML.cst_int (PySem.W.mg_of KX G ?z); (case z => k_is))
      case k_MOST_TOWNS => (refine' ML.cst_int (PySem.W.mg_of KX G ?z); (case z => k_is))
    exact ML.law_fd (Mk81.ok_law e) Mk81.bp_law hmg
